import PyProof.Rows.All
import Wide.All
import OpenK.AllK
import Wide.FinOn
import HandS.ForMost
import HandS.Conv
import HandS.Deep
import HandS.Style
import HandS.TupAny
import HandS.DictComp
import HandS.Defaults
import HandS.Exc
import HandS.ExcOwn
import HandS.TryOnly
import HandS.WordsExc
import HandS.CallRecv
import HandS.SetKeys
import HandS.Flow
import HandS.NoneIn
import HandS.More
import HandS.SetFor
import HandS.HeadHook1
import HandS.HeadHook2
import HandS.HeadEnd
import HandS.HeadWalk
import KE.KDictPairs
import KE.SortData
import PyProof.ReprRoads
import KE.KDictDisplayH
import HandS.Head2
import PySem.Challenge.RW_stopsheld_k13_no_shorter_moves
set_option Elab.async false
set_option linter.all false
set_option maxRecDepth 100000
set_option maxHeartbeats 4000000
/-! The core language: values as trees, an abstract heap for what is changed in place, its evaluator. -/
namespace Co
open PySem L2

/-- values: tuples and lists that nobody changes are trees; ct: a tuple of the module; sc: a list of the module or the script; ref: an object of the abstract heap -/
inductive D where
  | non | bl (b : Bool) | int (i : Int) | str (x : Str) | tup (ds : List D) | ct (ds : List D) | lv (ds : List D) | sc (ds : List D) | dv (ks : List Key) (ds : List D) | ref (a : Nat)
inductive Ob where
  | lst (ds : List D) | dK (kvs : List (Key × D)) | dT (kvs : List (List Key × D)) | lk (kvs : List (Key × D)) | lkT (kvs : List (List Key × D)) | ins (c : Str) (fs : List (Str × D))
structure S where
  next : Nat
  heap : Nat → Option Ob
abbrev Env := List (Option D)
/-- a result: a value, an exception of the class c, or nothing that is spoken of -/
inductive R (α : Type) where
  | ok (a : α) (s : S) | exc (c : Str) (fs : List (Str × D)) (s : S) | bad
def bd {α β : Type} (r : R α) (f : α → S → R β) : R β := match r with
  | .ok a s => f a s
  | .exc c fs s => .exc c fs s
  | .bad => .bad
theorem bd_ok {α β : Type} (a : α) (s : S) (f : α → S → R β) : bd (.ok a s) f = f a s := rfl
theorem bd_bad {α β : Type} (f : α → S → R β) : bd .bad f = .bad := rfl
theorem bd_exc {α β : Type} (c : Str) (fs : List (Str × D)) (s : S) (f : α → S → R β) : bd (.exc c fs s) f = .exc c fs s := rfl
theorem bd_is {α β : Type} {r : R α} {f : α → S → R β} {b : β} {s : S} (h : bd r f = .ok b s) : ∃ a s1, r = .ok a s1 ∧ f a s1 = .ok b s := by
  cases r with
  | ok a s1 => exact ⟨a, s1, rfl, h⟩
  | exc c fs s => cases h
  | bad => cases h
abbrev LINE : Nat := sizeLine
def updA (h : Nat → Option Ob) (a : Nat) (o : Ob) : Nat → Option Ob := fun b => if b = a then some o else h b
def S.upd (s : S) (a : Nat) (o : Ob) : S := ⟨s.next, updA s.heap a o⟩
def S.alloc (s : S) (o : Ob) : S := ⟨s.next + 1, updA s.heap s.next o⟩
/-- a frozen object leaves the heap -/
def S.free (s : S) (a : Nat) : S := ⟨s.next, fun b => if b = a then none else s.heap b⟩

/-! ### values -/
def keyOf : D → Option Key
  | .int i => some (.inl i)
  | .str x => some (.inr x)
  | _ => none
def dOfKey : Key → D
  | .inl i => .int i
  | .inr x => .str x
def keysOf : List D → Option (List Key)
  | [] => some []
  | d :: ds => match keyOf d, keysOf ds with
    | some k, some ks => some (k :: ks)
    | _, _ => none
def keyT : D → Option (List Key)
  | .tup ds => keysOf ds
  | _ => none
/-- the items of a list -/
def lstOf (d : D) (s : S) : Option (List D) := match d with
  | .lv ds => some ds
  | .sc ds => some ds
  | .ref a => match s.heap a with
    | some (.lst ds) => some ds
    | _ => none
  | _ => none
/-- the items of a list or a tuple -/
def seqOf (d : D) (s : S) : Option (List D) := match d with
  | .tup ds => some ds
  | .ct ds => some ds
  | d => lstOf d s
/-- a dict with keys that are ints and texts -/
def dicOf (d : D) (s : S) : Option (List (Key × D)) := match d with
  | .dv ks ds => if ks.length = ds.length then some (ks.zip ds) else none
  | .ref a => match s.heap a with
    | some (.dK kvs) => some kvs
    | some (.lk kvs) => some kvs
    | _ => none
  | _ => none
def getK {κ : Type} [DecidableEq κ] (kvs : List (κ × D)) (k : κ) : Option D := (kvs.find? fun kv => decide (kv.1 = k)).map (·.2)
def putD {κ : Type} [DecidableEq κ] (kvs : List (κ × D)) (k : κ) (v : D) : List (κ × D) :=
  if (kvs.any fun kv => decide (kv.1 = k)) = true then kvs.map (fun kv => if kv.1 = k then (kv.1, v) else kv) else kvs ++ [(k, v)]
def dropD {κ : Type} [DecidableEq κ] (kvs : List (κ × D)) (k : κ) : List (κ × D) := kvs.filter fun kv => decide (kv.1 ≠ k)
def getF (fs : List (Str × D)) (f : Str) : Option D := fs.lookup f
def putFD (f : Str) (v : D) : List (Str × D) → List (Str × D)
  | [] => [(f, v)]
  | (g, x) :: r => if g = f then (g, v) :: r else (g, x) :: putFD f v r

def pyKey : Key → PyData
  | .inl i => .int i
  | .inr x => .str x
mutual
/-- the data that a value without objects is -/
def pyD : D → Option PyData
  | .non => some .none
  | .bl b => some (.bool b)
  | .int i => some (.int i)
  | .str x => some (.str x)
  | .tup ds => (pyL ds).map .tuple
  | .ct ds => (pyL ds).map .tuple
  | .lv ds => (pyL ds).map .list
  | .sc ds => (pyL ds).map .list
  | .dv ks ds => if ks.length = ds.length then (pyL ds).map fun ps => .dict ((ks.map pyKey).zip ps) else none
  | .ref _ => none
def pyL : List D → Option (List PyData)
  | [] => some []
  | d :: ds => match pyD d, pyL ds with
    | some p, some ps => some (p :: ps)
    | _, _ => none
end
/-- .. or an object of the heap that holds such -/
def pyT (s : S) : D → Option PyData
  | .ref a => match s.heap a with
    | some (.lst ds) => (pyL ds).map .list
    | some (.dK kvs) => (pyL (kvs.map (·.2))).map fun ps => .dict ((kvs.map fun kv => pyKey kv.1).zip ps)
    | _ => none
  | d => pyD d
end Co
namespace Co
open PySem PySem.Spec PyProof.Rows L2
abbrev Frag := PySem.W.Frag
/-- where the abstract objects stand; which lists and dicts are frozen; what else is to stay as it is -/
structure Gh where
  mu : Nat → Option Addr
  z : Addr → Prop
  pr : Addr → Prop
/-- a list of the module or the script -/
def SqS (K : Frag) (H : Hp) (p : Addr) (vs : List V) : Prop := (∃ o, H p = some (.frz o (.lst vs))) ∨
  ∃ (o : Obj) (its : Array Value) (n : Nat), K.lookup p = some o ∧ o.cls = .type "list" ∧ o.dict = none ∧ o.data = .seq its n ∧ its.size ≤ sizeLine ∧ Vals vs its.toList
/-- a tuple that is known to have no dict -/
def SqC (K : Frag) (H : Hp) (p : Addr) (vs : List V) : Prop := (∃ o, H p = some (.frz o (.tup vs)) ∧ o.dict = none) ∨
  ∃ (o : Obj) (its : Array Value) (n : Nat), K.lookup p = some o ∧ o.cls = .type "tuple" ∧ o.dict = none ∧ o.data = .seq its n ∧ its.size ≤ sizeLine ∧ Vals vs its.toList
theorem SqC.tup {K : Frag} {H : Hp} {p : Addr} {vs : List V} (h : SqC K H p vs) : SqT K H p vs := h.elim (fun ⟨o, e, _⟩ => .inl (.inr ⟨o, e⟩)) fun ⟨o, its, n, h1, h2, _, h3⟩ => .inr ⟨o, its, n, h1, h2, h3⟩
theorem SqS.seq {K : Frag} {H : Hp} {p : Addr} {vs : List V} (h : SqS K H p vs) : SqL K H p vs := h.elim (fun ⟨o, e⟩ => .inl (.inr ⟨o, e⟩)) .inr
mutual
def RD (K : Frag) (g : Gh) (H : Hp) : D → V → Prop
  | .non, v => v = .non
  | .bl b, v => v = .bl b
  | .int i, v => v = .int i
  | .str x, v => v = .str x
  | .tup ds, v => ∃ p vs, v = .ref p ∧ H p = some (.tup vs) ∧ RDs K g H ds vs
  | .ct ds, v => ∃ p vs, v = .ref p ∧ SqC K H p vs ∧ RDs K g H ds vs
  | .lv ds, v => ∃ p vs, v = .ref p ∧ g.z p ∧ H p = some (.lst vs) ∧ RDs K g H ds vs
  | .sc ds, v => ∃ p vs, v = .ref p ∧ SqS K H p vs ∧ RDs K g H ds vs
  | .dv ks ds, v => ∃ p kvs, v = .ref p ∧ g.z p ∧ H p = some (.dK kvs) ∧ kvs.map (·.1) = ks ∧ RDs K g H ds (kvs.map (·.2))
  | .ref a, v => ∃ p, v = .ref p ∧ g.mu a = some p
def RDs (K : Frag) (g : Gh) (H : Hp) : List D → List V → Prop
  | [], vs => vs = []
  | d :: ds, vs => ∃ v r, vs = v :: r ∧ RD K g H d v ∧ RDs K g H ds r
end
/-- a tuple or a list -/
def SqU (u : HO) : Prop := ∃ xs, u = .tup xs ∨ u = .lst xs
/-- from one state to a later one -/
structure Stp0 (g : Gh) (H : Hp) (g' : Gh) (H' : Hp) : Prop where
  mu : ∀ a p, g.mu a = some p → g'.mu a = some p
  z : ∀ p, g.z p → g'.z p ∧ H' p = H p
  tup : ∀ p xs, H p = some (.tup xs) → H' p = some (.tup xs)
  frz : ∀ p o u, SqU u → H p = some (.frz o u) → H' p = some (.frz o u)
structure Stp (g : Gh) (H : Hp) (g' : Gh) (H' : Hp) : Prop extends Stp0 g H g' H' where
  fz : ∀ p o u, H p = some (.frz o u) → H' p = some (.frz o u)
  pr : ∀ p, g.pr p → g'.pr p ∧ H' p = H p
theorem Stp.refl (g : Gh) (H : Hp) : Stp g H g H := ⟨⟨fun _ _ e => e, fun _ h => ⟨h, rfl⟩, fun _ _ e => e, fun _ _ _ _ e => e⟩, fun _ _ _ e => e, fun _ h => ⟨h, rfl⟩⟩
theorem Stp.trans {g g1 g2 : Gh} {H H1 H2 : Hp} (a : Stp g H g1 H1) (b : Stp g1 H1 g2 H2) : Stp g H g2 H2 :=
  ⟨⟨fun x p e => b.mu x p (a.mu x p e), fun p h => ⟨(b.z p (a.z p h).1).1, (b.z p (a.z p h).1).2.trans (a.z p h).2⟩, fun p xs e => b.tup p xs (a.tup p xs e), fun p o u q e => b.frz p o u q (a.frz p o u q e)⟩, fun p o u e => b.fz p o u (a.fz p o u e), fun p h => ⟨(b.pr p (a.pr p h).1).1, (b.pr p (a.pr p h).1).2.trans (a.pr p h).2⟩⟩
section
variable {K : Frag} {g g' : Gh} {H H' : Hp}
theorem Stp0.sqT (st : Stp0 g H g' H') {p : Addr} {vs : List V} (h : SqT K H p vs) : SqT K H' p vs := by
  rcases h with (h | ⟨o, h⟩) | h
  · exact .inl (.inl (st.tup _ _ h))
  · exact .inl (.inr ⟨o, st.frz _ _ _ ⟨_, .inl rfl⟩ h⟩)
  · exact .inr h
theorem Stp0.sqC (st : Stp0 g H g' H') {p : Addr} {vs : List V} (h : SqC K H p vs) : SqC K H' p vs := h.elim (fun ⟨o, e, n⟩ => .inl ⟨o, st.frz _ _ _ ⟨_, .inl rfl⟩ e, n⟩) .inr
theorem Stp0.sqS (st : Stp0 g H g' H') {p : Addr} {vs : List V} (h : SqS K H p vs) : SqS K H' p vs := by
  rcases h with ⟨o, h⟩ | h
  · exact .inl ⟨o, st.frz _ _ _ ⟨_, .inr rfl⟩ h⟩
  · exact .inr h
mutual
theorem RD.mono (st : Stp0 g H g' H') : ∀ (d : D) (v : V), RD K g H d v → RD K g' H' d v
  | .non, _, h => h
  | .bl _, _, h => h
  | .int _, _, h => h
  | .str _, _, h => h
  | .tup ds, v, h => by
    obtain ⟨p, vs, e, q, r⟩ := h
    exact ⟨p, vs, e, st.tup _ _ q, RDs.mono st ds vs r⟩
  | .ct ds, v, h => by
    obtain ⟨p, vs, e, q, r⟩ := h
    exact ⟨p, vs, e, st.sqC q, RDs.mono st ds vs r⟩
  | .lv ds, v, h => by
    obtain ⟨p, vs, e, z, q, r⟩ := h
    exact ⟨p, vs, e, (st.z p z).1, (st.z p z).2.trans q, RDs.mono st ds vs r⟩
  | .sc ds, v, h => by
    obtain ⟨p, vs, e, q, r⟩ := h
    exact ⟨p, vs, e, st.sqS q, RDs.mono st ds vs r⟩
  | .dv ks ds, v, h => by
    obtain ⟨p, kvs, e, z, q, k, r⟩ := h
    exact ⟨p, kvs, e, (st.z p z).1, (st.z p z).2.trans q, k, RDs.mono st ds _ r⟩
  | .ref a, v, h => by
    obtain ⟨p, e, q⟩ := h
    exact ⟨p, e, st.mu a p q⟩
theorem RDs.mono (st : Stp0 g H g' H') : ∀ (ds : List D) (vs : List V), RDs K g H ds vs → RDs K g' H' ds vs
  | [], _, h => h
  | d :: ds, vs, h => by
    obtain ⟨v, r, e, h1, h2⟩ := h
    exact ⟨v, r, e, RD.mono st d v h1, RDs.mono st ds r h2⟩
end
end
theorem RDs.nil {K : Frag} {g : Gh} {H : Hp} : RDs K g H [] [] := rfl
theorem RDs.cons {K : Frag} {g : Gh} {H : Hp} {d : D} {ds : List D} {v : V} {vs : List V} (h1 : RD K g H d v) (h2 : RDs K g H ds vs) : RDs K g H (d :: ds) (v :: vs) := ⟨v, vs, rfl, h1, h2⟩
theorem RDs.length {K : Frag} {g : Gh} {H : Hp} : ∀ {ds : List D} {vs : List V}, RDs K g H ds vs → ds.length = vs.length
  | [], _, h => by cases h; rfl
  | d :: ds, vs, h => by
    obtain ⟨v, r, rfl, _, h2⟩ := h
    simp [RDs.length h2]
theorem RDs.append {K : Frag} {g : Gh} {H : Hp} : ∀ {ds es : List D} {vs us : List V}, RDs K g H ds vs → RDs K g H es us → RDs K g H (ds ++ es) (vs ++ us)
  | [], _, _, _, h, k => by cases h; exact k
  | d :: ds, es, vs, us, h, k => by
    obtain ⟨v, r, rfl, h1, h2⟩ := h
    exact ⟨v, r ++ us, rfl, h1, RDs.append h2 k⟩
theorem RDs.get {K : Frag} {g : Gh} {H : Hp} : ∀ {ds : List D} {vs : List V} {i : Nat} {d : D}, RDs K g H ds vs → ds[i]? = some d → ∃ v, vs[i]? = some v ∧ RD K g H d v
  | [], _, _, _, h, e => by simp at e
  | d :: ds, vs, i, e0, h, e => by
    obtain ⟨v, r, rfl, h1, h2⟩ := h
    cases i with
    | zero => simp at e; subst e; exact ⟨v, rfl, h1⟩
    | succ i => simpa using RDs.get h2 (i := i) (by simpa using e)
theorem RDs.drop {K : Frag} {g : Gh} {H : Hp} : ∀ {ds : List D} {vs : List V} (n : Nat), RDs K g H ds vs → RDs K g H (ds.drop n) (vs.drop n)
  | ds, vs, 0, h => h
  | [], vs, n + 1, h => by cases h; exact rfl
  | d :: ds, vs, n + 1, h => by
    obtain ⟨v, r, rfl, h1, h2⟩ := h
    exact RDs.drop n h2
theorem RDs.take {K : Frag} {g : Gh} {H : Hp} : ∀ {ds : List D} {vs : List V} (n : Nat), RDs K g H ds vs → RDs K g H (ds.take n) (vs.take n)
  | ds, vs, 0, h => rfl
  | [], vs, n + 1, h => by cases h; exact rfl
  | d :: ds, vs, n + 1, h => by
    obtain ⟨v, r, rfl, h1, h2⟩ := h
    exact ⟨v, r.take n, rfl, h1, RDs.take n h2⟩
theorem RDs.reverse {K : Frag} {g : Gh} {H : Hp} : ∀ {ds : List D} {vs : List V}, RDs K g H ds vs → RDs K g H ds.reverse vs.reverse
  | [], vs, h => by cases h; exact rfl
  | d :: ds, vs, h => by
    obtain ⟨v, r, rfl, h1, h2⟩ := h
    rw [List.reverse_cons, List.reverse_cons]
    exact RDs.append (RDs.reverse h2) (.cons h1 .nil)
theorem RDs.set {K : Frag} {g : Gh} {H : Hp} {d0 : D} {v0 : V} (h0 : RD K g H d0 v0) : ∀ {ds : List D} {vs : List V} (n : Nat), RDs K g H ds vs → RDs K g H (ds.set n d0) (vs.set n v0)
  | [], vs, n, h => by cases h; exact rfl
  | d :: ds, vs, 0, h => by
    obtain ⟨v, r, rfl, h1, h2⟩ := h
    exact ⟨v0, r, rfl, h0, h2⟩
  | d :: ds, vs, n + 1, h => by
    obtain ⟨v, r, rfl, h1, h2⟩ := h
    exact ⟨v, r.set n v0, rfl, h1, RDs.set h0 n h2⟩
theorem RDs.eraseIdx {K : Frag} {g : Gh} {H : Hp} : ∀ {ds : List D} {vs : List V} (n : Nat), RDs K g H ds vs → RDs K g H (ds.eraseIdx n) (vs.eraseIdx n)
  | [], vs, n, h => by cases h; exact rfl
  | d :: ds, vs, 0, h => by
    obtain ⟨v, r, rfl, h1, h2⟩ := h
    exact h2
  | d :: ds, vs, n + 1, h => by
    obtain ⟨v, r, rfl, h1, h2⟩ := h
    exact ⟨v, r.eraseIdx n, rfl, h1, RDs.eraseIdx n h2⟩

/-- an object of the abstract heap stands at p -/
def RO (K : Frag) (g : Gh) (H : Hp) (p : Addr) : Ob → Prop
  | .lst ds => ∃ vs, H p = some (.lst vs) ∧ RDs K g H ds vs
  | .dK kvs => ∃ ws, H p = some (.dK ws) ∧ ws.map (·.1) = kvs.map (·.1) ∧ RDs K g H (kvs.map (·.2)) (ws.map (·.2))
  | .dT kvs => ∃ ws, H p = some (.dT ws) ∧ ws.map (·.1) = kvs.map (·.1) ∧ RDs K g H (kvs.map (·.2)) (ws.map (·.2))
  | .lk kvs => ∃ o ws, H p = some (.frz o (.dK ws)) ∧ ws.map (·.1) = kvs.map (·.1) ∧ RDs K g H (kvs.map (·.2)) (ws.map (·.2))
  | .lkT kvs => ∃ o ws, H p = some (.frz o (.dT ws)) ∧ ws.map (·.1) = kvs.map (·.1) ∧ RDs K g H (kvs.map (·.2)) (ws.map (·.2))
  | .ins c fs => ∃ dx ws, H p = some (.ins (He.ga K c) dx ws) ∧ ws.map (·.1) = fs.map (·.1) ∧ RDs K g H (fs.map (·.2)) (ws.map (·.2))
structure Rel (K : Frag) (g : Gh) (s : S) (H : Hp) : Prop where
  dom : ∀ a p, g.mu a = some p → a < s.next
  obj : ∀ a o, s.heap a = some o → ∃ p, g.mu a = some p ∧ (¬ g.z p ∧ ¬ g.pr p) ∧ RO K g H p o
  inj : ∀ a b p oa ob, s.heap a = some oa → s.heap b = some ob → g.mu a = some p → g.mu b = some p → a = b
  zz : ∀ p, g.z p → H p ≠ none
  pp : ∀ p, g.pr p → H p ≠ none ∧ ¬ g.z p
theorem RO.mono {K : Frag} {g g' : Gh} {H H' : Hp} {p : Addr} (st : Stp0 g H g' H') (e : H' p = H p) : ∀ {o : Ob}, RO K g H p o → RO K g' H' p o
  | .lst ds, ⟨vs, h1, h2⟩ => ⟨vs, e.trans h1, RDs.mono st _ _ h2⟩
  | .dK kvs, ⟨ws, h1, h2, h3⟩ => ⟨ws, e.trans h1, h2, RDs.mono st _ _ h3⟩
  | .dT kvs, ⟨ws, h1, h2, h3⟩ => ⟨ws, e.trans h1, h2, RDs.mono st _ _ h3⟩
  | .ins c fs, ⟨dx, ws, h1, h2, h3⟩ => ⟨dx, ws, e.trans h1, h2, RDs.mono st _ _ h3⟩
  | .lk kvs, ⟨o, ws, h1, h2, h3⟩ => ⟨o, ws, e.trans h1, h2, RDs.mono st _ _ h3⟩
  | .lkT kvs, ⟨o, ws, h1, h2, h3⟩ => ⟨o, ws, e.trans h1, h2, RDs.mono st _ _ h3⟩
theorem RO.tracked {K : Frag} {g : Gh} {H : Hp} {p : Addr} : ∀ {o : Ob}, RO K g H p o → H p ≠ none
  | .lst ds, ⟨vs, h1, h2⟩ => by rw [h1]; simp
  | .dK kvs, ⟨ws, h1, h2, h3⟩ => by rw [h1]; simp
  | .dT kvs, ⟨ws, h1, h2, h3⟩ => by rw [h1]; simp
  | .ins c fs, ⟨dx, ws, h1, h2, h3⟩ => by rw [h1]; simp
  | .lk kvs, ⟨o, ws, h1, h2, h3⟩ => by rw [h1]; simp
  | .lkT kvs, ⟨o, ws, h1, h2, h3⟩ => by rw [h1]; simp
theorem RO.notTup {K : Frag} {g : Gh} {H : Hp} {p : Addr} {xs : List V} (h : H p = some (.tup xs)) : ∀ {o : Ob}, ¬ RO K g H p o
  | .lst ds, ⟨vs, h1, h2⟩ => by rw [h] at h1; cases h1
  | .dK kvs, ⟨ws, h1, h2, h3⟩ => by rw [h] at h1; cases h1
  | .dT kvs, ⟨ws, h1, h2, h3⟩ => by rw [h] at h1; cases h1
  | .lk kvs, ⟨o, ws, h1, h2, h3⟩ => by rw [h] at h1; cases h1
  | .lkT kvs, ⟨o, ws, h1, h2, h3⟩ => by rw [h] at h1; cases h1
  | .ins c fs, ⟨dx, ws, h1, h2, h3⟩ => by rw [h] at h1; cases h1
/-- it may be written -/
def Ob.isFree : Ob → Bool
  | .lk _ => false
  | .lkT _ => false
  | _ => true
theorem RO.notFrz {K : Frag} {g : Gh} {H : Hp} {p : Addr} {ob : Obj} {u : HO} (h : H p = some (.frz ob u)) : ∀ {o : Ob}, o.isFree = true → ¬ RO K g H p o
  | .lk kvs, e, _ => by cases e
  | .lkT kvs, e, _ => by cases e
  | .lst ds, _, ⟨vs, h1, h2⟩ => by rw [h] at h1; cases h1
  | .dK kvs, _, ⟨ws, h1, h2, h3⟩ => by rw [h] at h1; cases h1
  | .dT kvs, _, ⟨ws, h1, h2, h3⟩ => by rw [h] at h1; cases h1
  | .ins c fs, _, ⟨dx, ws, h1, h2, h3⟩ => by rw [h] at h1; cases h1

section
variable {K : Frag} {g : Gh} {s : S} {H : Hp}
/-- something new is tracked: nothing that was changes -/
theorem stp_new {p : Addr} {o : HO} (R : Rel K g s H) (hp : H p = none) : Stp g H g (upd H p o) :=
  ⟨⟨fun _ _ e => e, fun q h => ⟨h, upd_ne fun e => R.zz q h (e ▸ hp)⟩, fun q xs e => (upd_ne (ne_of_none e hp)).trans e, fun q o u _ e => (upd_ne (ne_of_none e hp)).trans e⟩, fun q o u e => (upd_ne (ne_of_none e hp)).trans e, fun q h => ⟨h, upd_ne fun e => (R.pp q h).1 (e ▸ hp)⟩⟩
theorem upd_some {H : Hp} {p q : Addr} {o : HO} (h : H q ≠ none) : upd H p o q ≠ none := by
  by_cases e : q = p
  · rw [e, upd_same]; simp
  · rw [upd_ne e]; exact h
theorem Rel.new {p : Addr} {o : HO} (R : Rel K g s H) (hp : H p = none) : Rel K g s (upd H p o) := by
  refine ⟨R.dom, fun a ob e => ?_, R.inj, fun q h => upd_some (R.zz q h), fun q h => ⟨upd_some (R.pp q h).1, (R.pp q h).2⟩⟩
  obtain ⟨q, h1, h2, h3⟩ := R.obj a ob e
  exact ⟨q, h1, h2, h3.mono (stp_new R hp).toStp0 (upd_ne fun z => h3.tracked (by rw [z]; exact hp))⟩
/-- a new frozen object -/
def Gh.frz (g : Gh) (p : Addr) : Gh := ⟨g.mu, fun q => g.z q ∨ q = p, g.pr⟩
theorem stp_frz {p : Addr} {o : HO} (R : Rel K g s H) (hp : H p = none) : Stp g H (g.frz p) (upd H p o) :=
  let st := stp_new (o := o) R hp
  ⟨⟨st.mu, fun q h => ⟨.inl (st.z q h).1, (st.z q h).2⟩, st.tup, st.frz⟩, st.fz, st.pr⟩
theorem Rel.frz {p : Addr} {o : HO} (R : Rel K g s H) (hp : H p = none) : Rel K (g.frz p) s (upd H p o) := by
  have R1 := R.new (o := o) hp
  refine ⟨R.dom, fun a ob e => ?_, R.inj, fun q h => ?_, fun q h => ⟨(R1.pp q h).1, fun z => z.elim (R.pp q h).2 fun e => (R.pp q h).1 (e ▸ hp)⟩⟩
  · obtain ⟨q, h1, h2, h3⟩ := R.obj a ob e
    have nq : q ≠ p := fun z => h3.tracked (by rw [z]; exact hp)
    exact ⟨q, h1, ⟨fun z => z.elim h2.1 nq, h2.2⟩, h3.mono (stp_frz R hp).toStp0 (upd_ne nq)⟩
  · rcases h with h | h
    · exact R1.zz q h
    · rw [h, upd_same]; simp
/-- what stands at p is protected, and no longer -/
def Gh.prot (g : Gh) (p : Addr) : Gh := ⟨g.mu, g.z, fun q => g.pr q ∨ q = p⟩
def Gh.unprot (g : Gh) (p : Addr) : Gh := ⟨g.mu, g.z, fun q => g.pr q ∧ q ≠ p⟩
/-- p is ours alone: no object of the abstract heap, not frozen, not protected -/
structure Own (g : Gh) (s : S) (H : Hp) (p : Addr) : Prop where
  there : H p ≠ none
  nz : ¬ g.z p
  np : ¬ g.pr p
  nm : ∀ a o, s.heap a = some o → g.mu a ≠ some p
theorem own_new {p : Addr} {o : HO} (R : Rel K g s H) (hp : H p = none) : Own g s (upd H p o) p :=
  ⟨by rw [upd_same]; simp, fun h => R.zz p h hp, fun h => (R.pp p h).1 hp, fun a oa e z => by
    obtain ⟨q, h1, h2, h3⟩ := R.obj a oa e
    rw [z] at h1; cases h1
    exact h3.tracked hp⟩
theorem stp_prot {p : Addr} : Stp g H (g.prot p) H := ⟨⟨fun _ _ e => e, fun _ h => ⟨h, rfl⟩, fun _ _ e => e, fun _ _ _ _ e => e⟩, fun _ _ _ e => e, fun _ h => ⟨.inl h, rfl⟩⟩
theorem Rel.prot {p : Addr} (R : Rel K g s H) (o : Own g s H p) : Rel K (g.prot p) s H := by
  refine ⟨R.dom, fun a ob e => ?_, R.inj, R.zz, fun q h => ?_⟩
  · obtain ⟨q, h1, h2, h3⟩ := R.obj a ob e
    exact ⟨q, h1, ⟨h2.1, fun z => z.elim h2.2 fun e' => o.nm a ob e (e' ▸ h1)⟩, h3.mono stp_prot.toStp0 rfl⟩
  · rcases h with h | h
    · exact R.pp q h
    · rw [h]; exact ⟨o.there, o.nz⟩
/-- our own object (no tuple, not locked) changes -/
structure Free (g : Gh) (H : Hp) (p : Addr) : Prop where
  nz : ¬ g.z p
  nt : ∀ xs, H p ≠ some (.tup xs)
  nf : ∀ ob u, H p ≠ some (.frz ob u)
theorem stp_free {p : Addr} {o : HO} (F : Free g H p) (np : ¬ g.pr p) : Stp g H g (upd H p o) :=
  ⟨⟨fun _ _ e => e, fun q h => ⟨h, upd_ne fun e => F.nz (e ▸ h)⟩, fun q xs e => (upd_ne fun z : q = p => F.nt xs (by rw [← z]; exact e)).trans e, fun q ob u _ e => (upd_ne fun z : q = p => F.nf ob u (by rw [← z]; exact e)).trans e⟩, fun q ob u e => (upd_ne fun z : q = p => F.nf ob u (by rw [← z]; exact e)).trans e, fun q h => ⟨h, upd_ne fun e => np (e ▸ h)⟩⟩
theorem Rel.free {p : Addr} {o : HO} (R : Rel K g s H) (F : Free g H p) (np : ¬ g.pr p) (nm : ∀ a o, s.heap a = some o → g.mu a ≠ some p) : Rel K g s (upd H p o) := by
  refine ⟨R.dom, fun a ob e => ?_, R.inj, fun q h => upd_some (R.zz q h), fun q h => ⟨upd_some (R.pp q h).1, (R.pp q h).2⟩⟩
  obtain ⟨q, h1, h2, h3⟩ := R.obj a ob e
  exact ⟨q, h1, h2, h3.mono (stp_free F np).toStp0 (upd_ne fun z => nm a ob e (z ▸ h1))⟩
/-- the protection ends -/
theorem stp0_unprot {p : Addr} : Stp0 g H (g.unprot p) H := ⟨fun _ _ e => e, fun _ h => ⟨h, rfl⟩, fun _ _ e => e, fun _ _ _ _ e => e⟩
theorem Rel.unprot {p : Addr} (R : Rel K g s H) : Rel K (g.unprot p) s H :=
  ⟨R.dom, fun a ob e => let ⟨q, h1, h2, h3⟩ := R.obj a ob e; ⟨q, h1, ⟨h2.1, fun z => h2.2 z.1⟩, h3.mono (g' := g.unprot p) stp0_unprot rfl⟩, R.inj, R.zz, fun q h => R.pp q h.1⟩

/-- a new object of the abstract heap -/
def Gh.add (g : Gh) (a : Nat) (p : Addr) : Gh := ⟨fun b => if b = a then some p else g.mu b, g.z, g.pr⟩
theorem stp_add {p : Addr} {o : HO} (R : Rel K g s H) (hp : H p = none) : Stp g H (g.add s.next p) (upd H p o) :=
  let st := stp_new (o := o) R hp
  ⟨⟨fun a q e => (if_neg (Nat.ne_of_lt (R.dom a q e))).trans e, st.z, st.tup, st.frz⟩, st.fz, st.pr⟩
theorem Rel.add {p : Addr} {o : HO} {ob : Ob} (R : Rel K g s H) (hp : H p = none) (ho : RO K (g.add s.next p) (upd H p o) p ob) : Rel K (g.add s.next p) (s.alloc ob) (upd H p o) := by
  have lt : ∀ a oa, s.heap a = some oa → a < s.next := fun a oa e => let ⟨q, h1, _⟩ := R.obj a oa e; R.dom a q h1
  have nz : ¬ g.z p := fun z => R.zz p z hp
  have np : ¬ g.pr p := fun z => (R.pp p z).1 hp
  have old : ∀ a q, g.mu a = some q → (g.add s.next p).mu a = some q := fun a q e => (if_neg (Nat.ne_of_lt (R.dom a q e))).trans e
  have new : (g.add s.next p).mu s.next = some p := if_pos rfl
  have hpn : ∀ a q oa, s.heap a = some oa → g.mu a = some q → q ≠ p := fun a q oa e h z => by
    obtain ⟨q', h1, h2, h3⟩ := R.obj a oa e
    rw [h] at h1; cases h1
    exact h3.tracked (by rw [z]; exact hp)
  refine ⟨fun a q e => ?_, fun a oa e => ?_, fun a b q oa ob' ea eb h1 h2 => ?_, fun q h => upd_some (R.zz q h), fun q h => ⟨upd_some (R.pp q h).1, (R.pp q h).2⟩⟩
  · by_cases h : a = s.next
    · subst h; exact Nat.lt_succ_self _
    · exact Nat.lt_succ_of_lt (R.dom a q ((if_neg h).symm.trans e))
  · by_cases h : a = s.next
    · subst h
      have e' : ob = oa := Option.some.inj ((if_pos rfl).symm.trans e)
      subst e'
      exact ⟨p, new, ⟨nz, np⟩, ho⟩
    · have e' : s.heap a = some oa := (if_neg h).symm.trans e
      obtain ⟨q, h1, h2, h3⟩ := R.obj a oa e'
      exact ⟨q, old a q h1, h2, h3.mono (stp_add R hp).toStp0 (upd_ne (hpn a q oa e' h1))⟩
  · by_cases ha : a = s.next
    · by_cases hb : b = s.next
      · rw [ha, hb]
      · exfalso
        have eb' : s.heap b = some ob' := (if_neg hb).symm.trans eb
        have h2' : g.mu b = some q := (if_neg hb).symm.trans h2
        subst ha
        rw [new] at h1; cases h1
        exact hpn b _ _ eb' h2' rfl
    · have ea' : s.heap a = some oa := (if_neg ha).symm.trans ea
      have h1' : g.mu a = some q := (if_neg ha).symm.trans h1
      by_cases hb : b = s.next
      · exfalso
        subst hb
        rw [new] at h2; cases h2
        exact hpn a _ _ ea' h1' rfl
      · exact R.inj a b q oa ob' ea' ((if_neg hb).symm.trans eb) h1' ((if_neg hb).symm.trans h2)
/-- an object is written -/
theorem Rel.freeAt {a : Nat} {oa : Ob} {p : Addr} (R : Rel K g s H) (ha : s.heap a = some oa) (hf : oa.isFree = true) (hm : g.mu a = some p) : Free g H p ∧ ¬ g.pr p := by
  obtain ⟨q, h1, h2, h3⟩ := R.obj a oa ha
  rw [hm] at h1; cases h1
  exact ⟨⟨h2.1, fun xs e => RO.notTup e h3, fun ob u e => RO.notFrz e hf h3⟩, h2.2⟩
theorem Rel.upd {a : Nat} {oa ob : Ob} {p : Addr} {o : HO} (R : Rel K g s H) (ha : s.heap a = some oa) (hf : oa.isFree = true) (hm : g.mu a = some p) (ho : RO K g (L2.upd H p o) p ob) : Rel K g (s.upd a ob) (L2.upd H p o) := by
  have F := R.freeAt ha hf hm
  have st := stp_free (o := o) F.1 F.2
  have there : ∀ b ox, (s.upd a ob).heap b = some ox → ∃ oy, s.heap b = some oy := fun b ox e => by
    by_cases h : b = a
    · exact ⟨oa, h ▸ ha⟩
    · exact ⟨ox, (if_neg h).symm.trans e⟩
  refine ⟨R.dom, fun b ox e => ?_, fun b c q ob' oc eb ec h4 h5 => ?_, fun q h => upd_some (R.zz q h), fun q h => ⟨upd_some (R.pp q h).1, (R.pp q h).2⟩⟩
  · by_cases h : b = a
    · subst h
      have e' : ob = ox := Option.some.inj ((if_pos rfl).symm.trans e)
      subst e'
      exact ⟨p, hm, ⟨F.1.nz, F.2⟩, ho⟩
    · have e' : s.heap b = some ox := (if_neg h).symm.trans e
      obtain ⟨q, k1, k2, k3⟩ := R.obj b ox e'
      refine ⟨q, k1, k2, k3.mono st.toStp0 (upd_ne fun z => h ?_)⟩
      subst z
      exact R.inj b a q ox oa e' ha k1 hm
  · obtain ⟨oy, ey⟩ := there b ob' eb
    obtain ⟨oz, ez⟩ := there c oc ec
    exact R.inj b c q oy oz ey ez h4 h5
/-- an object of the abstract heap is frozen -/
theorem stp_freeze {p : Addr} : Stp g H (g.frz p) H := ⟨⟨fun _ _ e => e, fun _ h => ⟨.inl h, rfl⟩, fun _ _ e => e, fun _ _ _ _ e => e⟩, fun _ _ _ e => e, fun _ h => ⟨h, rfl⟩⟩
theorem Rel.freeze {a : Nat} {oa : Ob} {p : Addr} (R : Rel K g s H) (ha : s.heap a = some oa) (hm : g.mu a = some p) : Rel K (g.frz p) (s.free a) H := by
  obtain ⟨q, h1, h2, h3⟩ := R.obj a oa ha
  rw [hm] at h1; cases h1
  have out : ∀ b ob, (s.free a).heap b = some ob → b ≠ a ∧ s.heap b = some ob := fun b ob e => by
    by_cases h : b = a
    · have : (none : Option Ob) = some ob := (if_pos h).symm.trans e
      cases this
    · exact ⟨h, (if_neg h).symm.trans e⟩
  refine ⟨R.dom, fun b ob e => ?_, fun b c q ob oc eb ec => R.inj b c q ob oc (out b ob eb).2 (out c oc ec).2, fun q h => h.elim (R.zz q) fun e => e ▸ h3.tracked, fun q h => ⟨(R.pp q h).1, fun z => z.elim (R.pp q h).2 fun e => h2.2 (e ▸ h)⟩⟩
  obtain ⟨hb, e'⟩ := out b ob e
  obtain ⟨q, k1, k2, k3⟩ := R.obj b ob e'
  exact ⟨q, k1, ⟨fun z => z.elim k2.1 fun e => hb (R.inj b a p ob oa e' ha (e ▸ k1) hm), k2.2⟩, k3.mono stp_freeze.toStp0 rfl⟩
end
end Co
namespace Co
open PySem PySem.Spec PyProof.Rows L2
/-- the own dict of an exception: none, or its fields -/
def XF (K : Frag) (g : Gh) (H : Hp) (fs : List (Str × D)) (d : Option Addr) : Prop := match fs with
  | [] => d = none
  | _ => ∃ dx ws, d = some dx ∧ H dx = some (.xd ws) ∧ ws.map (·.1) = fs.map (·.1) ∧ RDs K g H (fs.map (·.2)) (ws.map (·.2))
/-- what a result brings, from the ghost g and the heap H on -/
def Post {α β : Type} (K : Frag) (W : WX) (g : Gh) (H : Hp) (σ : L2.St) (rel : Gh → Hp → α → β → Prop) (r : R α) (Q : β → Hp → Prop) : Prop := match r with
  | .ok a s' => ∀ g' H' b, Stp g H g' H' → Rel K g' s' H' → rel g' H' a b → Q b H'
  | .exc c fs s' => ∀ g' H' d, Stp g H g' H' → Rel K g' s' H' → XF K g' H' fs d → W (.ref (He.ga K c)) d σ H'
  | .bad => False
section
variable {α β α' β' : Type} {K : Frag} {W : WX} {g : Gh} {H : Hp} {σ : L2.St} {rel : Gh → Hp → α → β → Prop} {rel' : Gh → Hp → α' → β' → Prop}
theorem Post.later {g1 : Gh} {H1 : Hp} {r : R α} {Q : β → Hp → Prop} (st : Stp g H g1 H1) (h : Post K W g H σ rel r Q) : Post K W g1 H1 σ rel r Q := by
  cases r with
  | ok a s' => exact fun g' H' b st' R q => h g' H' b (st.trans st') R q
  | exc c fs s' => exact fun g' H' d st' R q => h g' H' d (st.trans st') R q
  | bad => exact h
theorem Post.imp {r : R α} {Q Q' : β → Hp → Prop} (h : Post K W g H σ rel r Q) (i : ∀ b H', Q b H' → Q' b H') : Post K W g H σ rel r Q' := by
  cases r with
  | ok a s' => exact fun g' H' b st R q => i b H' (h g' H' b st R q)
  | exc c fs s' => exact h
  | bad => exact h
theorem Post.bind {r : R α} {f : α → S → R α'} {Q : β' → Hp → Prop} (h : Post K W g H σ rel' (bd r f) Q) :
    Post K W g H σ rel r (fun b H1 => ∃ g1 a s1, Stp g H g1 H1 ∧ Rel K g1 s1 H1 ∧ rel g1 H1 a b ∧ r = .ok a s1 ∧ Post K W g1 H1 σ rel' (f a s1) Q) := by
  cases r with
  | ok a s' => exact fun g' H' b st R q => ⟨g', a, s', st, R, q, rfl, Post.later st h⟩
  | exc c fs s' => exact h
  | bad => exact h
end
/-- the slots -/
def RE (K : Frag) (g : Gh) (H : Hp) (env : Env) (σ : L2.St) : Prop := env.length = σ.length ∧ ∀ (i : Nat) (d : D), env[i]? = some (some d) → ∃ v, σ[i]? = some (some v) ∧ RD K g H d v
theorem RE.mono {K : Frag} {g g' : Gh} {H H' : Hp} {env : Env} {σ : L2.St} (st : Stp0 g H g' H') (h : RE K g H env σ) : RE K g' H' env σ :=
  ⟨h.1, fun i d e => let ⟨v, h1, h2⟩ := h.2 i d e; ⟨v, h1, RD.mono st d v h2⟩⟩
theorem RE.set {K : Frag} {g : Gh} {H : Hp} {env : Env} {σ : L2.St} {d : D} {v : V} (h : RE K g H env σ) (i : Nat) (r : RD K g H d v) : RE K g H (env.set i (some d)) (σ.set i (some v)) := by
  refine ⟨by rw [List.length_set, List.length_set]; exact h.1, fun j e hj => ?_⟩
  by_cases hi : i = j
  · subst hi
    by_cases hl : i < env.length
    · rw [List.getElem?_set_self hl] at hj
      cases hj
      exact ⟨v, List.getElem?_set_self (by rw [← h.1]; exact hl), r⟩
    · rw [List.getElem?_eq_none (by simpa using hl)] at hj; cases hj
  · rw [List.getElem?_set_ne hi] at hj ⊢
    exact h.2 j e hj
theorem RE.unset {K : Frag} {g : Gh} {H : Hp} {env : Env} {σ : L2.St} (h : RE K g H env σ) (i : Nat) : RE K g H (env.set i none) (σ.set i none) := by
  refine ⟨by rw [List.length_set, List.length_set]; exact h.1, fun j e hj => ?_⟩
  by_cases hi : i = j
  · subst hi
    by_cases hl : i < env.length
    · rw [List.getElem?_set_self hl] at hj; cases hj
    · rw [List.getElem?_eq_none (by simpa using hl)] at hj; cases hj
  · rw [List.getElem?_set_ne hi] at hj ⊢
    exact h.2 j e hj
abbrev ME (α : Type) := Env → S → R α
/-- the reading of an expression by its meaning -/
def TX {α β : Type} (K : Frag) (W : WX) (rel : Gh → Hp → α → β → Prop) (m : ME α) : L2.St → Hp → (β → Hp → Prop) → Prop := fun σ H Q =>
  ∃ g s env, Rel K g s H ∧ RE K g H env σ ∧ Post K W g H σ rel (m env s) Q
abbrev Eqr {α : Type} : Gh → Hp → α → α → Prop := fun _ _ a b => a = b
abbrev TE' (K : Frag) (W : WX) (m : ME D) : TE := TX K W (RD K) m
abbrev TT' (K : Frag) (W : WX) (m : ME Bool) : TT := TX K W Eqr m
abbrev TA' (K : Frag) (W : WX) (m : ME (List D)) : TA := TX K W (RDs K) m
abbrev PX (X : Cx) (W : WX) (e : Expr) (m : ME D) : Prop := PE X e (TE' X.K W m)
abbrev PB (X : Cx) (W : WX) (e : Expr) (m : ME Bool) : Prop := PT X e (TT' X.K W m)
abbrev PL (X : Cx) (W : WX) (es : List Expr) (m : ME (List D)) : Prop := PA X es (TA' X.K W m)
theorem PE.imp {X : Cx} {e : Expr} {t t' : TE} (h : PE X e t) (i : ∀ σ H Q, t' σ H Q → t σ H Q) : PE X e t' := ⟨fun pins s σ H Q I q => h.run pins s σ H Q I (i σ H Q q)⟩
theorem PT.imp {X : Cx} {e : Expr} {t t' : TT} (h : PT X e t) (i : ∀ σ H Q, t' σ H Q → t σ H Q) : PT X e t' := ⟨fun pins s σ H Q I q => h.run pins s σ H Q I (i σ H Q q)⟩
theorem PW.imp {X : Cx} {e : Expr} {t t' : TT} (h : PW X e t) (i : ∀ σ H Q, t' σ H Q → t σ H Q) : PW X e t' := ⟨fun wh pins s σ H Q I q => h.run wh pins s σ H Q I (i σ H Q q)⟩
theorem PA.imp {X : Cx} {e : List Expr} {t t' : TA} (h : PA X e t) (i : ∀ σ H Q, t' σ H Q → t σ H Q) : PA X e t' := ⟨fun pos pins s σ H Q I q => h.run pos pins s σ H Q I (i σ H Q q)⟩
theorem PS.imp {X : Cx} {e : Stmt} {t t' : TS} (h : PS X e t) (i : ∀ σ H D, t' D σ H → t D σ H) : PS X e t' := ⟨fun pins s σ H D I q => h.run pins s σ H D I (i σ H D q)⟩
theorem PSs.imp {X : Cx} {e : List Stmt} {t t' : TS} (h : PSs X e t) (i : ∀ σ H D, t' D σ H → t D σ H) : PSs X e t' := ⟨fun pins s σ H D I q => h.run pins s σ H D I (i σ H D q)⟩
section
variable {α β α' β' : Type} {K : Frag} {W : WX} {σ : L2.St} {rel : Gh → Hp → α → β → Prop} {rel' : Gh → Hp → α' → β' → Prop}
/-- a part is evaluated, then the rest -/
theorem TX.bind {H : Hp} {m : ME α} {f : Env → α → S → R α'} {Q : β' → Hp → Prop} (h : TX K W rel' (fun env s => bd (m env s) (f env)) σ H Q) :
    TX K W rel m σ H (fun b H1 => ∃ g1 a s1 env, Rel K g1 s1 H1 ∧ RE K g1 H1 env σ ∧ rel g1 H1 a b ∧ Post K W g1 H1 σ rel' (f env a s1) Q) := by
  obtain ⟨g, s, env, R, E, p⟩ := h
  exact ⟨g, s, env, R, E, (Post.bind (rel := rel) p).imp fun b H1 ⟨g1, a, s1, st, R1, r1, _, q⟩ => ⟨g1, a, s1, env, R1, E.mono st.toStp0, r1, q⟩⟩
theorem TX.mk {H : Hp} {g : Gh} {s : S} {env : Env} {m : ME α} {Q : β → Hp → Prop} (R : Rel K g s H) (E : RE K g H env σ) (p : Post K W g H σ rel (m env s) Q) : TX K W rel m σ H Q := ⟨g, s, env, R, E, p⟩
theorem TX.imp {H : Hp} {m : ME α} {Q Q' : β → Hp → Prop} (h : TX K W rel m σ H Q) (i : ∀ b H', Q b H' → Q' b H') : TX K W rel m σ H Q' := by
  obtain ⟨g, s, env, R, E, p⟩ := h
  exact ⟨g, s, env, R, E, p.imp i⟩
end

/-! ### by values -/
section
variable {X : Cx} {W : WX} {a b c : Expr} {pos : Pos} {ma mb mc : ME D}
/-- two values: the reading r of the operator asks what f brings -/
def Op2 (K : Frag) (r : R2) (f : D → D → S → R D) : Prop := ∀ (W : WX) (g : Gh) (s : S) (H : Hp) (σ : L2.St) (x y : D) (v w : V) (Q : VK), Rel K g s H → RD K g H x v → RD K g H y w → Post K W g H σ (RD K) (f x y s) Q → r v w H Q
def op2M (f : D → D → S → R D) (ma mb : ME D) : ME D := fun env s => bd (ma env s) fun x s1 => bd (mb env s1) fun y s2 => f x y s2
theorem tOp_of {K : Frag} {r : R2} {f : D → D → S → R D} (hf : Op2 K r f) (σ : L2.St) (H : Hp) (Q : VK) (h : TE' K W (op2M f ma mb) σ H Q) : tOp r (TE' K W ma) (TE' K W mb) σ H Q := by
  refine (TX.bind (rel := RD K) h).imp fun v H1 ⟨g1, x, s1, env, R1, E1, r1, p1⟩ => ?_
  refine TX.mk (g := g1) (s := s1) (env := env) R1 E1 ((Post.bind (rel := RD K) p1).imp fun w H2 ⟨g2, y, s2, st, R2, r2, _, p2⟩ => ?_)
  exact hf W g2 s2 H2 σ x y v w Q R2 (RD.mono st.toStp0 x v r1) r2 p2
theorem px_op {op : Operator} {r : R2} {f : D → D → S → R D} (ho : OpR X (binaryOp op) r) (hf : Op2 X.K r f) (ha : PX X W a ma) (hb : PX X W b mb) : PX X W (.BinOp a op b pos) (op2M f ma mb) := PE.imp (pe_op ho ha hb) (tOp_of hf)
theorem px_cmp {op : CmpOp} {r : R2} {f : D → D → S → R D} (ho : OpR X (compareOp op) r) (hf : Op2 X.K r f) (hm : behindInMarks op b = false) (ha : PX X W a ma) (hb : PX X W b mb) : PX X W (.Compare a [op] [b] pos) (op2M f ma mb) := PE.imp (pe_cmpR ho ha hb hm) (tOp_of hf)
theorem px_ix {r : R2} {f : D → D → S → R D} (hr : IxR X r) (hf : Op2 X.K r f) (hs : PlainIx b) (ha : PX X W a ma) (hb : PX X W b mb) : PX X W (.Subscript a b pos) (op2M f ma mb) := PE.imp (pe_ix hr ha hb hs) (tOp_of hf)
/-- a test of a value that is a bool -/
def boolM (m : ME D) : ME Bool := fun env s => bd (m env s) fun x s1 => match x with
  | .bl k => .ok k s1
  | _ => .bad
theorem tTest_of {K : Frag} {t : TE} {m : ME D} (ht : ∀ σ H Q, TE' K W m σ H Q → t σ H Q) (σ : L2.St) (H : Hp) (Q : Bool → Hp → Prop) (h : TT' K W (boolM m) σ H Q) : tTest t σ H Q := by
  refine ht _ _ _ ((TX.bind (rel := RD K) h).imp fun v H1 ⟨g1, x, s1, env, R1, E1, r1, p1⟩ => ?_)
  cases x with
  | bl k => exact ⟨k, r1, p1 g1 H1 k (.refl _ _) R1 rfl⟩
  | _ => exact p1.elim
theorem pb_cmp {op : CmpOp} {r : R2} {f : D → D → S → R D} (ho : OpR X (compareOp op) r) (hf : Op2 X.K r f) (hm : behindInMarks op b = false) (ha : PX X W a ma) (hb : PX X W b mb) : PB X W (.Compare a [op] [b] pos) (boolM (op2M f ma mb)) :=
  PT.imp (pt_cmpR ho ha hb hm) (tTest_of (tOp_of hf))
/-- a < b < c -/
def chainM (f f' : D → D → S → R D) (ma mb mc : ME D) : ME D := fun env s => bd (ma env s) fun x s1 => bd (mb env s1) fun y s2 => bd (f x y s2) fun z s3 => match z with
  | .bl true => bd (mc env s3) fun w s4 => f' y w s4
  | .bl false => .ok (.bl false) s3
  | _ => .bad
theorem px_chain {op op' : CmpOp} {r r' : R2} {f f' : D → D → S → R D} (ho : OpR X (compareOp op) r) (ho' : OpR X (compareOp op') r') (hf : ∀ (g : Gh) (s : S) (H : Hp) (x y : D) (v w : V) (Q : VK), Rel X.K g s H → RD X.K g H x v → RD X.K g H y w →
      (∃ k, f x y s = .ok (.bl k) s ∧ Q (.bl k) H) → r v w H Q) (hpure : ∀ x y s, (∃ k, f x y s = .ok (.bl k) s) ∨ f x y s = .bad) (hf' : Op2 X.K r' f')
    (ha : PX X W a ma) (hb : PX X W b mb) (hc : PX X W c mc) (he : True) (t : TE) (ht : PE X (.Compare a [op, op'] [b, c] pos) t) (hte : t = tChain r r' (TE' X.K W ma) (TE' X.K W mb) (TE' X.K W mc)) : PX X W (.Compare a [op, op'] [b, c] pos) (chainM f f' ma mb mc) := by
  subst hte
  refine PE.imp ht fun σ H Q h => ?_
  refine (TX.bind (rel := RD X.K) h).imp fun v H1 ⟨g1, x, s1, env, R1, E1, r1, p1⟩ => ?_
  refine TX.mk (g := g1) (s := s1) (env := env) R1 E1 ((Post.bind (rel := RD X.K) p1).imp fun w H2 ⟨g2, y, s2, st, R2, r2, _, p2⟩ => ?_)
  refine hf g2 s2 H2 x y v w _ R2 (RD.mono st.toStp0 x v r1) r2 ?_
  rcases hpure x y s2 with ⟨k, e⟩ | e
  · rw [e] at p2
    refine ⟨k, e, k, rfl, ?_⟩
    cases k with
    | false =>
      rw [if_neg Bool.false_ne_true]
      exact p2 g2 H2 _ (.refl _ _) R2 rfl
    | true =>
      rw [if_pos rfl]
      have p3 : Post X.K W g2 H2 σ (RD X.K) (bd (mc env s2) fun w s4 => f' y w s4) Q := p2
      refine TX.mk (g := g2) (s := s2) (env := env) R2 (E1.mono st.toStp0) ((Post.bind (rel := RD X.K) p3).imp fun u H3 ⟨g3, z, s3, st3, R3, r3, _, p3⟩ => ?_)
      exact hf' W g3 s3 H3 σ y z w u Q R3 (RD.mono st3.toStp0 y w r2) r3 p3
  · rw [e] at p2
    exact p2.elim
/-- one value -/
def op1M (f : D → S → R D) (ma : ME D) : ME D := fun env s => bd (ma env s) f
end
end Co
namespace Co
open PySem PySem.Spec PyProof.Rows L2

/-- a new list: kept as a tree, or (m) an object of the heap -/
def mkL (m : Bool) (ds : List D) : S → R D := fun s => if ds.length ≤ LINE then (if m then .ok (.ref s.next) (s.alloc (.lst ds)) else .ok (.lv ds) s) else .bad
def mkT (ds : List D) : S → R D := fun s => if ds.length ≤ LINE then .ok (.tup ds) s else .bad
section
variable {K : Frag} {W : WX} {g : Gh} {s : S} {H : Hp} {σ : L2.St} {Q : VK}
theorem post_mkL {m : Bool} {ds : List D} {vs : List V} (R : Rel K g s H) (r : RDs K g H ds vs) (h : Post K W g H σ (RD K) (mkL m ds s) Q) :
    vs.length ≤ sizeLine ∧ ∀ p, H p = none → Q (.ref p) (upd H p (.lst vs)) := by
  unfold mkL at h
  by_cases hl : ds.length ≤ LINE
  · rw [if_pos hl] at h
    refine ⟨by rw [← r.length]; exact hl, fun p hp => ?_⟩
    cases m with
    | false => exact h (g.frz p) _ _ (stp_frz R hp) (R.frz hp) ⟨p, vs, rfl, .inr rfl, upd_same, RDs.mono (stp_frz R hp).toStp0 _ _ r⟩
    | true => exact h (g.add s.next p) _ _ (stp_add R hp) (R.add hp ⟨vs, upd_same, RDs.mono (stp_add R hp).toStp0 _ _ r⟩) ⟨p, rfl, if_pos rfl⟩
  · rw [if_neg hl] at h; exact h.elim
theorem post_mkT {ds : List D} {vs : List V} (R : Rel K g s H) (r : RDs K g H ds vs) (h : Post K W g H σ (RD K) (mkT ds s) Q) :
    vs.length ≤ sizeLine ∧ ∀ p, H p = none → Q (.ref p) (upd H p (.tup vs)) := by
  unfold mkT at h
  by_cases hl : ds.length ≤ LINE
  · rw [if_pos hl] at h
    exact ⟨by rw [← r.length]; exact hl, fun p hp => h g _ _ (stp_new R hp) (R.new hp) ⟨p, vs, rfl, upd_same, RDs.mono (stp_new R hp).toStp0 _ _ r⟩⟩
  · rw [if_neg hl] at h; exact h.elim
theorem post_ok {d : D} {v : V} (R : Rel K g s H) (r : RD K g H d v) (h : Post K W g H σ (RD K) (.ok d s) Q) : Q v H := h g H v (.refl _ _) R r
/-- a list that is tracked -/
def trkOf (d : D) (s : S) : Option (List D) := match d with
  | .lv ds => some ds
  | .ref a => match s.heap a with
    | some (.lst ds) => some ds
    | _ => none
  | _ => none
theorem trk_ok {d : D} {ds : List D} {v : V} (R : Rel K g s H) (r : RD K g H d v) (e : trkOf d s = some ds) : ∃ p vs, v = .ref p ∧ H p = some (.lst vs) ∧ RDs K g H ds vs := by
  cases d with
  | lv xs =>
    cases e
    obtain ⟨p, vs, e1, _, e2, e3⟩ := r
    exact ⟨p, vs, e1, e2, e3⟩
  | ref a =>
    obtain ⟨p, e1, e2⟩ := r
    have e' : (match s.heap a with | some (.lst ds) => some ds | _ => none) = some ds := e
    split at e'
    · rename_i xs hx
      cases e'
      obtain ⟨q, h1, _, vs, h3, h4⟩ := R.obj a _ hx
      rw [e2] at h1; cases h1
      exact ⟨p, vs, e1, h3, h4⟩
    · cases e'
  | _ => cases e
theorem lst_ok {d : D} {ds : List D} {v : V} (R : Rel K g s H) (r : RD K g H d v) (e : lstOf d s = some ds) : ∃ p vs, v = .ref p ∧ SqL K H p vs ∧ RDs K g H ds vs := by
  cases d with
  | sc xs =>
    cases e
    obtain ⟨p, vs, e1, e2, e3⟩ := r
    exact ⟨p, vs, e1, e2.seq, e3⟩
  | lv xs =>
    obtain ⟨p, vs, e1, e2, e3⟩ := trk_ok (d := .lv xs) R r e
    exact ⟨p, vs, e1, .of e2, e3⟩
  | ref a =>
    obtain ⟨p, vs, e1, e2, e3⟩ := trk_ok (d := .ref a) R r e
    exact ⟨p, vs, e1, .of e2, e3⟩
  | _ => cases e
theorem tup_ok {ds : List D} {v : V} (r : RD K g H (.tup ds) v) : ∃ p vs, v = .ref p ∧ H p = some (.tup vs) ∧ RDs K g H ds vs := r
end

/-! ### arithmetic -/
def addF (m : Bool) (x y : D) (s : S) : R D := match x, y with
  | .int i, .int j => .ok (.int (i + j)) s
  | .str a, .str b => if a.length + b.length ≤ LINE then .ok (.str (a ++ b)) s else .bad
  | .tup a, .tup b => if a.length + b.length ≤ LINE then .ok (.tup (a ++ b)) s else .bad
  | x, y => match trkOf x s, trkOf y s with
    | some a, some b => mkL m (a ++ b) s
    | _, _ => .bad
def rAddF (K : Frag) : R2 := fun x y H Q => rI0 (fun i j => .int (i + j)) x y H Q ∨ (∃ i j, x = .str i ∧ y = .str j ∧ i.length + j.length ≤ sizeLine ∧ Q (.str (i ++ j)) H) ∨ rCatA K x y H Q ∨ rCat x y H Q
theorem or_add {X : Cx} : OpR X (binaryOp .Add) (rAddF X.K) := OpR.or op_add (OpR.or op_add_str (OpR.or op_catA op_cat))
theorem RDs.nil_iff {K : Frag} {g : Gh} {H : Hp} {ds : List D} {vs : List V} (h : RDs K g H ds vs) : vs = [] ↔ ds = [] := by
  have := h.length
  constructor <;> intro e <;> subst e <;> simp at this
  · exact this
  · exact List.length_eq_zero_iff.mp this.symm
theorem op2_add {K : Frag} {m : Bool} : Op2 K (rAddF K) (addF m) := by
  intro W g s H σ x y v w Q R rx ry h
  have gen : (match trkOf x s, trkOf y s with | some a, some b => Post K W g H σ (RD K) (mkL m (a ++ b) s) Q | _, _ => False) → rAddF K v w H Q := by
    intro h
    split at h
    · rename_i a b ha hb
      obtain ⟨p, vs, rfl, e2, e3⟩ := trk_ok R rx ha
      obtain ⟨q, us, rfl, f2, f3⟩ := trk_ok R ry hb
      obtain ⟨z, k⟩ := post_mkL R (e3.append f3) h
      exact .inr (.inr (.inr ⟨p, q, vs, us, rfl, rfl, e2, f2, by rw [← List.length_append]; exact z, k⟩))
    · exact h.elim
  have other : addF m x y s = (match trkOf x s, trkOf y s with | some a, some b => mkL m (a ++ b) s | _, _ => Co.R.bad) → rAddF K v w H Q := fun e => by
    rw [e] at h
    refine gen ?_
    split at h <;> first | exact h | exact h.elim
  cases x with
  | int i =>
    cases y with
    | int j =>
      cases rx; cases ry
      exact .inl ⟨i, j, rfl, rfl, post_ok (d := .int (i + j)) R rfl h⟩
    | _ => exact other rfl
  | str i =>
    cases y with
    | str j =>
      cases rx; cases ry
      have h' : Post K W g H σ (RD K) (if i.length + j.length ≤ LINE then .ok (.str (i ++ j)) s else .bad) Q := h
      by_cases hl : i.length + j.length ≤ LINE
      · rw [if_pos hl] at h'
        exact .inr (.inl ⟨i, j, rfl, rfl, hl, post_ok (d := .str (i ++ j)) R rfl h'⟩)
      · rw [if_neg hl] at h'; exact h'.elim
    | _ => exact other rfl
  | tup xs =>
    cases y with
    | tup ys =>
      have h' : Post K W g H σ (RD K) (if xs.length + ys.length ≤ LINE then .ok (.tup (xs ++ ys)) s else .bad) Q := h
      obtain ⟨p, vs, rfl, e2, e3⟩ := tup_ok rx
      obtain ⟨q, us, rfl, f2, f3⟩ := tup_ok ry
      by_cases hl : xs.length + ys.length ≤ LINE
      · rw [if_pos hl] at h'
        refine .inr (.inr (.inl ⟨p, q, vs, us, rfl, rfl, .of e2, .of f2, by rw [← e3.length, ← f3.length]; exact hl, fun e => ?_, fun _ e => ?_, fun _ _ a ha => ?_⟩))
        · have e' := e3.nil_iff.mp e
          subst e'
          exact post_ok (d := .tup ([] ++ ys)) R ⟨q, us, rfl, f2, f3⟩ h'
        · have e' := f3.nil_iff.mp e
          subst e'
          rw [List.append_nil] at h'
          exact post_ok (d := .tup xs) R ⟨p, vs, rfl, e2, e3⟩ h'
        · have hl' : (xs ++ ys).length ≤ LINE := by rw [List.length_append]; exact hl
          refine (post_mkT (W := W) (σ := σ) (Q := Q) R (e3.append f3) ?_).2 a ha
          unfold mkT
          rw [if_pos hl']
          exact h'
      · rw [if_neg hl] at h'; exact h'.elim
    | _ => exact other rfl
  | lv xs => cases y <;> exact other rfl
  | ref a => cases y <;> exact other rfl
  | sc xs => cases y <;> exact other rfl
  | non => cases y <;> exact other rfl
  | bl b => cases y <;> exact other rfl
  | dv ks ds => cases y <;> exact other rfl
  | ct ds => cases y <;> exact other rfl
/-- two ints -/
def intF (C : Int → Int → Prop) [∀ i j, Decidable (C i j)] (k : Int → Int → D) (x y : D) (s : S) : R D := match x, y with
  | .int i, .int j => if C i j then .ok (k i j) s else .bad
  | _, _ => .bad
theorem op2_int {K : Frag} {C : Int → Int → Prop} [∀ i j, Decidable (C i j)] {k : Int → Int → D} {k' : Int → Int → V} (hk : ∀ g H i j, RD K g H (k i j) (k' i j)) : Op2 K (rI C k') (intF C k) := by
  intro W g s H σ x y v w Q R rx ry h
  cases x with
  | int i =>
    cases y with
    | int j =>
      cases rx; cases ry
      have h' : Post K W g H σ (RD K) (if C i j then .ok (k i j) s else .bad) Q := h
      by_cases hc : C i j
      · rw [if_pos hc] at h'
        exact ⟨i, j, rfl, rfl, hc, post_ok R (hk g H i j) h'⟩
      · rw [if_neg hc] at h'; exact h'.elim
    | _ => exact h.elim
  | _ => cases y <;> exact h.elim
def CTrue (i j : Int) : Prop := True
instance (i j : Int) : Decidable (CTrue i j) := .isTrue trivial
theorem OpR.ci {X : Cx} {f : Value → Value → Sem Value} {k : Int → Int → V} (h : OpR X f (rI0 k)) : OpR X f (rI CTrue k) := fun pins s σ H x y v u Q I rx ry ⟨i, j, e1, e2, _, q⟩ => h pins s σ H x y v u Q I rx ry ⟨i, j, e1, e2, q⟩
noncomputable instance (i j : Int) : Decidable (CMul i j) := Classical.propDecidable _
noncomputable instance (i j : Int) : Decidable (CDiv i j) := Classical.propDecidable _
noncomputable instance (i j : Int) : Decidable (CPow i j) := Classical.propDecidable _
def subF := intF CTrue fun i j => .int (i - j)
noncomputable def mulF := intF CMul fun i j => .int (i * j)
def modF := intF (fun _ j => 0 < j) fun i j => .int (i % j)
noncomputable def fdivF := intF CDiv fun i j => .int (i / j)
noncomputable def powF := intF CPow fun i j => .int (i ^ j.toNat)
def ltF := intF CTrue fun i j => .bl (decide (i < j))
def leF := intF CTrue fun i j => .bl (decide (i ≤ j))
def gtF := intF CTrue fun i j => .bl (decide (j < i))
def geF := intF CTrue fun i j => .bl (decide (j ≤ i))

/-! ### equality -/
/-- of two that are no objects: none where it is not spoken of -/
def scalEq : D → D → Option Bool
  | .non, .non => some true
  | .int i, .int j => some (decide (i = j))
  | .str i, .str j => some (decide (i = j))
  | .bl i, .bl j => some (decide (i = j))
  | .non, .int _ => some false | .int _, .non => some false | .non, .bl _ => some false | .bl _, .non => some false | .non, .str _ => some false | .str _, .non => some false
  | .int _, .str _ => some false | .str _, .int _ => some false | .bl _, .str _ => some false | .str _, .bl _ => some false
  | _, _ => none
def eqvD (x y : D) (s : S) : Option Bool := match scalEq x y with
  | some k => some k
  | none => match pyT s x, pyT s y with
    | some p, some q => if SeqAt.shaped p = true ∧ SeqAt.shaped q = true then some (PyData.eqv p q) else none
    | _, _ => none
def eqF (neg : Bool) (x y : D) (s : S) : R D := match eqvD x y s with
  | some k => .ok (.bl (if neg then !k else k)) s
  | none => .bad
theorem scal_ok {K : Frag} {g : Gh} {H : Hp} {x y : D} {v w : V} {k : Bool} (rx : RD K g H x v) (ry : RD K g H y w) (e : scalEq x y = some k) : scal v w = true ∧ k = decide (v = w) := by
  cases x <;> cases y <;> first
    | (cases e; done)
    | (cases e; cases rx; cases ry; exact ⟨rfl, by simp⟩)
    | skip
section
variable {K : Frag} {g : Gh} {H : Hp}
mutual
theorem dp_of : ∀ (d : D) (v : V) (p : PyData), RD K g H d v → pyD d = some p → p.canLay0 = true → Dp K H v p
  | .non, v, p, r, e, c => by cases e; cases r; exact .non
  | .bl b, v, p, r, e, c => by cases e; cases r; exact .bl b
  | .int b, v, p, r, e, c => by cases e; cases r; exact .int b
  | .str b, v, p, r, e, c => by cases e; cases r; exact .str b
  | .tup ds, v, p, r, e, c => by
    obtain ⟨ps, e1, e2⟩ := Option.map_eq_some_iff.mp (show (pyL ds).map PyData.tuple = some p from e)
    subst e2
    obtain ⟨q, vs, rfl, h1, h2⟩ := r
    exact .tup (.of h1) (dps_of ds vs ps h2 e1 c)
  | .ct ds, v, p, r, e, c => by
    obtain ⟨ps, e1, e2⟩ := Option.map_eq_some_iff.mp (show (pyL ds).map PyData.tuple = some p from e)
    subst e2
    obtain ⟨q, vs, rfl, h1, h2⟩ := r
    exact .tup h1.tup (dps_of ds vs ps h2 e1 c)
  | .lv ds, v, p, r, e, c => by
    obtain ⟨ps, e1, e2⟩ := Option.map_eq_some_iff.mp (show (pyL ds).map PyData.list = some p from e)
    subst e2
    obtain ⟨q, vs, rfl, _, h1, h2⟩ := r
    exact .lst (.of h1) (dps_of ds vs ps h2 e1 c)
  | .sc ds, v, p, r, e, c => by
    obtain ⟨ps, e1, e2⟩ := Option.map_eq_some_iff.mp (show (pyL ds).map PyData.list = some p from e)
    subst e2
    obtain ⟨q, vs, rfl, h1, h2⟩ := r
    exact .lst h1.seq (dps_of ds vs ps h2 e1 c)
  | .dv ks ds, v, p, r, e, c => by
    have e' : (if ks.length = ds.length then (pyL ds).map fun ps => PyData.dict ((ks.map pyKey).zip ps) else none) = some p := e
    split at e'
    · obtain ⟨ps, e1, e2⟩ := Option.map_eq_some_iff.mp e'
      subst e2
      cases c
    · cases e'
  | .ref a, v, p, r, e, c => by cases e
theorem dps_of : ∀ (ds : List D) (vs : List V) (ps : List PyData), RDs K g H ds vs → pyL ds = some ps → PyData.canLayAll0 ps = true → DpAll K H vs ps
  | [], vs, ps, r, e, c => by cases e; cases r; exact .nil
  | d :: ds, vs, ps, r, e, c => by
    obtain ⟨v, us, rfl, h1, h2⟩ := r
    have e' : (match pyD d, pyL ds with | some p, some ps => some (p :: ps) | _, _ => none) = some ps := e
    split at e'
    · rename_i p qs hp hq
      cases e'
      have c' : (p.canLay0 && PyData.canLayAll0 qs) = true := c
      obtain ⟨c1, c2⟩ := Bool.and_eq_true_iff.mp c'
      exact .cons (dp_of d v p h1 hp c1) (dps_of ds us qs h2 hq c2)
    · cases e'
end
theorem dpT_of {s : S} (R : Rel K g s H) {d : D} {v : V} {p : PyData} (r : RD K g H d v) (e : pyT s d = some p) (c : p.canLay0 = true) : Dp K H v p := by
  cases d with
  | ref a =>
    obtain ⟨q, rfl, hq⟩ := r
    have e' : (match s.heap a with
      | some (.lst ds) => (pyL ds).map PyData.list
      | some (.dK kvs) => (pyL (kvs.map (·.2))).map fun ps => PyData.dict ((kvs.map fun kv => pyKey kv.1).zip ps)
      | _ => none) = some p := e
    split at e'
    · rename_i ds ha
      obtain ⟨ps, e1, e2⟩ := Option.map_eq_some_iff.mp e'
      subst e2
      obtain ⟨q', h1, _, vs, h3, h4⟩ := R.obj a _ ha
      rw [hq] at h1; cases h1
      exact .lst (.of h3) (dps_of ds vs ps h4 e1 c)
    · obtain ⟨ps, e1, e2⟩ := Option.map_eq_some_iff.mp e'
      subst e2
      cases c
    · cases e'
  | _ => exact dp_of _ _ _ r e c
end
def rEqF (K : Frag) (neg : Bool) : R2 := fun x y H Q => (scal x y = true ∧ Q (.bl (if neg then !decide (x = y) else decide (x = y))) H) ∨ ∃ d e, Dp K H x d ∧ Dp K H y e ∧ SeqAt.shaped d = true ∧ SeqAt.shaped e = true ∧ Q (.bl (if neg then !PyData.eqv d e else PyData.eqv d e)) H
theorem or_eq {X : Cx} (hu : X.A.units + 64 < cLine) : OpR X (compareOp .Eq) (rEqF X.K false) := OpR.or op_eq (op_eqD hu)
theorem or_ne {X : Cx} (hu : X.A.units + 64 < cLine) : OpR X (compareOp .NotEq) (rEqF X.K true) := OpR.or op_ne (op_neD hu)
theorem op2_eq {K : Frag} {neg : Bool} : Op2 K (rEqF K neg) (eqF neg) := by
  intro W g s H σ x y v w Q R rx ry h
  unfold eqF eqvD at h
  cases e : scalEq x y with
  | some k =>
    rw [e] at h
    obtain ⟨h1, h2⟩ := scal_ok rx ry e
    subst h2
    exact .inl ⟨h1, post_ok (d := .bl _) R rfl h⟩
  | none =>
    rw [e] at h
    cases ep : pyT s x with
    | none => rw [ep] at h; exact h.elim
    | some p =>
      cases eq : pyT s y with
      | none => rw [ep, eq] at h; exact h.elim
      | some q =>
        rw [ep, eq] at h
        by_cases c : SeqAt.shaped p = true ∧ SeqAt.shaped q = true
        · simp only [if_pos c] at h
          exact .inr ⟨p, q, dpT_of R rx ep (SeqAt.canLay_of_shaped c.1), dpT_of R ry eq (SeqAt.canLay_of_shaped c.2), c.1, c.2, post_ok (d := .bl _) R rfl h⟩
        · simp only [if_neg c] at h
          exact h.elim
/-- is None -/
def isNonD : D → Bool
  | .non => true
  | _ => false
def isNF (neg : Bool) (x y : D) (s : S) : R D := match y with
  | .non => .ok (.bl (if neg then !isNonD x else isNonD x)) s
  | _ => .bad
theorem non_iff {K : Frag} {g : Gh} {H : Hp} {x : D} {v : V} (r : RD K g H x v) : decide (v = V.non) = isNonD x := by
  cases x with
  | non => cases r; rfl
  | bl b => cases r; rfl
  | int b => cases r; rfl
  | str b => cases r; rfl
  | tup ds => obtain ⟨p, vs, rfl, _⟩ := r; rfl
  | ct ds => obtain ⟨p, vs, rfl, _⟩ := r; rfl
  | lv ds => obtain ⟨p, vs, rfl, _⟩ := r; rfl
  | sc ds => obtain ⟨p, vs, rfl, _⟩ := r; rfl
  | dv ks ds => obtain ⟨p, vs, rfl, _⟩ := r; rfl
  | ref a => obtain ⟨p, rfl, _⟩ := r; rfl
theorem op2_is {K : Frag} : Op2 K (fun x y H Q => y = .non ∧ Q (.bl (decide (x = .non))) H) (isNF false) := by
  intro W g s H σ x y v w Q R rx ry h
  cases y with
  | non =>
    cases ry
    refine ⟨rfl, ?_⟩
    rw [non_iff rx]
    exact post_ok (d := .bl _) R rfl h
  | _ => exact h.elim
theorem op2_isnot {K : Frag} : Op2 K (fun x y H Q => y = .non ∧ Q (.bl (!decide (x = .non))) H) (isNF true) := by
  intro W g s H σ x y v w Q R rx ry h
  cases y with
  | non =>
    cases ry
    refine ⟨rfl, ?_⟩
    rw [non_iff rx]
    exact post_ok (d := .bl _) R rfl h
  | _ => exact h.elim
end Co
namespace Co
open PySem PySem.Spec PyProof.Rows L2
/-! ### a dict is read -/
section
variable {K : Frag} {W : WX} {g : Gh} {s : S} {H : Hp} {σ : L2.St} {Q : VK}
theorem getK_pair {κ : Type} [DecidableEq κ] : ∀ {kvs : List (κ × D)} {ws : List (κ × V)} (k : κ), ws.map (·.1) = kvs.map (·.1) → RDs K g H (kvs.map (·.2)) (ws.map (·.2)) →
    (getK kvs k = none → valV ws k = none) ∧ ∀ d, getK kvs k = some d → ∃ v, valV ws k = some v ∧ RD K g H d v
  | [], [], k, _, _ => ⟨fun _ => rfl, fun d e => by cases e⟩
  | [], _ :: _, k, e, _ => by simp at e
  | _ :: _, [], k, e, _ => by simp at e
  | (a, d) :: kvs, (b, v) :: ws, k, e, r => by
    simp only [List.map_cons, List.cons.injEq] at e
    obtain ⟨e1, e2⟩ := e
    subst e1
    obtain ⟨v', r', e3, h1, h2⟩ := r
    simp only [List.map_cons, List.cons.injEq] at e3
    obtain ⟨e4, e5⟩ := e3
    subst e4 e5
    obtain ⟨i1, i2⟩ := getK_pair k e2 h2
    by_cases h : b = k
    · have g1 : getK ((b, d) :: kvs) k = some d := by simp [getK, List.find?_cons, h]
      have g2 : valV ((b, v) :: ws) k = some v := valV_pos h
      refine ⟨fun z => ?_, fun d' z => ?_⟩
      · rw [g1] at z; cases z
      · rw [g1] at z; cases z; exact ⟨v, g2, h1⟩
    · have g1 : getK ((b, d) :: kvs) k = getK kvs k := by simp [getK, List.find?_cons, h]
      have g2 : valV ((b, v) :: ws) k = valV ws k := valV_neg h
      rw [g1, g2]
      exact ⟨i1, i2⟩
theorem keyOf_ok {d : D} {v : V} {k : Key} (r : RD K g H d v) (e : keyOf d = some k) : v = kV k := by
  cases d with
  | int i => cases e; cases r; rfl
  | str x => cases e; cases r; rfl
  | _ => cases e
theorem keysOf_ok : ∀ {ds : List D} {vs : List V} {k : List Key}, RDs K g H ds vs → keysOf ds = some k → vs = k.map kV
  | [], vs, k, r, e => by cases e; cases r; rfl
  | d :: ds, vs, k, r, e => by
    obtain ⟨v, us, rfl, h1, h2⟩ := r
    have e' : (match keyOf d, keysOf ds with | some k, some ks => some (k :: ks) | _, _ => none) = some k := e
    split at e'
    · rename_i k1 ks h3 h4
      cases e'
      rw [keyOf_ok h1 h3, keysOf_ok h2 h4]; rfl
    · cases e'
/-- a dict with int and text keys: where it stands, what is read -/
theorem dic_ok {d : D} {v : V} {kvs : List (Key × D)} (R : Rel K g s H) (r : RD K g H d v) (e : dicOf d s = some kvs) :
    ∃ p ws, v = .ref p ∧ Rd H p (.dK ws) ∧ ws.map (·.1) = kvs.map (·.1) ∧ RDs K g H (kvs.map (·.2)) (ws.map (·.2)) := by
  cases d with
  | dv ks ds =>
    have e' : (if ks.length = ds.length then some (ks.zip ds) else none) = some kvs := e
    by_cases hl : ks.length = ds.length
    · rw [if_pos hl] at e'
      cases e'
      obtain ⟨p, ws, e1, _, e2, e3, e4⟩ := r
      refine ⟨p, ws, e1, .of e2, ?_, ?_⟩
      · rw [e3, List.map_fst_zip (by omega)]
      · rw [List.map_snd_zip (by omega)]; exact e4
    · rw [if_neg hl] at e'; cases e'
  | ref a =>
    obtain ⟨p, e1, e2⟩ := r
    have e' : (match s.heap a with | some (.dK kvs) => some kvs | some (.lk kvs) => some kvs | _ => none) = some kvs := e
    split at e'
    · rename_i ks ha
      cases e'
      obtain ⟨q, h1, _, ws, h3, h4, h5⟩ := R.obj a _ ha
      rw [e2] at h1; cases h1
      exact ⟨p, ws, e1, .of h3, h4, h5⟩
    · rename_i ks ha
      cases e'
      obtain ⟨q, h1, _, o, ws, h3, h4, h5⟩ := R.obj a _ ha
      rw [e2] at h1; cases h1
      exact ⟨p, ws, e1, .inr ⟨o, h3⟩, h4, h5⟩
    · cases e'
  | _ => cases e
def dicT (d : D) (s : S) : Option (List (List Key × D)) := match d with
  | .ref a => match s.heap a with
    | some (.dT kvs) => some kvs
    | some (.lkT kvs) => some kvs
    | _ => none
  | _ => none
theorem dicT_ok {d : D} {v : V} {kvs : List (List Key × D)} (R : Rel K g s H) (r : RD K g H d v) (e : dicT d s = some kvs) :
    ∃ p ws, v = .ref p ∧ Rd H p (.dT ws) ∧ ws.map (·.1) = kvs.map (·.1) ∧ RDs K g H (kvs.map (·.2)) (ws.map (·.2)) := by
  cases d with
  | ref a =>
    obtain ⟨p, e1, e2⟩ := r
    have e' : (match s.heap a with | some (.dT kvs) => some kvs | some (.lkT kvs) => some kvs | _ => none) = some kvs := e
    split at e'
    · rename_i ks ha
      cases e'
      obtain ⟨q, h1, _, ws, h3, h4, h5⟩ := R.obj a _ ha
      rw [e2] at h1; cases h1
      exact ⟨p, ws, e1, .of h3, h4, h5⟩
    · rename_i ks ha
      cases e'
      obtain ⟨q, h1, _, o, ws, h3, h4, h5⟩ := R.obj a _ ha
      rw [e2] at h1; cases h1
      exact ⟨p, ws, e1, .inr ⟨o, h3⟩, h4, h5⟩
    · cases e'
  | _ => cases e
/-- what a dict has at a key: none where it is no dict, or no key -/
def dget (d k : D) (s : S) : Option (Option D) := match dicOf d s with
  | some kvs => match keyOf k with
    | some k => some (getK kvs k)
    | none => none
  | none => match dicT d s with
    | some kvs => match keyT k with
      | some k => some (getK kvs k)
      | none => none
    | none => none
theorem dget_ok {d k : D} {v w : V} {o : Option D} (R : Rel K g s H) (r : RD K g H d v) (rk : RD K g H k w) (e : dget d k s = some o) :
    ∃ p ov, v = .ref p ∧ DGet H p w ov ∧ (o = none → ov = none) ∧ ∀ d, o = some d → ∃ x, ov = some x ∧ RD K g H d x := by
  unfold dget at e
  split at e
  · rename_i kvs hd
    split at e
    · rename_i k' hk
      cases e
      obtain ⟨p, ws, e1, e2, e3, e4⟩ := dic_ok R r hd
      obtain ⟨h1, h2⟩ := getK_pair k' e3 e4
      exact ⟨p, _, e1, .inl ⟨ws, k', e2, keyOf_ok rk hk, rfl⟩, h1, h2⟩
    · cases e
  · split at e
    · rename_i kvs hd
      split at e
      · rename_i k' hk
        cases e
        obtain ⟨p, ws, e1, e2, e3, e4⟩ := dicT_ok R r hd
        obtain ⟨h1, h2⟩ := getK_pair k' e3 e4
        cases k with
        | tup ds =>
          obtain ⟨q, us, rfl, f1, f2⟩ := rk
          have f3 : us = k'.map kV := keysOf_ok f2 hk
          subst f3
          exact ⟨p, _, e1, .inr ⟨ws, k', q, e2, rfl, f1, rfl⟩, h1, h2⟩
        | _ => cases hk
      · cases e
    · cases e
end

/-! ### a[b] -/
def ixF (x y : D) (s : S) : R D := match x, y with
  | .str z, .int i => match atI z.cps.toList i with
    | some c => if z.length ≤ LINE then .ok (.str ⟨#[c]⟩) s else .bad
    | none => .bad
  | x, y => match seqOf x s with
    | some ds => match y with
      | .int i => match atI ds i with
        | some d => .ok d s
        | none => .bad
      | _ => .bad
    | none => match dget x y s with
      | some (some d) => .ok d s
      | _ => .bad
def rDG : R2 := fun x y H Q => ∃ a v, x = .ref a ∧ DGet H a y (some v) ∧ Q v H
theorem ix_dict {X : Cx} (hu : X.A.units + 1 < cLine) : IxR X rDG := by
  intro value slice pins s σ H x y v u Q I rx ry h hs
  obtain ⟨a, z, rfl, hg, q⟩ := h
  cases rx
  have hT := dict_typeIs I hg
  unfold subscriptTail
  refine wpAny_bind ?_
  rw [getitemInPython_of_ne hT.not_modules]
  refine wpAny_bind (wpAny_specialOf hT PySem.F.slot_dict_getitem.lookup ?_)
  have fin : wpAny (model X.prog X.w) X.A (subscripted slice false (.ref a) u) (fun r s₃ => wpAny (model X.prog X.w) X.A (letTemporaryGo value (.ref a) r >>= fun _ => pure r) (EP X pins σ Q) X.xe s₃) X.xe s := by
    rw [hs]
    exact wpAny_operating (d_getItem hu I hg ry fun w' s3 I3 rw' => wpAny_bind (wpAny_letTemporaryGo (wpAny_pure ⟨z, H, I3, rw', q⟩)))
  first
    | exact wpAny_pure (wpAny_bind fin)
    | exact wpAny_bind (wpAny_pure (wpAny_bind fin))
    | exact wpAny_bind fin
def rIxF (K : Frag) : R2 := fun x y H Q => rIx K x y H Q ∨ rDG x y H Q
theorem or_ix {X : Cx} (hu : X.A.units + 1 < cLine) : IxR X (rIxF X.K) := IxR.or ix_seq (ix_dict hu)
theorem atI_rel {K : Frag} {g : Gh} {H : Hp} {ds : List D} {vs : List V} {i : Int} {d : D} (r : RDs K g H ds vs) (e : atI ds i = some d) : ∃ v, atI vs i = some v ∧ RD K g H d v := by
  unfold atI at e ⊢
  rw [← r.length]
  cases h : ixN ds.length i with
  | none => rw [h] at e; cases e
  | some j =>
    rw [h] at e
    exact r.get e
theorem op2_ix {K : Frag} : Op2 K (rIxF K) ixF := by
  intro W g s H σ x y v w Q R rx ry h
  have gen : (match seqOf x s with
    | some ds => match y with
      | .int i => match atI ds i with
        | some d => Co.R.ok d s
        | none => .bad
      | _ => .bad
    | none => match dget x y s with
      | some (some d) => Co.R.ok d s
      | _ => .bad) = ixF x y s → rIxF K v w H Q := by
    intro e
    rw [← e] at h
    cases hs : seqOf x s with
    | some ds =>
      rw [hs] at h
      cases y with
      | int i =>
        cases ha : atI ds i with
        | none => simp only [ha] at h; exact h.elim
        | some d =>
          simp only [ha] at h
          cases ry
          have sq : (∃ p vs, v = .ref p ∧ SqL K H p vs ∧ RDs K g H ds vs) ∨ ∃ p vs, v = .ref p ∧ SqT K H p vs ∧ RDs K g H ds vs := by
            cases x with
            | tup xs =>
              cases hs
              obtain ⟨p, vs, e1, e2, e3⟩ := rx
              exact .inr ⟨p, vs, e1, .of e2, e3⟩
            | ct xs =>
              cases hs
              obtain ⟨p, vs, e1, e2, e3⟩ := rx
              exact .inr ⟨p, vs, e1, e2.tup, e3⟩
            | _ => exact .inl (lst_ok R rx hs)
          rcases sq with ⟨p, vs, rfl, e2, e3⟩ | ⟨p, vs, rfl, e2, e3⟩
          · obtain ⟨u, hu, ru⟩ := atI_rel e3 ha
            exact .inl (.inl ⟨p, vs, i, u, rfl, rfl, e2, hu, post_ok R ru h⟩)
          · obtain ⟨u, hu, ru⟩ := atI_rel e3 ha
            exact .inl (.inr (.inl ⟨p, vs, i, u, rfl, rfl, e2, hu, post_ok R ru h⟩))
      | _ => exact h.elim
    | none =>
      rw [hs] at h
      cases hd : dget x y s with
      | none => simp only [hd] at h; exact h.elim
      | some o =>
        cases o with
        | none => simp only [hd] at h; exact h.elim
        | some d =>
          simp only [hd] at h
          obtain ⟨p, ov, e1, e2, _, e4⟩ := dget_ok R rx ry hd
          obtain ⟨u, hu, ru⟩ := e4 d rfl
          subst hu
          exact .inr ⟨p, u, e1, e2, post_ok R ru h⟩
  cases x with
  | str z =>
    cases y with
    | int i =>
      have h' : Post K W g H σ (RD K) (match atI z.cps.toList i with | some c => if z.length ≤ LINE then .ok (.str ⟨#[c]⟩) s else .bad | none => .bad) Q := h
      cases ha : atI z.cps.toList i with
      | none => rw [ha] at h'; exact h'.elim
      | some c =>
        rw [ha] at h'
        by_cases hl : z.length ≤ LINE
        · simp only [if_pos hl] at h'
          cases rx; cases ry
          exact .inl (.inr (.inr ⟨z, i, c, rfl, rfl, hl, ha, post_ok (d := .str _) R rfl h'⟩))
        · simp only [if_neg hl] at h'; exact h'.elim
    | _ => exact gen rfl
  | _ => cases y <;> exact gen rfl

/-! ### in -/
def flatD : D → Bool
  | .non => true | .bl _ => true | .int _ => true | .str _ => true
  | _ => false
def eqFl : D → D → Bool
  | .non, .non => true
  | .bl a, .bl b => a == b
  | .bl a, .int b => (if a then 1 else 0) == b
  | .int a, .bl b => a == (if b then 1 else 0)
  | .int a, .int b => a == b
  | .str a, .str b => a == b
  | _, _ => false
def strIn (x z : Str) : Bool := !(Builtin.Str.occurrences z x 0 z.length 1).isEmpty
def memD (x y : D) (s : S) : Option Bool := match x, y with
  | .str a, .str b => some (strIn a b)
  | x, y => match seqOf y s with
    | some ds => if flatD x = true ∧ ds.all flatD = true then some (ds.any fun d => eqFl d x) else match pyT s x, pyT s y with
      | some p, some (.list qs) => if SeqAt.shaped p = true ∧ SeqAt.shaped (.list qs) = true then some (qs.any fun q => PyData.eqv q p) else none
      | _, _ => none
    | none => match dget y x s with
      | some o => some o.isSome
      | none => none
def inF (neg : Bool) (x y : D) (s : S) : R D := match memD x y s with
  | some k => .ok (.bl (if neg then !k else k)) s
  | none => .bad
def rInF (K : Frag) (neg : Bool) : R2 := fun x y H Q => (∃ i j, x = .str i ∧ y = .str j ∧ Q (.bl (if neg then !(strIn i j) else strIn i j)) H) ∨ rIn K neg x y H Q ∨
  (∃ d ds, Dp K H x d ∧ Dp K H y (.list ds) ∧ SeqAt.shaped d = true ∧ SeqAt.shaped (.list ds) = true ∧ Q (.bl (if neg then !(ds.any fun z => PyData.eqv z d) else (ds.any fun z => PyData.eqv z d))) H) ∨
  ∃ a o, y = .ref a ∧ DGet H a x o ∧ Q (.bl (if neg then !o.isSome else o.isSome)) H
theorem or_dict_in {X : Cx} (hu : X.A.units + 1 < cLine) : OpR X (compareOp .In) (fun x y H Q => ∃ a o, y = .ref a ∧ DGet H a x o ∧ Q (.bl o.isSome) H) := by
  intro pins s σ H x y v u Q I rx ry ⟨a, o, e, hg, q⟩
  subst e
  obtain rfl : u = Value.ref a := ry
  exact d_in hu I hg rx fun s3 I3 => ⟨.bl o.isSome, H, I3, rfl, q⟩
theorem or_dict_notin {X : Cx} (hu : X.A.units + 1 < cLine) : OpR X (compareOp .NotIn) (fun x y H Q => ∃ a o, y = .ref a ∧ DGet H a x o ∧ Q (.bl (!o.isSome)) H) := by
  intro pins s σ H x y v u Q I rx ry ⟨a, o, e, hg, q⟩
  subst e
  obtain rfl : u = Value.ref a := ry
  exact d_notIn hu I hg rx fun s3 I3 => ⟨.bl (!o.isSome), H, I3, rfl, q⟩
theorem or_in {X : Cx} (hu : X.A.units + 65 < cLine) : OpR X (compareOp .In) (rInF X.K false) := OpR.or op_in_str (OpR.or op_in_seq (OpR.or (op_inD hu) (or_dict_in (by omega))))
theorem or_notin {X : Cx} (hu : X.A.units + 65 < cLine) : OpR X (compareOp .NotIn) (rInF X.K true) := OpR.or op_notin_str (OpR.or op_notIn_seq (OpR.or (op_notInD hu) (or_dict_notin (by omega))))
section
variable {K : Frag} {g : Gh} {H : Hp}
theorem flat_ok {d : D} {v : V} (r : RD K g H d v) (f : flatD d = true) : flatV v = true := by
  cases d with
  | non => cases r; rfl
  | bl b => cases r; rfl
  | int b => cases r; rfl
  | str b => cases r; rfl
  | _ => cases f
theorem flats_ok : ∀ {ds : List D} {vs : List V}, RDs K g H ds vs → ds.all flatD = true → vs.all flatV = true
  | [], _, r, _ => by cases r; rfl
  | d :: ds, vs, r, f => by
    obtain ⟨v, us, rfl, h1, h2⟩ := r
    simp only [List.all_cons, Bool.and_eq_true] at f ⊢
    exact ⟨flat_ok h1 f.1, flats_ok h2 f.2⟩
theorem eqFl_ok {d x : D} {v w : V} (r : RD K g H d v) (rx : RD K g H x w) (f : flatD d = true) (fx : flatD x = true) : eqV v w = eqFl d x := by
  cases d <;> first | (cases f; done) | skip
  all_goals (cases x <;> first | (cases fx; done) | (cases r; cases rx; rfl))
theorem anyFl_ok {x : D} {w : V} (rx : RD K g H x w) (fx : flatD x = true) : ∀ {ds : List D} {vs : List V}, RDs K g H ds vs → ds.all flatD = true → inV w vs = ds.any fun d => eqFl d x
  | [], _, r, _ => by cases r; rfl
  | d :: ds, vs, r, f => by
    obtain ⟨v, us, rfl, h1, h2⟩ := r
    simp only [List.all_cons, Bool.and_eq_true] at f
    show ((v :: us).any fun y => eqV y w) = _
    rw [List.any_cons, List.any_cons, eqFl_ok h1 rx f.1 fx]
    have := anyFl_ok rx fx h2 f.2
    unfold inV at this
    rw [this]
end
theorem op2_in {K : Frag} {neg : Bool} : Op2 K (rInF K neg) (inF neg) := by
  intro W g s H σ x y v w Q R rx ry h
  unfold inF at h
  cases e : memD x y s with
  | none => rw [e] at h; exact h.elim
  | some k =>
    rw [e] at h
    have q := post_ok (d := .bl (if neg then !k else k)) R rfl h
    have gen : (match seqOf y s with
      | some ds => if flatD x = true ∧ ds.all flatD = true then some (ds.any fun d => eqFl d x) else match pyT s x, pyT s y with
        | some p, some (.list qs) => if SeqAt.shaped p = true ∧ SeqAt.shaped (.list qs) = true then some (qs.any fun q => PyData.eqv q p) else none
        | _, _ => none
      | none => match dget y x s with
        | some o => some o.isSome
        | none => none) = some k → rInF K neg v w H Q := by
      intro e
      cases hs : seqOf y s with
      | some ds =>
        rw [hs] at e
        by_cases hf : flatD x = true ∧ ds.all flatD = true
        · simp only [if_pos hf] at e
          cases e
          have sq : (∃ p vs, w = .ref p ∧ SqL K H p vs ∧ RDs K g H ds vs) ∨ ∃ p vs, w = .ref p ∧ SqT K H p vs ∧ RDs K g H ds vs := by
            cases y with
            | tup xs =>
              cases hs
              obtain ⟨p, vs, e1, e2, e3⟩ := ry
              exact .inr ⟨p, vs, e1, .of e2, e3⟩
            | ct xs =>
              cases hs
              obtain ⟨p, vs, e1, e2, e3⟩ := ry
              exact .inr ⟨p, vs, e1, e2.tup, e3⟩
            | _ => exact .inl (lst_ok R ry hs)
          rcases sq with ⟨p, vs, rfl, e2, e3⟩ | ⟨p, vs, rfl, e2, e3⟩
          · exact .inr (.inl ⟨p, vs, rfl, .inl e2, flat_ok rx hf.1, flats_ok e3 hf.2, by rw [anyFl_ok rx hf.1 e3 hf.2]; exact q⟩)
          · exact .inr (.inl ⟨p, vs, rfl, .inr e2, flat_ok rx hf.1, flats_ok e3 hf.2, by rw [anyFl_ok rx hf.1 e3 hf.2]; exact q⟩)
        · simp only [if_neg hf] at e
          split at e
          · rename_i p qs hp hq
            by_cases c : SeqAt.shaped p = true ∧ SeqAt.shaped (.list qs) = true
            · rw [if_pos c] at e
              cases e
              exact .inr (.inr (.inl ⟨p, qs, dpT_of R rx hp (SeqAt.canLay_of_shaped c.1), dpT_of R ry hq (SeqAt.canLay_of_shaped c.2), c.1, c.2, q⟩))
            · rw [if_neg c] at e; cases e
          · cases e
      | none =>
        rw [hs] at e
        cases hd : dget y x s with
        | none => simp only [hd] at e; cases e
        | some o =>
          simp only [hd] at e
          cases e
          obtain ⟨p, ov, e1, e2, e3, e4⟩ := dget_ok R ry rx hd
          have eo : ov.isSome = o.isSome := by
            cases o with
            | none => rw [e3 rfl] <;> rfl
            | some d => obtain ⟨z, hz, _⟩ := e4 d rfl; rw [hz]; rfl
          exact .inr (.inr (.inr ⟨p, ov, e1, e2, by rw [eo]; exact q⟩))
    cases x with
    | str a =>
      cases y with
      | str b =>
        cases e
        cases rx; cases ry
        exact .inl ⟨a, b, rfl, rfl, q⟩
      | _ => exact gen e
    | _ => cases y <;> exact gen e
end Co
namespace Co
open PySem PySem.Spec PyProof.Rows L2
/-! ### names, constants -/
def varM (i : Nat) : ME D := fun env s => match env[i]? with
  | some (some d) => .ok d s
  | _ => .bad
def litM (d : D) : ME D := fun _ s => .ok d s
section
variable {X : Cx} {W : WX} {a b c e : Expr} {es : List Expr} {pos : Pos} {ma mb mc : ME D} {mes : ME (List D)}
theorem px_var {i : Nat} {x : Str} (hN : X.N[i]? = some x) (hv : Vis X.env.scope x) (hd : (x == ("__debug__" : Str)) = false) (hcd : (x == ("__classdict__" : Str)) = false) : PX X W (.Name x pos) (varM i) := by
  refine PE.imp (pe_var (i := i) hN hv hd hcd) fun σ H Q ⟨g, s, env, R, E, h⟩ => ?_
  unfold varM at h
  split at h
  · rename_i d hd'
    obtain ⟨v, h1, h2⟩ := E.2 i d hd'
    exact ⟨v, h1, post_ok R h2 h⟩
  · exact h.elim
/-- a value that stands by itself -/
theorem px_const {d : D} {v : V} (h : PE X e (tC v)) (r : ∀ g H, RD X.K g H d v) : PX X W e (litM d) := PE.imp h fun σ H Q ⟨g, s, env, R, E, p⟩ => post_ok R (r g H) p
theorem px_int {i : Int} {j : Nat} : PX X W (.Constant (.int i) j pos) (litM (.int i)) := px_const pe_int fun _ _ => rfl
theorem px_str {x : Str} {j : Nat} : PX X W (.Constant (.str x) j pos) (litM (.str x)) := px_const pe_str fun _ _ => rfl
theorem px_bl {b : Bool} {j : Nat} : PX X W (.Constant (.bool b) j pos) (litM (.bl b)) := px_const pe_bl fun _ _ => rfl
theorem px_non {j : Nat} : PX X W (.Constant .none j pos) (litM .non) := px_const pe_non fun _ _ => rfl
theorem px_glob {x : Str} {d : D} {v : V} {u : Value} (hg : Gl X x) (hm : X.mg x = some u) (r : RelV v u) (rd : ∀ g H, RD X.K g H d v) (hdb : (x == ("__debug__" : Str)) = false) : PX X W (.Name x pos) (litM d) := px_const (pe_glob hg hm r hdb) rd
def negF (x : D) (s : S) : R D := match x with
  | .int i => .ok (.int (-i)) s
  | _ => .bad
theorem px_neg (ha : PX X W a ma) : PX X W (.UnaryOp .USub a pos) (op1M negF ma) := by
  refine PE.imp (pe_un un_neg ha) fun σ H Q h => (TX.bind (rel := RD X.K) h).imp fun v H1 ⟨g1, x, s1, env, R1, E1, r1, p1⟩ => ?_
  cases x with
  | int i => cases r1; exact ⟨i, rfl, post_ok (d := .int (-i)) R1 rfl p1⟩
  | _ => exact p1.elim
/-! ### displays -/
def nilM : ME (List D) := fun _ s => .ok [] s
def consM (m : ME D) (ms : ME (List D)) : ME (List D) := fun env s => bd (m env s) fun d s1 => bd (ms env s1) fun ds s2 => .ok (d :: ds) s2
theorem pl_nil : PL X W [] nilM := PA.imp pa_nil fun σ H Q ⟨g, s, env, R, E, p⟩ => p g H [] (.refl _ _) R rfl
theorem star_of {e : Expr} (he : (match e with | .Starred _ _ => false | _ => true) = true) (env : PySem.Env) : starEach (e :: es) env = (false, eval e env) :: starEach es env := by
  cases e <;> first | rfl | cases he
theorem pl_cons (hs : starEach (e :: es) X.env = (false, eval e X.env) :: starEach es X.env) (ha : PX X W e ma) (hr : PL X W es mes) : PL X W (e :: es) (consM ma mes) := by
  refine PA.imp (pa_cons ha hr hs) fun σ H Q h => (TX.bind (rel := RD X.K) h).imp fun v H1 ⟨g1, x, s1, env, R1, E1, r1, p1⟩ => ?_
  refine TX.mk R1 E1 ((Post.bind (rel := RDs X.K) p1).imp fun vs H2 ⟨g2, ds, s2, st, R2, r2, _, p2⟩ => ?_)
  exact p2 g2 H2 (v :: vs) (.refl _ _) R2 (.cons (RD.mono st.toStp0 x v r1) r2)
def argM (f : List D → S → R D) (ms : ME (List D)) : ME D := fun env s => bd (ms env s) f
theorem px_tup {k : Nat} (h : PL X W es mes) : PX X W (.Tuple es k pos) (argM mkT mes) :=
  PE.imp (pe_tup h) fun σ H Q hq => (TX.bind (rel := RDs X.K) hq).imp fun vs H1 ⟨g1, ds, s1, env, R1, E1, r1, p1⟩ => post_mkT R1 r1 p1
theorem px_lst {m : Bool} (h : PL X W es mes) : PX X W (.List es pos) (argM (mkL m) mes) :=
  PE.imp (pe_lst h) fun σ H Q hq => (TX.bind (rel := RDs X.K) hq).imp fun vs H1 ⟨g1, ds, s1, env, R1, E1, r1, p1⟩ => post_mkL R1 r1 p1
/-- {} -/
def dnewF (m : Bool) : S → R D := fun s => if m then .ok (.ref s.next) (s.alloc (.dK [])) else .ok (.dv [] []) s
def dnewM (m : Bool) : ME D := fun _ s => dnewF m s
theorem px_dnew {m : Bool} : PX X W (.Dict [] [] pos) (dnewM m) := by
  refine PE.imp pe_dnewK fun σ H Q ⟨g, s, env, R, E, h⟩ p hp => ?_
  cases m with
  | false => exact h (g.frz p) _ _ (stp_frz R hp) (R.frz hp) ⟨p, [], rfl, .inr rfl, upd_same, rfl, rfl⟩
  | true => exact h (g.add s.next p) _ _ (stp_add R hp) (R.add hp ⟨[], upd_same, rfl, rfl⟩) ⟨p, rfl, if_pos rfl⟩
def dnewTM : ME D := fun _ s => .ok (.ref s.next) (s.alloc (.dT []))
theorem px_dnewT : PX X W (.Dict [] [] pos) dnewTM := by
  refine PE.imp pe_dnewT fun σ H Q ⟨g, s, env, R, E, h⟩ p hp => ?_
  exact h (g.add s.next p) _ _ (stp_add R hp) (R.add hp ⟨[], upd_same, rfl, rfl⟩) ⟨p, rfl, if_pos rfl⟩
/-! ### truth -/
def truD (x : D) (s : S) : Option Bool := match x with
  | .non => some false
  | .bl b => some b
  | .int i => some (i != 0)
  | .str y => if y.length ≤ LINE then some ((y.length : Int) != 0) else none
  | x => match seqOf x s with
    | some ds => some (!ds.isEmpty)
    | none => match x with
      | .ref a => match s.heap a with
        | some (.dK kvs) => some (!kvs.isEmpty)
        | _ => none
      | _ => none
theorem isEmpty_rel {K : Frag} {g : Gh} {H : Hp} {ds : List D} {vs : List V} (r : RDs K g H ds vs) : (!vs.isEmpty) = !ds.isEmpty := by
  cases ds with
  | nil => cases r; rfl
  | cons d ds => obtain ⟨v, us, rfl, _⟩ := r; rfl
theorem truD_ok {K : Frag} {g : Gh} {s : S} {H : Hp} {x : D} {v : V} {k : Bool} (R : Rel K g s H) (r : RD K g H x v) (e : truD x s = some k) : TruV K v H k := by
  have gen : (match seqOf x s with
    | some ds => some (!ds.isEmpty)
    | none => match x with
      | .ref a => match s.heap a with
        | some (.dK kvs) => some (!kvs.isEmpty)
        | _ => none
      | _ => none) = some k → TruV K v H k := by
    intro e
    cases hs : seqOf x s with
    | some ds =>
      rw [hs] at e
      cases e
      have sq : (∃ p vs, v = .ref p ∧ SqL K H p vs ∧ RDs K g H ds vs) ∨ ∃ p vs, v = .ref p ∧ SqT K H p vs ∧ RDs K g H ds vs := by
        cases x with
        | tup xs =>
          cases hs
          obtain ⟨p, vs, e1, e2, e3⟩ := r
          exact .inr ⟨p, vs, e1, .of e2, e3⟩
        | ct xs =>
          cases hs
          obtain ⟨p, vs, e1, e2, e3⟩ := r
          exact .inr ⟨p, vs, e1, e2.tup, e3⟩
        | _ => exact .inl (lst_ok R r hs)
      rcases sq with ⟨p, vs, rfl, e2, e3⟩ | ⟨p, vs, rfl, e2, e3⟩
      · exact .inl ⟨vs, e2, (isEmpty_rel e3).symm⟩
      · exact .inr (.inl ⟨vs, e2, (isEmpty_rel e3).symm⟩)
    | none =>
      rw [hs] at e
      cases x with
      | ref a =>
        have e' : (match s.heap a with | some (.dK kvs) => some (!kvs.isEmpty) | _ => none) = some k := e
        split at e'
        · rename_i kvs ha
          cases e'
          obtain ⟨p, rfl, e2⟩ := r
          obtain ⟨q, h1, _, ws, h3, h4, h5⟩ := R.obj a _ ha
          rw [e2] at h1; cases h1
          refine .inr (.inr ⟨ws, h3, ?_⟩)
          have := congrArg List.length h4
          cases ws <;> cases kvs <;> simp at this ⊢
        · cases e'
      | _ => cases e
  cases x with
  | non => cases r; cases e; rfl
  | bl b => cases r; cases e; rfl
  | int i => cases r; cases e; rfl
  | str y =>
    cases r
    have e' : (if y.length ≤ LINE then some ((y.length : Int) != 0) else none) = some k := e
    by_cases hl : y.length ≤ LINE
    · rw [if_pos hl] at e'
      cases e'
      exact ⟨hl, rfl⟩
    · rw [if_neg hl] at e'; cases e'
  | _ => exact gen e
def truM (m : ME D) : ME Bool := fun env s => bd (m env s) fun x s1 => match truD x s1 with
  | some k => .ok k s1
  | none => .bad
theorem truM_of {t : TE} {m : ME D} (ht : ∀ σ H Q, TE' X.K W m σ H Q → t σ H Q) (σ : L2.St) (H : Hp) (Q : Bool → Hp → Prop) (h : TT' X.K W (truM m) σ H Q) : t σ H fun x H' => ∃ k, TruV X.K x H' k ∧ Q k H' := by
  refine ht _ _ _ ((TX.bind (rel := RD X.K) h).imp fun v H1 ⟨g1, x, s1, env, R1, E1, r1, p1⟩ => ?_)
  cases e : truD x s1 with
  | none => rw [e] at p1; exact p1.elim
  | some k => rw [e] at p1; exact ⟨k, truD_ok R1 r1 e, p1 g1 H1 k (.refl _ _) R1 rfl⟩
theorem pb_truth (he : ∀ whole, isTrue a X.env whole = (do let v ← whole; standAt a.pos; holding [v] (truthy v))) (ha : PX X W a ma) : PB X W a (truM ma) :=
  PT.imp (pt_truth ha he) (truM_of fun _ _ _ h => h)
/-! ### not, and, or, if -/
section
variable {na nb : ME Bool}
def notM (m : ME Bool) : ME Bool := fun env s => bd (m env s) fun k s1 => .ok (!k) s1
theorem pb_not (ha : PB X W a na) : PB X W (.UnaryOp .Not a pos) (notM na) :=
  PT.imp (pt_not ha) fun σ H Q h => (TX.bind (rel := Eqr) h).imp fun v H1 ⟨g1, x, s1, env, R1, E1, r1, p1⟩ => by
    subst r1
    exact p1 g1 H1 _ (.refl _ _) R1 rfl
def andM (m n : ME Bool) : ME Bool := fun env s => bd (m env s) fun k s1 => if k then n env s1 else .ok false s1
def orM (m n : ME Bool) : ME Bool := fun env s => bd (m env s) fun k s1 => if k then .ok true s1 else n env s1
theorem tAnd_of (σ : L2.St) (H : Hp) (Q : Bool → Hp → Prop) (h : TT' X.K W (andM na nb) σ H Q) : tAnd (TT' X.K W na) (TT' X.K W nb) σ H Q := by
  refine (TX.bind (rel := Eqr) h).imp fun k H1 ⟨g1, x, s1, env, R1, E1, r1, p1⟩ => ?_
  subst r1
  cases x with
  | true => exact TX.mk R1 E1 p1
  | false => exact p1 g1 H1 _ (.refl _ _) R1 rfl
theorem tOr_of (σ : L2.St) (H : Hp) (Q : Bool → Hp → Prop) (h : TT' X.K W (orM na nb) σ H Q) : tOr (TT' X.K W na) (TT' X.K W nb) σ H Q := by
  refine (TX.bind (rel := Eqr) h).imp fun k H1 ⟨g1, x, s1, env, R1, E1, r1, p1⟩ => ?_
  subst r1
  cases x with
  | true => exact p1 g1 H1 _ (.refl _ _) R1 rfl
  | false => exact TX.mk R1 E1 p1
/-- .. as values -/
def notV (m : ME D) : ME D := fun env s => bd (m env s) fun x s1 => match truD x s1 with
  | some k => .ok (.bl (!k)) s1
  | none => .bad
theorem px_not (ha : PX X W a ma) : PX X W (.UnaryOp .Not a pos) (notV ma) := by
  refine PE.imp (pe_notT ha) fun σ H Q h => (TX.bind (rel := RD X.K) h).imp fun v H1 ⟨g1, x, s1, env, R1, E1, r1, p1⟩ => ?_
  cases e : truD x s1 with
  | none => rw [e] at p1; exact p1.elim
  | some k => rw [e] at p1; exact ⟨k, truD_ok R1 r1 e, post_ok (d := .bl (!k)) R1 rfl p1⟩
def andV (m n : ME D) : ME D := fun env s => bd (m env s) fun x s1 => match truD x s1 with
  | some true => n env s1
  | some false => .ok x s1
  | none => .bad
def orV (m n : ME D) : ME D := fun env s => bd (m env s) fun x s1 => match truD x s1 with
  | some true => .ok x s1
  | some false => n env s1
  | none => .bad
theorem px_and {rest : List Expr} (ha : PX X W a ma) (hb : PX X W (.BoolOp .And (b :: rest) pos) mb) : PX X W (.BoolOp .And (a :: b :: rest) pos) (andV ma mb) := by
  refine PE.imp (pe_andT ha hb) fun σ H Q h => (TX.bind (rel := RD X.K) h).imp fun v H1 ⟨g1, x, s1, env, R1, E1, r1, p1⟩ => ?_
  cases e : truD x s1 with
  | none => rw [e] at p1; exact p1.elim
  | some k =>
    rw [e] at p1
    refine ⟨k, truD_ok R1 r1 e, ?_⟩
    cases k with
    | true => rw [if_pos rfl]; exact TX.mk R1 E1 p1
    | false => rw [if_neg Bool.false_ne_true]; exact post_ok R1 r1 p1
theorem px_or {rest : List Expr} (ha : PX X W a ma) (hb : PX X W (.BoolOp .Or (b :: rest) pos) mb) : PX X W (.BoolOp .Or (a :: b :: rest) pos) (orV ma mb) := by
  refine PE.imp (pe_orT ha hb) fun σ H Q h => (TX.bind (rel := RD X.K) h).imp fun v H1 ⟨g1, x, s1, env, R1, E1, r1, p1⟩ => ?_
  cases e : truD x s1 with
  | none => rw [e] at p1; exact p1.elim
  | some k =>
    rw [e] at p1
    refine ⟨k, truD_ok R1 r1 e, ?_⟩
    cases k with
    | true => rw [if_pos rfl]; exact post_ok R1 r1 p1
    | false => rw [if_neg Bool.false_ne_true]; exact TX.mk R1 E1 p1
theorem px_one {op : BoolOp} (h : PX X W a ma) : PX X W (.BoolOp op [a] pos) ma := pe_one h
def ifM {α : Type} (c : ME Bool) (m n : ME α) : ME α := fun env s => bd (c env s) fun k s1 => if k then m env s1 else n env s1
theorem px_if {t : Expr} (hc : PB X W t na) (ha : PX X W a ma) (hb : PX X W b mb) : PX X W (.IfExp t a b pos) (ifM na ma mb) :=
  PE.imp (pe_ifExp hc ha hb) fun σ H Q h => (TX.bind (rel := Eqr) h).imp fun k H1 ⟨g1, x, s1, env, R1, E1, r1, p1⟩ => by
    subst r1
    cases x with
    | true => exact TX.mk R1 E1 p1
    | false => exact TX.mk R1 E1 p1
end
/-! ### slices -/
def cutD (ds : List D) (lo hi : Option Int) : List D := (ds.drop (HT.sIx ds.length 0 lo)).take (HT.sIx ds.length ds.length hi - HT.sIx ds.length 0 lo)
def slF (m : Bool) (x : D) (lo hi : Option Int) (s : S) : R D := match x with
  | .str z => if z.length ≤ LINE then .ok (.str (cutS z lo hi)) s else .bad
  | .tup ds => .ok (.tup (cutD ds lo hi)) s
  | x => match lstOf x s with
    | some ds => if ds.length ≤ LINE then mkL m (cutD ds lo hi) s else .bad
    | none => .bad
/-- a part of a slice: left out, or an int -/
def partM : Option (ME D) → ME (Option Int)
  | none => fun _ s => .ok none s
  | some m => fun env s => bd (m env s) fun x s1 => match x with
    | .int i => .ok (some i) s1
    | _ => .bad
abbrev PP (X : Cx) (W : WX) (e : Option Expr) (m : Option (ME D)) : Prop := PO X e (TX X.K W Eqr (partM m))
theorem PO.imp {X : Cx} {e : Option Expr} {t t' : TO} (h : PO X e t) (i : ∀ σ H Q, t' σ H Q → t σ H Q) : PO X e t' := ⟨fun pins s σ H Q I q => h.run pins s σ H Q I (i σ H Q q)⟩
theorem pp_none : PP X W none none := PO.imp po_none fun σ H Q ⟨g, s, env, R, E, p⟩ => p g H none (.refl _ _) R rfl
theorem pp_some (ha : PX X W a ma) : PP X W (some a) (some ma) := by
  refine PO.imp (po_some ha) fun σ H Q h => (TX.bind (rel := RD X.K) h).imp fun v H1 ⟨g1, x, s1, env, R1, E1, r1, p1⟩ => ?_
  cases x with
  | int i => cases r1; exact ⟨i, rfl, p1 g1 H1 _ (.refl _ _) R1 rfl⟩
  | _ => exact p1.elim
def slM (m : Bool) (ma : ME D) (ml mh : Option (ME D)) : ME D := fun env s => bd (ma env s) fun x s1 => bd (partM ml env s1) fun lo s2 => bd (partM mh env s2) fun hi s3 => slF m x lo hi s3
def rSlF (K : Frag) : V → Option Int → Option Int → Hp → VK → Prop := fun x lo hi H Q => rSlS x lo hi H Q ∨ rSlA K x lo hi H Q ∨ rSlL K x lo hi H Q
theorem cutD_rel {K : Frag} {g : Gh} {H : Hp} {ds : List D} {vs : List V} (lo hi : Option Int) (r : RDs K g H ds vs) : RDs K g H (cutD ds lo hi) (cutV vs lo hi) := by
  unfold cutD cutV
  rw [r.length]
  exact (r.drop _).take _
theorem cutD_length (xs : List D) (lo hi : Option Int) : (cutD xs lo hi).length ≤ xs.length := by
  unfold cutD
  rw [List.length_take, List.length_drop]
  omega
theorem cut_full {vs : List V} {lo hi : Option Int} (h : HT.sIx vs.length 0 lo = 0 ∧ HT.sIx vs.length vs.length hi = vs.length) : cutV vs lo hi = vs := by
  unfold cutV
  rw [h.1, h.2]
  simp
theorem slF_ok {K : Frag} {W : WX} {g : Gh} {s : S} {H : Hp} {σ : L2.St} {m : Bool} {x : D} {v : V} {lo hi : Option Int} {Q : VK} (R : Rel K g s H) (r : RD K g H x v) (h : Post K W g H σ (RD K) (slF m x lo hi s) Q) : rSlF K v lo hi H Q := by
  have gen : Post K W g H σ (RD K) (match lstOf x s with | some ds => if ds.length ≤ LINE then mkL m (cutD ds lo hi) s else .bad | none => .bad) Q → rSlF K v lo hi H Q := by
    intro h
    cases hs : lstOf x s with
    | none => rw [hs] at h; exact h.elim
    | some ds =>
      rw [hs] at h
      by_cases hl : ds.length ≤ LINE
      · simp only [if_pos hl] at h
        obtain ⟨p, vs, rfl, e2, e3⟩ := lst_ok R r hs
        exact .inr (.inr ⟨p, vs, rfl, e2, (post_mkL R (cutD_rel lo hi e3) h).2⟩)
      · simp only [if_neg hl] at h; exact h.elim
  cases x with
  | str z =>
    have h' : Post K W g H σ (RD K) (if z.length ≤ LINE then .ok (.str (cutS z lo hi)) s else .bad) Q := h
    by_cases hl : z.length ≤ LINE
    · rw [if_pos hl] at h'
      cases r
      exact .inl ⟨z, rfl, hl, post_ok (d := .str _) R rfl h'⟩
    · rw [if_neg hl] at h'; exact h'.elim
  | tup ds =>
    obtain ⟨p, vs, rfl, e2, e3⟩ := r
    have e4 := cutD_rel lo hi e3
    refine .inr (.inl ⟨p, vs, rfl, .of e2, fun hf => ?_, fun _ q hq => ?_⟩)
    · rw [cut_full hf] at e4
      exact post_ok (d := .tup (cutD ds lo hi)) R ⟨p, vs, rfl, e2, e4⟩ h
    · exact h g _ _ (stp_new R hq) (R.new hq) ⟨q, _, rfl, upd_same, RDs.mono (stp_new R hq).toStp0 _ _ e4⟩
  | _ => exact gen h
theorem px_sl {m : Bool} {lo hi : Option Expr} {ml mh : Option (ME D)} {p2 : Pos} (ha : PX X W a ma) (hl : PP X W lo ml) (hh : PP X W hi mh) : PX X W (.Subscript a (.Slice lo hi none p2) pos) (slM m ma ml mh) := by
  refine PE.imp (pe_slice (r := rSlF X.K) (SlR.or sl_str (SlR.or sl_tupA sl_list)) ha hl hh) fun σ H Q h => (TX.bind (rel := RD X.K) h).imp fun v H1 ⟨g1, x, s1, env, R1, E1, r1, p1⟩ => ?_
  refine TX.mk R1 E1 ((Post.bind (rel := Eqr) p1).imp fun l H2 ⟨g2, lo', s2, st2, R2, r2, _, p2⟩ => ?_)
  subst r2
  refine TX.mk R2 (E1.mono st2.toStp0) ((Post.bind (rel := Eqr) p2).imp fun u H3 ⟨g3, hi', s3, st3, R3, r3, _, p3⟩ => ?_)
  subst r3
  exact slF_ok R3 (RD.mono (st2.trans st3).toStp0 x v r1) p3
def revF (m : Bool) (x : D) (s : S) : R D := match lstOf x s with
  | some ds => if ds.length ≤ LINE then mkL m ds.reverse s else .bad
  | none => .bad
theorem px_rev {m : Bool} {k : Nat} {p1 p2 p3 : Pos} (ha : PX X W a ma) : PX X W (.Subscript a (.Slice none none (some (.UnaryOp .USub (.Constant (.int 1) k p1) p2)) p3) pos) (op1M (revF m) ma) := by
  refine PE.imp (pe_revL ha) fun σ H Q h => (TX.bind (rel := RD X.K) h).imp fun v H1 ⟨g1, x, s1, env, R1, E1, r1, p1⟩ => ?_
  unfold revF at p1
  cases hs : lstOf x s1 with
  | none => rw [hs] at p1; exact p1.elim
  | some ds =>
    rw [hs] at p1
    by_cases hl : ds.length ≤ LINE
    · simp only [if_pos hl] at p1
      obtain ⟨p, vs, rfl, e2, e3⟩ := lst_ok R1 r1 hs
      exact ⟨p, vs, rfl, e2, (post_mkL R1 e3.reverse p1).2⟩
    · simp only [if_neg hl] at p1; exact p1.elim
/-! ### fields -/
def fldF (c f : Str) (x : D) (s : S) : R D := match x with
  | .ref a => match s.heap a with
    | some (.ins c' fs) => if c' = c then (match fs.lookup f with
      | some d => .ok d s
      | none => .bad) else .bad
    | _ => .bad
  | _ => .bad
theorem lookup_rel {K : Frag} {g : Gh} {H : Hp} : ∀ {fs : List (Str × D)} {ws : List (Str × V)} {f : Str}, ws.map (·.1) = fs.map (·.1) → RDs K g H (fs.map (·.2)) (ws.map (·.2)) →
    (fs.lookup f = none → ws.lookup f = none) ∧ ∀ d, fs.lookup f = some d → ∃ v, ws.lookup f = some v ∧ RD K g H d v
  | [], [], f, _, _ => ⟨fun _ => rfl, fun d e => by cases e⟩
  | [], _ :: _, f, e, _ => by simp at e
  | _ :: _, [], f, e, _ => by simp at e
  | (a, d) :: fs, (b, v) :: ws, f, e, r => by
    simp only [List.map_cons, List.cons.injEq] at e
    obtain ⟨e1, e2⟩ := e
    subst e1
    obtain ⟨v', r', e3, h1, h2⟩ := r
    simp only [List.map_cons, List.cons.injEq] at e3
    obtain ⟨e4, e5⟩ := e3
    subst e4 e5
    obtain ⟨i1, i2⟩ := lookup_rel (f := f) e2 h2
    rw [List.lookup_cons, List.lookup_cons]
    cases h : f == b with
    | true =>
      refine ⟨fun z => ?_, fun d' z => ?_⟩
      · cases z
      · cases z
        exact ⟨v, rfl, h1⟩
    | false => exact ⟨i1, i2⟩
theorem px_fld {cn f : Str} (hb : attributeBase a f X.env (eval a X.env) = eval a X.env) (cl : Cls X.K (He.ga X.K cn)) (na : NoAttr X.K (He.ga X.K cn) f) (ha : PX X W a ma) : PX X W (.Attribute a f pos) (op1M (fldF cn f) ma) := by
  refine PE.imp (pe_fld ha hb) fun σ H Q h => (TX.bind (rel := RD X.K) h).imp fun v H1 ⟨g1, x, s1, env, R1, E1, r1, p1⟩ => ?_
  cases x with
  | ref a =>
    obtain ⟨p, rfl, e2⟩ := r1
    have p1' : Post X.K W g1 H1 σ (RD X.K) (match s1.heap a with
      | some (.ins c' fs) => if c' = cn then (match fs.lookup f with | some d => .ok d s1 | none => .bad) else .bad
      | _ => .bad) Q := p1
    split at p1'
    · rename_i c' fs hh
      by_cases hc : c' = cn
      · subst hc
        rw [if_pos rfl] at p1'
        obtain ⟨q, h1, _, dx, ws, h3, h4, h5⟩ := R1.obj a _ hh
        rw [e2] at h1; cases h1
        cases hf : fs.lookup f with
        | none => rw [hf] at p1'; exact p1'.elim
        | some d =>
          rw [hf] at p1'
          obtain ⟨u, h6, h7⟩ := (lookup_rel h4 h5).2 d hf
          exact ⟨p, _, dx, ws, u, rfl, h3, cl, na, h6, post_ok R1 h7 p1'⟩
      · rw [if_neg hc] at p1'; exact p1'.elim
    · exact p1'.elim
  | _ => exact p1.elim
end
end Co
namespace Co
open PySem PySem.Spec PyProof.Rows L2
/-- how a statement ends -/
inductive Fl where
  | nx | rt (d : D) | bk | ct | ex (c : Str) (fs : List (Str × D))
abbrev MS := Env → S → R (Fl × Env)
/-- an expression's result goes on; its exception leaves the statement -/
def bs {α : Type} (r : R α) (env : Env) (f : α → S → R (Fl × Env)) : R (Fl × Env) := match r with
  | .ok a s => f a s
  | .exc c fs s => .ok (.ex c fs, env) s
  | .bad => .bad
theorem bs_ok {α : Type} (a : α) (s : S) (env : Env) (f : α → S → R (Fl × Env)) : bs (.ok a s) env f = f a s := rfl
/-- what a statement's end brings -/
def EndOk (K : Frag) (W : WX) (D : Ends) (g : Gh) (H : Hp) (σ : L2.St) : Fl → Prop
  | .nx => D.nx σ H
  | .rt d => ∀ v, RD K g H d v → D.rt v H
  | .bk => D.bk σ H
  | .ct => D.ct σ H
  | .ex c fs => ∀ d, XF K g H fs d → W (.ref (He.ga K c)) d σ H
def PostS (K : Frag) (W : WX) (g : Gh) (H : Hp) (r : R (Fl × Env)) (D : Ends) : Prop := match r with
  | .ok (f, env) s' => ∀ g' H' σ', Stp g H g' H' → Rel K g' s' H' → RE K g' H' env σ' → EndOk K W D g' H' σ' f
  | _ => False
def TS' (K : Frag) (W : WX) (m : MS) : TS := fun D σ H => ∃ g s env, Rel K g s H ∧ RE K g H env σ ∧ PostS K W g H (m env s) D
abbrev PSX (X : Cx) (W : WX) (st : Stmt) (m : MS) : Prop := PS X st (TS' X.K W m)
abbrev PSB (X : Cx) (W : WX) (st : List Stmt) (m : MS) : Prop := PSs X st (TS' X.K W m)
section
variable {K : Frag} {W : WX} {g : Gh} {H : Hp} {D : Ends}
theorem PostS.later {g1 : Gh} {H1 : Hp} {r : R (Fl × Env)} (st : Stp g H g1 H1) (h : PostS K W g H r D) : PostS K W g1 H1 r D := by
  cases r with
  | ok a s' => exact fun g' H' b st' R q => h g' H' b (st.trans st') R q
  | exc c fs s' => exact h
  | bad => exact h
/-- a part is evaluated, then the rest -/
theorem TS'.bind {α β : Type} {σ : L2.St} {m : ME α} {f : Env → α → S → R (Fl × Env)} {rel : Gh → Hp → α → β → Prop} (h : TS' K W (fun env s => bs (m env s) env (f env)) D σ H) :
    TX K W rel m σ H (fun b H1 => ∃ g1 a s1 env, Rel K g1 s1 H1 ∧ RE K g1 H1 env σ ∧ rel g1 H1 a b ∧ PostS K W g1 H1 (f env a s1) D) := by
  obtain ⟨g, s, env, R, E, p⟩ := h
  have p : PostS K W g H (bs (m env s) env (f env)) D := p
  refine ⟨g, s, env, R, E, ?_⟩
  cases hm : m env s with
  | ok a s1 =>
    rw [hm] at p
    exact fun g' H' b st R' q => ⟨g', a, s1, env, R', E.mono st.toStp0, q, PostS.later st p⟩
  | exc c fs s1 =>
    rw [hm] at p
    exact fun g' H' d st R' q => p g' H' σ st R' (E.mono st.toStp0) d q
  | bad => rw [hm] at p; exact p
theorem PostS.bind {α β : Type} {σ : L2.St} {r : R α} {env : Env} {f : α → S → R (Fl × Env)} {rel : Gh → Hp → α → β → Prop} (E : RE K g H env σ) (p : PostS K W g H (bs r env f) D) :
    Post K W g H σ rel r (fun b H1 => ∃ g1 a s1, Stp g H g1 H1 ∧ Rel K g1 s1 H1 ∧ rel g1 H1 a b ∧ PostS K W g1 H1 (f a s1) D) := by
  cases r with
  | ok a s1 => exact fun g' H' b st R' q => ⟨g', a, s1, st, R', q, PostS.later st p⟩
  | exc c fs s1 => exact fun g' H' d st R' q => p g' H' σ st R' (E.mono st.toStp0) d q
  | bad => exact p
end
section
variable {X : Cx} {W : WX} {a b c e : Expr} {st : Stmt} {rest body : List Stmt} {pos : Pos} {ma mb mc : ME D} {m n : MS}
def nxM : MS := fun env s => .ok (.nx, env) s
theorem pss_nil' : PSB X W [] nxM := PSs.imp pss_nil fun σ H D ⟨g, s, env, R, E, p⟩ => p g H σ (.refl _ _) R E
def seqM (m n : MS) : MS := fun env s => match m env s with
  | .ok (.nx, env1) s1 => n env1 s1
  | r => r
theorem pss_cons' (h1 : PSX X W st m) (h2 : PSB X W rest n) : PSB X W (st :: rest) (seqM m n) := by
  refine PSs.imp (pss_cons h1 h2) fun σ H D ⟨g, s, env, R, E, p⟩ => ⟨g, s, env, R, E, ?_⟩
  unfold seqM at p
  cases hm : m env s with
  | ok fe s1 =>
    obtain ⟨f, env1⟩ := fe
    rw [hm] at p
    intro g' H' σ' st' R' E'
    cases f with
    | nx => exact ⟨g', s1, env1, R', E', PostS.later st' p⟩
    | rt d => exact p g' H' σ' st' R' E'
    | bk => exact p g' H' σ' st' R' E'
    | ct => exact p g' H' σ' st' R' E'
    | ex c fs => exact p g' H' σ' st' R' E'
  | exc c fs s1 => rw [hm] at p; exact p
  | bad => rw [hm] at p; exact p
theorem ps_pass' : PSX X W (.Pass pos) nxM := PS.imp ps_pass fun σ H D ⟨g, s, env, R, E, p⟩ => p g H σ (.refl _ _) R E
def flM (f : Fl) : MS := fun env s => .ok (f, env) s
theorem ps_break' : PSX X W (.Break pos) (flM .bk) := PS.imp ps_break fun σ H D ⟨g, s, env, R, E, p⟩ => p g H σ (.refl _ _) R E
theorem ps_continue' : PSX X W (.Continue pos) (flM .ct) := PS.imp ps_continue fun σ H D ⟨g, s, env, R, E, p⟩ => p g H σ (.refl _ _) R E
theorem ps_retN' : PSX X W (.Return none pos) (flM (.rt .non)) := PS.imp ps_retN fun σ H D ⟨g, s, env, R, E, p⟩ => p g H σ (.refl _ _) R E .non rfl
def exprM (m : ME D) : MS := fun env s => bs (m env s) env fun _ s1 => .ok (.nx, env) s1
theorem ps_expr' (hs : swapsWith a none pos.line X.env = pure false) (ha : PX X W a ma) : PSX X W (.Expr a pos) (exprM ma) :=
  PS.imp (ps_expr ha hs) fun σ H D h => (TS'.bind (rel := RD X.K) h).imp fun v H1 ⟨g1, d, s1, env, R1, E1, r1, p1⟩ => p1 g1 H1 σ (.refl _ _) R1 E1
theorem ps_doc' {x : Str} {j : Nat} {pos' : Pos} : PSX X W (.Expr (.Constant (.str x) j pos) pos') nxM := PS.imp ps_doc fun σ H D ⟨g, s, env, R, E, p⟩ => p g H σ (.refl _ _) R E
def retM (m : ME D) : MS := fun env s => bs (m env s) env fun d s1 => .ok (.rt d, env) s1
theorem ps_ret' (ha : PX X W a ma) : PSX X W (.Return (some a) pos) (retM ma) :=
  PS.imp (ps_ret ha) fun σ H D h => (TS'.bind (rel := RD X.K) h).imp fun v H1 ⟨g1, d, s1, env, R1, E1, r1, p1⟩ => p1 g1 H1 σ (.refl _ _) R1 E1 v r1
def ifS (c : ME Bool) (m n : MS) : MS := fun env s => bs (c env s) env fun k s1 => if k then m env s1 else n env s1
theorem ps_if' {t : Expr} {p q : List Stmt} {nc : ME Bool} (hc : PB X W t nc) (ha : PSB X W p m) (hb : PSB X W q n) : PSX X W (.If t p q pos) (ifS nc m n) :=
  PS.imp (ps_if hc ha hb) fun σ H D h => (TS'.bind (rel := Eqr) h).imp fun k H1 ⟨g1, x, s1, env, R1, E1, r1, p1⟩ => by
    subst r1
    cases x with
    | true => rw [if_pos rfl]; exact ⟨g1, s1, env, R1, E1, p1⟩
    | false => rw [if_neg Bool.false_ne_true]; exact ⟨g1, s1, env, R1, E1, p1⟩
/-! ### targets -/
inductive Tg where
  | name (i : Nat) | tup (is : List Nat)
def asgL : List Nat → List D → Env → Option Env
  | [], [], env => some env
  | i :: is, d :: ds, env => asgL is ds (env.set i (some d))
  | _, _, _ => none
def asg : Tg → D → S → Env → Option Env
  | .name i, d, _, env => some (env.set i (some d))
  | .tup is, d, s, env => match seqOf d s with
    | some ds => asgL is ds env
    | none => none
def slots : Tg → List Nat
  | .name i => [i]
  | .tup is => is
/-- a target's reading -/
def gtsOf : List Nat → TGs
  | [] => gNil
  | i :: is => gCons (gName i) (gtsOf is)
def gtOf (K : Frag) : Tg → TG
  | .name i => gName i
  | .tup is => fun v σ H Q => gTup K is.length (gtsOf is) v σ H Q ∨ gUnl K is.length (gtsOf is) v σ H Q
def PGX (X : Cx) (e : Expr) (t : Tg) : Prop := PG X e (gtOf X.K t)
def PGsX (X : Cx) (es : List Expr) (is : List Nat) : Prop := PGs X es (gtsOf is)
/-- only these slots differ -/
structure But (is : List Nat) (σ σ' : L2.St) : Prop where
  len : σ'.length = σ.length
  same : ∀ j, j ∉ is → σ'[j]? = σ[j]?
theorem But.set {σ : L2.St} {i : Nat} {v : Option V} : But [i] σ (σ.set i v) := ⟨List.length_set, fun j h => List.getElem?_set_ne (fun e => h (by rw [e]; exact List.mem_singleton.mpr rfl))⟩
theorem But.trans {is js : List Nat} {σ σ1 σ2 : L2.St} (a : But is σ σ1) (b : But js σ1 σ2) : But (is ++ js) σ σ2 :=
  ⟨b.len.trans a.len, fun j h => (b.same j fun z => h (List.mem_append_right _ z)).trans (a.same j fun z => h (List.mem_append_left _ z))⟩
theorem gts_ok {K : Frag} {g : Gh} {H : Hp} : ∀ (is : List Nat) (σ : L2.St) (env env' : Env) (ds : List D) (vs : List V) (Q : L2.St → Hp → Prop), RE K g H env σ → RDs K g H ds vs → asgL is ds env = some env' →
    (∀ σ', RE K g H env' σ' → But is σ σ' → Q σ' H) → gtsOf is vs σ H Q
  | [], σ, env, env', ds, vs, Q, E, r, e, q => by
    cases ds with
    | nil => cases r; cases e; exact ⟨rfl, q σ E ⟨rfl, fun _ _ => rfl⟩⟩
    | cons d ds => cases e
  | i :: is, σ, env, env', ds, vs, Q, E, r, e, q => by
    cases ds with
    | nil => cases e
    | cons d ds =>
      obtain ⟨v, us, rfl, r1, r2⟩ := r
      exact ⟨v, us, rfl, gts_ok is _ _ env' ds us Q (E.set i r1) r2 e fun σ' E' b => q σ' E' (But.trans (is := [i]) .set b)⟩
theorem asgL_len {env' : Env} : ∀ (is : List Nat) (ds : List D) (env : Env), asgL is ds env = some env' → ds.length = is.length
  | [], [], _, _ => rfl
  | [], _ :: _, _, e => by cases e
  | _ :: _, [], _, e => by cases e
  | i :: is, d :: ds, env, e => by
    have := asgL_len is ds _ e
    simp [this]
theorem tg_ok {K : Frag} {g : Gh} {s : S} {H : Hp} {t : Tg} {σ : L2.St} {env env' : Env} {d : D} {v : V} {Q : L2.St → Hp → Prop} (R : Rel K g s H) (E : RE K g H env σ) (r : RD K g H d v) (e : asg t d s env = some env')
    (q : ∀ σ', RE K g H env' σ' → But (slots t) σ σ' → Q σ' H) : gtOf K t v σ H Q := by
  cases t with
  | name i => cases e; exact q _ (E.set i r) .set
  | tup is =>
    have e' : (match seqOf d s with | some ds => asgL is ds env | none => none) = some env' := e
    split at e'
    · rename_i ds hs
      have ln := asgL_len is ds env e'
      have sq : (∃ p vs, v = .ref p ∧ SqL K H p vs ∧ RDs K g H ds vs) ∨ ∃ p vs, v = .ref p ∧ SqT K H p vs ∧ RDs K g H ds vs := by
        cases d with
        | tup xs =>
          cases hs
          obtain ⟨p, vs, e1, e2, e3⟩ := r
          exact .inr ⟨p, vs, e1, .of e2, e3⟩
        | ct xs =>
          cases hs
          obtain ⟨p, vs, e1, e2, e3⟩ := r
          exact .inr ⟨p, vs, e1, e2.tup, e3⟩
        | _ => exact .inl (lst_ok R r hs)
      rcases sq with ⟨p, vs, rfl, e2, e3⟩ | ⟨p, vs, rfl, e2, e3⟩
      · exact .inr ⟨p, vs, rfl, e2, by rw [← e3.length]; exact ln, gts_ok is σ env env' ds vs Q E e3 e' q⟩
      · exact .inl ⟨p, vs, rfl, e2, by rw [← e3.length]; exact ln, gts_ok is σ env env' ds vs Q E e3 e' q⟩
    · cases e'
theorem pgx_name {i : Nat} {x : Str} (hN : X.N.Nodup) (hi : X.N[i]? = some x) (hx : Loc X.env.scope x) (hf : X.fn x = true ∨ X.env.scope.names.lookup x = some .local) : PGX X (.Name x pos) (.name i) := pg_name hN hi hx hf
theorem pgsx_nil : PGsX X [] [] := pgs_nil
theorem pgsx_cons {i : Nat} {is : List Nat} {x : Str} {es : List Expr} (hN : X.N.Nodup) (hi : X.N[i]? = some x) (hx : Loc X.env.scope x) (hf : X.fn x = true ∨ X.env.scope.names.lookup x = some .local) (h : PGsX X es is) : PGsX X (.Name x pos :: es) (i :: is) := pgs_cons (pg_name hN hi hx hf) h
theorem PG.or {e : Expr} {t t' : TG} (h : PG X e t) (h' : PG X e t') : PG X e (fun v σ H Q => t v σ H Q ∨ t' v σ H Q) := ⟨fun pins s σ H v u Q I r q => q.elim (h.run pins s σ H v u Q I r) (h'.run pins s σ H v u Q I r)⟩
theorem pgx_tup {k : Nat} {es : List Expr} {is : List Nat} (hc : X.calm = true) (hst : (assignEach es X.env).findIdx? (·.1) = none) (hl : (assignEach es X.env).length = is.length) (h : PGsX X es is) : PGX X (.Tuple es k pos) (.tup is) :=
  PG.or (pg_tup hc h hl hst) (pg_unl hc h hl hst)
/-! ### stores -/
def setM (i : Nat) (m : ME D) : MS := fun env s => bs (m env s) env fun d s1 => .ok (.nx, env.set i (some d)) s1
theorem ps_set' {i : Nat} {x : Str} {pos' : Pos} (hN : X.N.Nodup) (hi : X.N[i]? = some x) (hx : Loc X.env.scope x) (hf : X.fn x = true ∨ X.env.scope.names.lookup x = some .local)
    (hs : swapsWith a (some (.Name x pos')) pos.line X.env = pure false) (ha : PX X W a ma) : PSX X W (.Assign [.Name x pos'] a pos) (setM i ma) :=
  PS.imp (ps_set hN hi hx ha hs hf) fun σ H D h => (TS'.bind (rel := RD X.K) h).imp fun v H1 ⟨g1, d, s1, env, R1, E1, r1, p1⟩ => p1 g1 H1 _ (.refl _ _) R1 (E1.set i r1)
def setT (t : Tg) (m : ME D) : MS := fun env s => bs (m env s) env fun d s1 => match asg t d s1 env with
  | some env' => .ok (.nx, env') s1
  | none => .bad
theorem ps_setT {tg : Expr} {t : Tg} (hg : PGX X tg t) (hs : swapsWithSole [tg] a pos.line X.env = pure false) (hw : swappedStores [tg] a X.env = pure none) (h1 : (assignEach [tg] X.env).map (·.2) = [assign tg X.env])
    (ha : PX X W a ma) : PSX X W (.Assign [tg] a pos) (setT t ma) := by
  refine PS.imp (ps_asg ha hg hs hw h1) fun σ H D h => (TS'.bind (rel := RD X.K) h).imp fun v H1 ⟨g1, d, s1, env, R1, E1, r1, p1⟩ => ?_
  cases e : asg t d s1 env with
  | none => simp only [e] at p1; exact p1.elim
  | some env' =>
    simp only [e] at p1
    exact tg_ok R1 E1 r1 e fun σ' E' _ => p1 g1 H1 σ' (.refl _ _) R1 E'
def intOf : D → Option Int
  | .int i => some i
  | _ => none
theorem intOf_ok {K : Frag} {g : Gh} {H : Hp} {d : D} {v : V} {i : Int} (r : RD K g H d v) (e : intOf d = some i) : v = .int i := by
  cases d with
  | int j => cases e; exact r
  | _ => cases e
/-- o[i] = v -/
def putF (o i v : D) (s : S) : Option S := match o with
  | .ref a => match s.heap a with
    | some (.lst ds) => match intOf i with
      | some k => match ixN ds.length k with
        | some j => some (s.upd a (.lst (ds.set j v)))
        | none => none
      | none => none
    | some (.dK kvs) => match keyOf i with
      | some k => if kvs.length < LINE then some (s.upd a (.dK (putD kvs k v))) else none
      | none => none
    | some (.dT kvs) => match keyT i with
      | some k => if kvs.length < LINE then some (s.upd a (.dT (putD kvs k v))) else none
      | none => none
    | _ => none
  | _ => none
def rPutD : TSet := fun o i v H Q => ∃ a H', o = .ref a ∧ DPut H a i v H' ∧ Q H'
theorem set_dict (hu : X.A.units + 1 < cLine) : PSet X rPutD := by
  intro pins s σ H o i v ov iv u Q I ro ri rv h
  obtain ⟨p, H', rfl, hp, q⟩ := h
  cases ro
  exact d_setItem hu I hp ri rv fun s' I' => ⟨H', I', q⟩
theorem PSet.or {t t' : TSet} (h : PSet X t) (h' : PSet X t') : PSet X (fun o i v H Q => t o i v H Q ∨ t' o i v H Q) := by
  intro pins s σ H o i v ov iv u Q I ro ri rv q
  rcases q with q | q
  · exact h pins s σ H o i v ov iv u Q I ro ri rv q
  · exact h' pins s σ H o i v ov iv u Q I ro ri rv q
def rPutF : TSet := fun o i v H Q => rSetL o i v H Q ∨ rPutD o i v H Q
theorem putK_rel {κ : Type} [DecidableEq κ] {K : Frag} {g : Gh} {H : Hp} {d : D} {v : V} (k : κ) (rv : RD K g H d v) {kvs : List (κ × D)} {ws : List (κ × V)} (e : ws.map (·.1) = kvs.map (·.1)) (r : RDs K g H (kvs.map (·.2)) (ws.map (·.2))) :
    (putK ws k v).map (·.1) = (putD kvs k d).map (·.1) ∧ RDs K g H ((putD kvs k d).map (·.2)) ((putK ws k v).map (·.2)) := by
  have ea : (ws.any fun kv => decide (kv.1 = k)) = kvs.any fun kv => decide (kv.1 = k) := by
    have h1 : (ws.any fun kv => decide (kv.1 = k)) = (ws.map (·.1)).any fun x => decide (x = k) := by rw [List.any_map]; rfl
    have h2 : (kvs.any fun kv => decide (kv.1 = k)) = (kvs.map (·.1)).any fun x => decide (x = k) := by rw [List.any_map]; rfl
    rw [h1, h2, e]
  unfold putK putD
  rw [ea]
  by_cases h : (kvs.any fun kv => decide (kv.1 = k)) = true
  · rw [if_pos h, if_pos h]
    clear h ea
    induction kvs generalizing ws with
    | nil => cases ws with
      | nil => exact ⟨rfl, rfl⟩
      | cons w ws => simp at e
    | cons p kvs ih =>
      cases ws with
      | nil => simp at e
      | cons w ws =>
        obtain ⟨pk, pd⟩ := p
        obtain ⟨wk, wv⟩ := w
        simp only [List.map_cons, List.cons.injEq] at e
        obtain ⟨e1, e2⟩ := e
        subst e1
        obtain ⟨v', r', e3, h1, h2⟩ := r
        simp only [List.map_cons, List.cons.injEq] at e3
        obtain ⟨e4, e5⟩ := e3
        subst e4 e5
        obtain ⟨i1, i2⟩ := ih e2 h2
        by_cases hk : wk = k
        · subst hk
          simp only [List.map_cons, if_pos]
          exact ⟨by rw [i1], .cons rv i2⟩
        · simp only [List.map_cons, if_neg hk]
          exact ⟨by rw [i1], .cons h1 i2⟩
  · rw [if_neg h, if_neg h]
    refine ⟨by rw [List.map_append, List.map_append, e]; rfl, ?_⟩
    rw [List.map_append, List.map_append]
    exact r.append (.cons rv .nil)
theorem len_of_map {α β γ : Type} {f : α → γ} {h : β → γ} {xs : List α} {ys : List β} (e : xs.map f = ys.map h) : xs.length = ys.length := by
  have := congrArg List.length e
  simpa using this
/-- the store's reading: o, i, v by values -/
theorem putF_ok {K : Frag} {g : Gh} {s s' : S} {H : Hp} {o i v : D} {ov iv vv : V} {Q : Hp → Prop} (R : Rel K g s H) (ro : RD K g H o ov) (ri : RD K g H i iv) (rv : RD K g H v vv) (e : putF o i v s = some s')
    (h : ∀ H', Stp g H g H' → Rel K g s' H' → Q H') : rPutF ov iv vv H Q := by
  cases o with
  | ref a =>
    obtain ⟨p, rfl, hm⟩ := ro
    have e' : (match s.heap a with
      | some (.lst ds) => match intOf i with
        | some k => match ixN ds.length k with
          | some j => some (s.upd a (.lst (ds.set j v)))
          | none => none
        | none => none
      | some (.dK kvs) => match keyOf i with
        | some k => if kvs.length < LINE then some (s.upd a (.dK (putD kvs k v))) else none
        | none => none
      | some (.dT kvs) => match keyT i with
        | some k => if kvs.length < LINE then some (s.upd a (.dT (putD kvs k v))) else none
        | none => none
      | _ => none) = some s' := e
    split at e'
    · rename_i ds ha
      split at e'
      · rename_i k hk
        split at e'
        · rename_i j hj
          cases e'
          have ek := intOf_ok ri hk
          subst ek
          obtain ⟨q, h1, _, vs, h3, h4⟩ := R.obj a _ ha
          rw [hm] at h1; cases h1
          have F := R.freeAt ha rfl hm
          have st := stp_free (o := .lst (vs.set j vv)) F.1 F.2
          exact .inl ⟨p, vs, k, j, rfl, rfl, h3, by rw [← h4.length]; exact hj, h _ st (R.upd ha rfl hm ⟨_, upd_same, RDs.mono st.toStp0 _ _ (RDs.set rv j h4)⟩)⟩
        · cases e'
      · cases e'
    · rename_i kvs ha
      split at e'
      · rename_i k hk
        split at e'
        · rename_i hl
          cases e'
          obtain ⟨q, h1, _, ws, h3, h4, h5⟩ := R.obj a _ ha
          rw [hm] at h1; cases h1
          have F := R.freeAt ha rfl hm
          have st := stp_free (o := .dK (putK ws k vv)) F.1 F.2
          obtain ⟨p1, p2⟩ := putK_rel k rv h4 h5
          refine .inr ⟨p, _, rfl, .inl ⟨ws, k, h3, keyOf_ok ri hk, by rw [len_of_map h4]; exact hl, rfl⟩, h _ st (R.upd ha rfl hm ⟨_, upd_same, p1, RDs.mono st.toStp0 _ _ p2⟩)⟩
        · cases e'
      · cases e'
    · rename_i kvs ha
      split at e'
      · rename_i k hk
        split at e'
        · rename_i hl
          cases e'
          obtain ⟨q, h1, _, ws, h3, h4, h5⟩ := R.obj a _ ha
          rw [hm] at h1; cases h1
          have F := R.freeAt ha rfl hm
          have st := stp_free (o := .dT (putK ws k vv)) F.1 F.2
          obtain ⟨p1, p2⟩ := putK_rel k rv h4 h5
          cases i with
          | tup ds =>
            obtain ⟨b, us, rfl, f1, f2⟩ := ri
            have f3 : us = k.map kV := keysOf_ok f2 hk
            subst f3
            exact .inr ⟨p, _, rfl, .inr ⟨ws, k, b, h3, rfl, f1, by rw [len_of_map h4]; exact hl, rfl⟩, h _ st (R.upd ha rfl hm ⟨_, upd_same, p1, RDs.mono st.toStp0 _ _ p2⟩)⟩
          | _ => cases hk
        · cases e'
      · cases e'
    · cases e'
  | _ => cases e
def setI (mo mi mv : ME D) : MS := fun env s => bs (mv env s) env fun v s1 => bs (mo env s1) env fun o s2 => bs (mi env s2) env fun i s3 => match putF o i v s3 with
  | some s4 => .ok (.nx, env) s4
  | none => .bad
theorem swaps_sub {e : Expr} {o i : Expr} {p : Pos} {l : Nat} {env : PySem.Env} : swapsWith e (some (.Subscript o i p)) l env = pure false := by
  cases e <;> rfl
theorem ps_setI {p' : Pos} (hu : X.A.units + 1 < cLine) (hasg : ∀ v, assign (.Subscript a b p') X.env v = (do
      let ov ← holding [v] (eval a X.env)
      let iv ← holding [v, ov] (eval b X.env)
      standAt p'
      holding [v, ov, iv] (setItem ov iv v)
      release [v, ov, iv] [])) (hw : swappedStores [.Subscript a b p'] c X.env = pure none) (ha : PX X W a ma) (hb : PX X W b mb) (hc : PX X W c mc) : PSX X W (.Assign [.Subscript a b p'] c pos) (setI ma mb mc) := by
  have hsw : swapsWithSole [.Subscript a b p'] c pos.line X.env = pure false := swaps_sub (e := c) (o := a) (i := b) (p := p') (l := pos.line) (env := X.env)
  refine PS.imp (ps_asg hc (pg_sub ha hb (PSet.or set_list (set_dict hu)) hasg) hsw hw rfl) fun σ H D h => (TS'.bind (rel := RD X.K) h).imp fun vv H1 ⟨g1, v, s1, env, R1, E1, r1, p1⟩ => ?_
  refine TX.mk R1 E1 ((PostS.bind (rel := RD X.K) E1 p1).imp fun ov H2 ⟨g2, o, s2, st2, R2, r2, p2⟩ => ?_)
  refine TX.mk R2 (E1.mono st2.toStp0) ((PostS.bind (rel := RD X.K) (E1.mono st2.toStp0) p2).imp fun iv H3 ⟨g3, i, s3, st3, R3, r3, p3⟩ => ?_)
  cases e : putF o i v s3 with
  | none => simp only [e] at p3; exact p3.elim
  | some s4 =>
    simp only [e] at p3
    exact putF_ok R3 (RD.mono st3.toStp0 _ _ r2) r3 (RD.mono (st2.trans st3).toStp0 _ _ r1) e fun H' st R' => p3 g3 H' σ st R' (E1.mono ((st2.trans st3).trans st).toStp0)
/-- o.f = v -/
def setFF (c f : Str) (o v : D) (s : S) : Option S := match o with
  | .ref a => match s.heap a with
    | some (.ins c' fs) => if c' = c ∧ fs.length < 1000 then some (s.upd a (.ins c' (putFD f v fs))) else none
    | _ => none
  | _ => none
theorem putF_rel {K : Frag} {g : Gh} {H : Hp} {d : D} {v : V} {f : Str} (rv : RD K g H d v) : ∀ {fs : List (Str × D)} {ws : List (Str × V)}, ws.map (·.1) = fs.map (·.1) → RDs K g H (fs.map (·.2)) (ws.map (·.2)) →
    (L2.putF f v ws).map (·.1) = (putFD f d fs).map (·.1) ∧ RDs K g H ((putFD f d fs).map (·.2)) ((L2.putF f v ws).map (·.2))
  | [], [], _, _ => ⟨rfl, .cons rv .nil⟩
  | [], _ :: _, e, _ => by simp at e
  | _ :: _, [], e, _ => by simp at e
  | (a, x) :: fs, (b, y) :: ws, e, r => by
    simp only [List.map_cons, List.cons.injEq] at e
    obtain ⟨e1, e2⟩ := e
    subst e1
    obtain ⟨v', r', e3, h1, h2⟩ := r
    simp only [List.map_cons, List.cons.injEq] at e3
    obtain ⟨e4, e5⟩ := e3
    subst e4 e5
    obtain ⟨i1, i2⟩ := putF_rel (f := f) rv e2 h2
    unfold L2.putF putFD
    by_cases h : b = f
    · rw [if_pos h, if_pos h]
      exact ⟨by simp [e2], .cons rv h2⟩
    · rw [if_neg h, if_neg h]
      exact ⟨by simp [i1], .cons h1 i2⟩
def setF (c f : Str) (mo mv : ME D) : MS := fun env s => bs (mv env s) env fun v s1 => bs (mo env s1) env fun o s2 => match setFF c f o v s2 with
  | some s3 => .ok (.nx, env) s3
  | none => .bad
theorem swaps_attr {e : Expr} {o : Expr} {f : Str} {p : Pos} {l : Nat} {env : PySem.Env} : swapsWith e (some (.Attribute o f p)) l env = pure false := by
  cases e <;> rfl
theorem setFF_ok {K : Frag} {g : Gh} {s s' : S} {H : Hp} {cn f : Str} {o v : D} {ov vv : V} (R : Rel K g s H) (ro : RD K g H o ov) (rv : RD K g H v vv) (e : setFF cn f o v s = some s') :
    ∃ a dx ws, ov = .ref a ∧ H a = some (.ins (He.ga K cn) dx ws) ∧ ws.length < 1000 ∧ Stp g H g (upd H a (.ins (He.ga K cn) dx (L2.putF f vv ws))) ∧ Rel K g s' (upd H a (.ins (He.ga K cn) dx (L2.putF f vv ws))) := by
  cases o with
  | ref a =>
    obtain ⟨p, rfl, hm⟩ := ro
    have e' : (match s.heap a with
      | some (.ins c' fs) => if c' = cn ∧ fs.length < 1000 then some (s.upd a (.ins c' (putFD f v fs))) else none
      | _ => none) = some s' := e
    split at e'
    · rename_i c' fs ha
      by_cases hc : c' = cn ∧ fs.length < 1000
      · rw [if_pos hc] at e'
        cases e'
        obtain ⟨rfl, hl⟩ := hc
        obtain ⟨q, h1, _, dx, ws, h3, h4, h5⟩ := R.obj a _ ha
        rw [hm] at h1; cases h1
        have F := R.freeAt ha rfl hm
        have st := stp_free (o := .ins (He.ga K c') dx (L2.putF f vv ws)) F.1 F.2
        obtain ⟨p1, p2⟩ := putF_rel (f := f) rv h4 h5
        exact ⟨p, dx, ws, rfl, h3, by rw [len_of_map h4]; exact hl, st, R.upd ha rfl hm ⟨dx, _, upd_same, p1, RDs.mono st.toStp0 _ _ p2⟩⟩
      · rw [if_neg hc] at e'; cases e'
    · cases e'
  | _ => cases e
theorem ps_setF {cn f : Str} {p' : Pos} (cl : Cls X.K (He.ga X.K cn)) (na : NoAttr X.K (He.ga X.K cn) f) (ha : PX X W a ma) (hc : PX X W c mc) : PSX X W (.Assign [.Attribute a f p'] c pos) (setF cn f ma mc) := by
  refine PS.imp (ps_fld ha hc swaps_attr) fun σ H D h => (TS'.bind (rel := RD X.K) h).imp fun vv H1 ⟨g1, v, s1, env, R1, E1, r1, p1⟩ => ?_
  refine TX.mk R1 E1 ((PostS.bind (rel := RD X.K) E1 p1).imp fun ov H2 ⟨g2, o, s2, st2, R2, r2, p2⟩ => ?_)
  cases e : setFF cn f o v s2 with
  | none => simp only [e] at p2; exact p2.elim
  | some s3 =>
    simp only [e] at p2
    obtain ⟨q, dx, ws, rfl, h3, h4, st, R3⟩ := setFF_ok R2 r2 (RD.mono st2.toStp0 _ _ r1) e
    exact ⟨q, _, dx, ws, rfl, h3, cl, na, h4, p2 g2 _ σ st R3 (E1.mono (st2.trans st).toStp0)⟩
/-- x += e (ints) -/
def augM (i : Nat) (f : D → D → S → R D) (m : ME D) : MS := fun env s => match env[i]? with
  | some (some x) => bs (m env s) env fun y s1 => bs (f x y s1) env fun z s2 => .ok (.nx, env.set i (some z)) s2
  | _ => .bad
def OpIp (X : Cx) (op : Operator) (r : R2) : Prop := PIp X op r
theorem ps_aug' {i : Nat} {x : Str} {op : Operator} {r : R2} {f : D → D → S → R D} {p' : Pos} (hN : X.N.Nodup) (hi : X.N[i]? = some x) (hx : Loc X.env.scope x) (hf : X.fn x = true ∨ X.env.scope.names.lookup x = some .local)
    (ho : PIp X op r) (h2 : Op2 X.K r f) (ha : PX X W a ma) : PSX X W (.AugAssign (.Name x p') op a pos) (augM i f ma) := by
  refine PS.imp (ps_aug hN hi hx ha ho hf) fun σ H D ⟨g, s, env, R, E, p⟩ => ?_
  unfold augM at p
  split at p
  · rename_i d hd
    obtain ⟨v, h1, rv⟩ := E.2 i d hd
    refine ⟨v, h1, TX.mk R E ((PostS.bind (rel := RD X.K) E p).imp fun w H1 ⟨g1, y, s1, st1, R1, r1, p1⟩ => ?_)⟩
    exact h2 W g1 s1 H1 σ d y v w _ R1 (RD.mono st1.toStp0 _ _ rv) r1 ((PostS.bind (rel := RD X.K) (E.mono st1.toStp0) p1).imp fun u H2 ⟨g2, z, s2, st2, R2, r2, p2⟩ => p2 g2 H2 _ (.refl _ _) R2 ((E.mono (st1.trans st2).toStp0).set i r2))
  · exact p.elim
end
end Co
namespace Co
open PySem PySem.Spec PyProof.Rows L2
/-! ### while -/
/-- n turns at most: none where they do not do -/
def whileN (c : ME Bool) (b : MS) : Nat → Env → S → Option (R (Fl × Env))
  | 0, _, _ => none
  | n + 1, env, s => match c env s with
    | .ok true s1 => match b env s1 with
      | .ok (.nx, env2) s2 => whileN c b n env2 s2
      | .ok (.ct, env2) s2 => whileN c b n env2 s2
      | .ok (.bk, env2) s2 => some (.ok (.nx, env2) s2)
      | r => some r
    | .ok false s1 => some (.ok (.nx, env) s1)
    | .exc c fs s1 => some (.ok (.ex c fs, env) s1)
    | .bad => some .bad
open Classical in
noncomputable def whileM (c : ME Bool) (b : MS) : MS := fun env s => if h : ∃ n r, whileN c b n env s = some r then choose (choose_spec h) else .bad
/-- what stands behind a turn: an end, or the next turn -/
def turnW (c : ME Bool) (b : MS) (env : Env) (s : S) : R (Fl × Env) ⊕ (Env × S) := match c env s with
    | .ok true s1 => match b env s1 with
      | .ok (.nx, env2) s2 => .inr (env2, s2)
      | .ok (.ct, env2) s2 => .inr (env2, s2)
      | .ok (.bk, env2) s2 => .inl (.ok (.nx, env2) s2)
      | r => .inl r
    | .ok false s1 => .inl (.ok (.nx, env) s1)
    | .exc c fs s1 => .inl (.ok (.ex c fs, env) s1)
    | .bad => .inl .bad
theorem whileN_turn {c : ME Bool} {b : MS} {n : Nat} {env : Env} {s : S} : whileN c b (n + 1) env s = (match turnW c b env s with
    | .inl r => some r
    | .inr (env2, s2) => whileN c b n env2 s2) := by
  conv => lhs; unfold whileN
  unfold turnW
  cases hc : c env s with
  | ok k s1 =>
    cases k with
    | false => rfl
    | true =>
      dsimp only
      cases hb : b env s1 with
      | ok fe s2 =>
        obtain ⟨f, env2⟩ := fe
        cases f <;> rfl
      | exc c fs s2 => rfl
      | bad => rfl
  | exc c fs s1 => rfl
  | bad => rfl
theorem whileN_mono {c : ME Bool} {b : MS} : ∀ {n : Nat} {env : Env} {s : S} {r : R (Fl × Env)}, whileN c b n env s = some r → ∀ m, n ≤ m → whileN c b m env s = some r
  | 0, _, _, _, e, _, _ => by cases e
  | n + 1, env, s, r, e, 0, h => by omega
  | n + 1, env, s, r, e, m + 1, h => by
    rw [whileN_turn] at e ⊢
    cases ht : turnW c b env s with
    | inl r' => rw [ht] at e; exact e
    | inr p => rw [ht] at e; exact whileN_mono e m (by omega)
theorem whileM_eq {c : ME Bool} {b : MS} {n : Nat} {env : Env} {s : S} {r : R (Fl × Env)} (e : whileN c b n env s = some r) : whileM c b env s = r := by
  unfold whileM
  have h : ∃ n r, whileN c b n env s = some r := ⟨n, r, e⟩
  rw [dif_pos h]
  have h2 := Classical.choose_spec (Classical.choose_spec h)
  have h3 := whileN_mono h2 (max (Classical.choose h) n) (Nat.le_max_left _ _)
  have h4 := whileN_mono e (max (Classical.choose h) n) (Nat.le_max_right _ _)
  rw [h3] at h4
  exact Option.some.inj h4
theorem whileM_is {c : ME Bool} {b : MS} {env : Env} {s : S} (h : whileM c b env s ≠ .bad) : ∃ n, whileN c b n env s = some (whileM c b env s) := by
  unfold whileM at h ⊢
  by_cases hh : ∃ n r, whileN c b n env s = some r
  · rw [dif_pos hh] at h ⊢
    exact ⟨_, Classical.choose_spec (Classical.choose_spec hh)⟩
  · rw [dif_neg hh] at h
    exact absurd rfl h
/-- one turn -/
theorem whileM_step {c : ME Bool} {b : MS} {env : Env} {s : S} : whileM c b env s = (match c env s with
    | .ok true s1 => match b env s1 with
      | .ok (.nx, env2) s2 => whileM c b env2 s2
      | .ok (.ct, env2) s2 => whileM c b env2 s2
      | .ok (.bk, env2) s2 => .ok (.nx, env2) s2
      | r => r
    | .ok false s1 => .ok (.nx, env) s1
    | .exc c fs s1 => .ok (.ex c fs, env) s1
    | .bad => .bad) := by
  have key : whileM c b env s = (match turnW c b env s with
      | .inl r => r
      | .inr (env2, s2) => whileM c b env2 s2) := by
    cases ht : turnW c b env s with
    | inl r => exact whileM_eq (n := 1) (by rw [whileN_turn, ht])
    | inr p =>
      obtain ⟨env2, s2⟩ := p
      have un : ∀ n, whileN c b (n + 1) env s = whileN c b n env2 s2 := fun n => by rw [whileN_turn, ht]
      show whileM c b env s = whileM c b env2 s2
      by_cases hw : whileM c b env2 s2 = .bad
      · by_cases hw' : whileM c b env s = .bad
        · rw [hw, hw']
        · obtain ⟨n, e⟩ := whileM_is hw'
          cases n with
          | zero => cases e
          | succ n =>
            rw [un] at e
            exact (whileM_eq e).symm
      · obtain ⟨n, e⟩ := whileM_is hw
        exact whileM_eq (n := n + 1) (by rw [un]; exact e)
  rw [key]
  unfold turnW
  cases hc : c env s with
  | ok k s1 =>
    cases k with
    | false => rfl
    | true =>
      dsimp only
      cases hb : b env s1 with
      | ok fe s2 =>
        obtain ⟨f, env2⟩ := fe
        cases f <;> rfl
      | exc c fs s2 => rfl
      | bad => rfl
  | exc c fs s1 => rfl
  | bad => rfl
section
variable {X : Cx} {W : WX} {c : Expr} {body : List Stmt} {pos : Pos} {nc : ME Bool} {b : MS}
theorem ps_while' (hp : PassesOwn (model X.prog X.w) X.A X.env X.xe) (hc : PB X W c nc) (hb : PSB X W body b) : PSX X W (.While c body [] pos) (whileM nc b) := by
  refine PS.imp (ps_while hp hc hb) fun σ H D ⟨g, s, env, R, E, p⟩ => ?_
  have hne : whileM nc b env s ≠ .bad := fun e => by rw [e] at p; exact p
  obtain ⟨n, hn⟩ := whileM_is hne
  refine ⟨fun m σ H => ∃ g s env r, Rel X.K g s H ∧ RE X.K g H env σ ∧ whileN nc b m env s = some r ∧ PostS X.K W g H r D, ⟨n, g, s, env, _, R, E, hn, p⟩, fun m σ H h => ?_⟩
  obtain ⟨g, s, env, r, R, E, e, p⟩ := h
  cases m with
  | zero => cases e
  | succ m =>
    unfold whileN at e
    refine TX.mk (rel := Eqr) R E ?_
    cases hcs : nc env s with
    | ok k s1 =>
      intro g1 H1 k' st1 R1 ek
      subst ek
      cases k with
      | false =>
        simp only [hcs] at e
        cases e
        rw [if_neg Bool.false_ne_true]
        exact p g1 H1 σ st1 R1 (E.mono st1.toStp0)
      | true =>
        simp only [hcs] at e
        rw [if_pos rfl]
        refine ⟨fun σ' H' => ∃ m', m' < m + 1 ∧ ∃ g s env r, Rel X.K g s H' ∧ RE X.K g H' env σ' ∧ whileN nc b m' env s = some r ∧ PostS X.K W g H' r D, fun σ' H' h => h, g1, s1, env, R1, E.mono st1.toStp0, ?_⟩
        cases hbs : b env s1 with
        | ok fe s2 =>
          obtain ⟨f, env2⟩ := fe
          simp only [hbs] at e
          intro g2 H2 σ2 st2 R2 E2
          have st := st1.trans st2
          cases f with
          | nx => exact ⟨m, Nat.lt_succ_self _, g2, s2, env2, r, R2, E2, e, PostS.later st p⟩
          | ct => exact ⟨m, Nat.lt_succ_self _, g2, s2, env2, r, R2, E2, e, PostS.later st p⟩
          | bk => cases e; exact p g2 H2 σ2 st R2 E2
          | rt d => cases e; exact p g2 H2 σ2 st R2 E2
          | ex c' fs => cases e; exact p g2 H2 σ2 st R2 E2
        | exc c' fs s2 => simp only [hbs] at e; cases e; exact p
        | bad => simp only [hbs] at e; cases e; exact p
    | exc c' fs s1 =>
      simp only [hcs] at e
      cases e
      exact fun g1 H1 d st1 R1 x => p g1 H1 σ st1 R1 (E.mono st1.toStp0) d x
    | bad => simp only [hcs] at e; cases e; exact p
end
/-! ### what is walked -/
/-- the items, and an object that is to stay as it is -/
abbrev Itm := List D × Option (Nat × Ob)
def GdOk (gd : Option (Nat × Ob)) (s : S) : Prop := match gd with
  | none => True
  | some (a, o) => s.heap a = some o
/-- an iterator of HandS walks just these items, as long as the guard stands -/
def ItOk (K : Frag) (g : Gh) (H : Hp) (J : It) (im : Itm) : Prop := ∀ (g1 : Gh) (H1 : Hp) (s1 : S), Stp g H g1 H1 → Rel K g1 s1 H1 → GdOk im.2 s1 →
  J.stop im.1.length H1 ∧ ∀ (i : Nat) (d : D), im.1[i]? = some d → J.go i H1 ∧ ∀ x H2, J.yld i H1 x H2 → ∃ g2, Stp g1 H1 g2 H2 ∧ Rel K g2 s1 H2 ∧ RD K g2 H2 d x
def TI' (K : Frag) (W : WX) (m : ME Itm) : TI := fun σ H R' => TX K W (fun g H im J => ItOk K g H J im) m σ H R'
abbrev PIX (X : Cx) (W : WX) (tg iter : Expr) (m : ME Itm) : Prop := PI X tg iter (TI' X.K W m)
theorem PI.imp {X : Cx} {tg e : Expr} {t t' : TI} (h : PI X tg e t) (i : ∀ σ H Q, t' σ H Q → t σ H Q) : PI X tg e t' := ⟨fun pins s σ H Q I q => h.run pins s σ H Q I (i σ H Q q)⟩
section
variable {X : Cx} {W : WX} {tg a b : Expr} {pos p : Pos} {ma mb : ME D}
/-- lo, lo + 1, .. -/
def rngD (lo : Int) (n : Nat) : List D := (List.range n).map fun (k : Nat) => D.int (lo + (k : Int))
theorem itOk_rng {K : Frag} {g : Gh} {H : Hp} {lo : Int} {n : Nat} : ItOk K g H (Itr lo n) (rngD lo n, none) := by
  intro g1 H1 s1 st R _
  have hl : (rngD lo n).length = n := by simp [rngD]
  refine ⟨by show n ≤ (rngD lo n).length; omega, fun i d e => ?_⟩
  have hi : i < n := by
    have := (List.getElem?_eq_some_iff.mp e).1
    simpa [rngD] using this
  have ed : d = .int (lo + i) := by
    simp only [rngD, List.getElem?_map, List.getElem?_range hi] at e
    cases e; rfl
  subst ed
  refine ⟨hi, fun x H2 y => ?_⟩
  obtain ⟨rfl, rfl⟩ := y
  exact ⟨g1, .refl _ _, R, rfl⟩
/-- bounds that are small (never reckoned) -/
def Rg1 (j : Int) : Prop := -(2 ^ 62) ≤ j ∧ j < 2 ^ 62
def Rg2 (i j : Int) : Prop := -(2 ^ 62) ≤ i ∧ i < 2 ^ 62 ∧ -(2 ^ 62) ≤ j ∧ j < 2 ^ 62
noncomputable instance (j : Int) : Decidable (Rg1 j) := Classical.propDecidable _
noncomputable instance (i j : Int) : Decidable (Rg2 i j) := Classical.propDecidable _
noncomputable def rngF1 (x : D) (s : S) : R Itm := match x with
  | .int j => if Rg1 j then .ok (rngD 0 j.toNat, none) s else .bad
  | _ => .bad
noncomputable def rng1M (m : ME D) : ME Itm := fun env s => bd (m env s) rngF1
theorem pi_rng1 (hg : Gl X "range") (hm : X.mg "range" = none) (hs : starEach [a] X.env = (false, eval a X.env) :: starEach [] X.env) (ha : PX X W a ma) : PIX X W tg (.Call (.Name "range" p) [a] [] pos) (rng1M ma) := by
  have hpl : PL X W [a] (consM ma nilM) := pl_cons hs ha pl_nil
  refine PI.imp (pi_range1 hg hm hpl hs) fun σ H Q h => ?_
  have h' : TX X.K W (RDs X.K) (consM ma nilM) σ H (fun vs H1 => ∃ j : Int, vs = [.int j] ∧ -(2 ^ 62) ≤ j ∧ j < 2 ^ 62 ∧ Q (Itr 0 j.toNat) H1) := by
    obtain ⟨g, s, env, R, E, q⟩ := h
    refine ⟨g, s, env, R, E, ?_⟩
    have q : Post X.K W g H σ (fun g H im J => ItOk X.K g H J im) (bd (ma env s) rngF1) Q := q
    unfold consM nilM
    cases hm : ma env s with
    | ok x s1 =>
      rw [hm] at q
      intro g1 H1 vs st R1 r
      obtain ⟨v, us, rfl, r1, r2⟩ := r
      cases r2
      cases x with
      | int j =>
        cases r1
        have q' : Post X.K W g H σ (fun g H im J => ItOk X.K g H J im) (if Rg1 j then .ok (rngD 0 j.toNat, none) s1 else .bad) Q := q
        by_cases hj : Rg1 j
        · rw [if_pos hj] at q'
          exact ⟨j, rfl, hj.1, hj.2, q' g1 H1 _ st R1 itOk_rng⟩
        · rw [if_neg hj] at q'; exact q'.elim
      | _ => exact q.elim
    | exc c fs s1 => rw [hm] at q; exact q
    | bad => rw [hm] at q; exact q
  exact h'
noncomputable def rngF2 (x y : D) (s : S) : R Itm := match x, y with
  | .int i, .int j => if Rg2 i j then .ok (rngD i (j - i).toNat, none) s else .bad
  | _, _ => .bad
noncomputable def rng2M (m n : ME D) : ME Itm := fun env s => bd (m env s) fun x s1 => bd (n env s1) fun y s2 => rngF2 x y s2
theorem pi_rng2 (hg : Gl X "range") (hm : X.mg "range" = none) (hs : starEach [a, b] X.env = (false, eval a X.env) :: starEach [b] X.env) (hs2 : starEach [b] X.env = (false, eval b X.env) :: starEach [] X.env) (ha : PX X W a ma) (hb : PX X W b mb) :
    PIX X W tg (.Call (.Name "range" p) [a, b] [] pos) (rng2M ma mb) := by
  have hpl : PL X W [a, b] (consM ma (consM mb nilM)) := pl_cons hs ha (pl_cons hs2 hb pl_nil)
  refine PI.imp (pi_range2 hg hm hpl (by rw [hs, hs2]; rfl) hs2) fun σ H Q h => ?_
  have h' : TX X.K W (RDs X.K) (consM ma (consM mb nilM)) σ H (fun vs H1 => ∃ i j : Int, vs = [.int i, .int j] ∧ (-(2 ^ 62) ≤ i ∧ i < 2 ^ 62 ∧ -(2 ^ 62) ≤ j ∧ j < 2 ^ 62) ∧ Q (Itr i (j - i).toNat) H1) := by
    obtain ⟨g, s, env, R, E, q⟩ := h
    refine ⟨g, s, env, R, E, ?_⟩
    have q : Post X.K W g H σ (fun g H im J => ItOk X.K g H J im) (bd (ma env s) fun x s1 => bd (mb env s1) fun y s2 => rngF2 x y s2) Q := q
    unfold consM nilM
    cases hm : ma env s with
    | ok x s1 =>
      rw [hm] at q
      have q : Post X.K W g H σ (fun g H im J => ItOk X.K g H J im) (bd (mb env s1) fun y s2 => rngF2 x y s2) Q := q
      show Post X.K W g H σ (RDs X.K) (bd (bd (mb env s1) fun d s1 => bd (.ok [] s1) fun ds s2 => .ok (d :: ds) s2) fun ds s2 => .ok (x :: ds) s2) _
      cases hm2 : mb env s1 with
      | ok y s2 =>
        rw [hm2] at q
        intro g1 H1 vs st R1 r
        obtain ⟨v, us, rfl, r1, v2, us2, rfl, r2, r3⟩ := r
        cases r3
        have q : Post X.K W g H σ (fun g H im J => ItOk X.K g H J im) (rngF2 x y s2) Q := q
        cases x with
        | int i =>
          cases y with
          | int j =>
            cases r1; cases r2
            have q' : Post X.K W g H σ (fun g H im J => ItOk X.K g H J im) (if Rg2 i j then .ok (rngD i (j - i).toNat, none) s2 else .bad) Q := q
            by_cases hj : Rg2 i j
            · rw [if_pos hj] at q'
              exact ⟨i, j, rfl, hj, q' g1 H1 _ st R1 itOk_rng⟩
            · rw [if_neg hj] at q'; exact q'.elim
          | _ => exact q.elim
        | _ => cases y <;> exact q.elim
      | exc c fs s2 => rw [hm2] at q; exact q
      | bad => rw [hm2] at q; exact q
    | exc c fs s1 => rw [hm] at q; exact q
    | bad => rw [hm] at q; exact q
  exact h'
/-- the guard of a value that is walked -/
def gdOf (x : D) (s : S) : Option (Nat × Ob) := match x with
  | .ref a => match s.heap a with
    | some o => some (a, o)
    | none => none
  | _ => none
/-- a list -/
def lstIt (x : D) (s : S) : R Itm := match lstOf x s with
  | some ds => .ok (ds, gdOf x s) s
  | none => .bad
def lstItM (m : ME D) : ME Itm := fun env s => bd (m env s) lstIt
theorem itOk_list {K : Frag} {g : Gh} {s : S} {H : Hp} {x : D} {ds : List D} {q : Addr} (R : Rel K g s H) (r : RD K g H x (.ref q)) (e : lstOf x s = some ds) : (∃ vs, SqL K H q vs) ∧ ItOk K g H (Itl K q) (ds, gdOf x s) := by
  obtain ⟨p, vs, ep, e2, e3⟩ := lst_ok R r e
  cases ep
  refine ⟨⟨vs, e2⟩, fun g1 H1 s1 st R1 gd => ?_⟩
  have now : ∃ vs, SqL K H1 q vs ∧ RDs K g1 H1 ds vs := by
    cases x with
    | lv xs =>
      cases e
      obtain ⟨p, us, ep, z, h1, h2⟩ := r
      cases ep
      exact ⟨us, .of ((st.z q z).2.trans h1), RDs.mono st.toStp0 _ _ h2⟩
    | sc xs =>
      cases e
      obtain ⟨p, us, ep, h1, h2⟩ := r
      cases ep
      exact ⟨us, (st.toStp0.sqS h1).seq, RDs.mono st.toStp0 _ _ h2⟩
    | ref a =>
      obtain ⟨p, ep, hm⟩ := r
      cases ep
      have e' : (match s.heap a with | some (.lst ds) => some ds | _ => none) = some ds := e
      split at e'
      · rename_i xs ha
        cases e'
        have gd' : s1.heap a = some (.lst ds) := by
          have : gdOf (.ref a) s = some (a, .lst ds) := by
            show (match s.heap a with | some o => some (a, o) | none => none) = _
            rw [ha]
          rw [this] at gd
          exact gd
        obtain ⟨q', h1, _, us, h3, h4⟩ := R1.obj a _ gd'
        rw [st.mu a q hm] at h1; cases h1
        exact ⟨us, .of h3, h4⟩
      · cases e'
    | _ => cases e
  obtain ⟨us, n1, n2⟩ := now
  refine ⟨⟨us, n1, by rw [n2.length]; exact Nat.le_refl _⟩, fun i d ei => ?_⟩
  obtain ⟨v, hv, rv⟩ := n2.get ei
  refine ⟨⟨us, v, n1, hv⟩, fun x H2 y => ?_⟩
  obtain ⟨rfl, y⟩ := y
  have ev := y us n1
  rw [hv] at ev
  cases ev
  exact ⟨g1, .refl _ _, R1, rv⟩
theorem pi_lst' (ha : PX X W a ma) : PIX X W tg a (lstItM ma) := by
  refine PI.imp (pi_list ha) fun σ H Q h => (TX.bind (rel := RD X.K) h).imp fun v H1 ⟨g1, x, s1, env, R1, E1, r1, p1⟩ => ?_
  unfold lstIt at p1
  cases e : lstOf x s1 with
  | none => rw [e] at p1; exact p1.elim
  | some ds =>
    rw [e] at p1
    obtain ⟨q, vs, rfl, e2, e3⟩ := lst_ok R1 r1 e
    obtain ⟨h1, h2⟩ := itOk_list R1 r1 e
    exact ⟨q, rfl, h1, p1 g1 H1 _ (.refl _ _) R1 h2⟩
/-- a tuple -/
def tupIt (x : D) (s : S) : R Itm := match x with
  | .tup ds => .ok (ds, none) s
  | .ct ds => .ok (ds, none) s
  | _ => .bad
def tupItM (m : ME D) : ME Itm := fun env s => bd (m env s) tupIt
theorem itOk_tup {K : Frag} {g : Gh} {H : Hp} {ds : List D} {q : Addr} {vs : List V} (e2 : SqT K H q vs) (e3 : RDs K g H ds vs) (inj : ∀ H1 us, SqT K H1 q vs → SqT K H1 q us → us = vs) : ItOk K g H (Itt K q) (ds, none) := by
  intro g1 H1 s1 st R1 _
  have n1 := st.toStp0.sqT e2
  have n2 := RDs.mono st.toStp0 _ _ e3
  refine ⟨⟨vs, n1, by rw [n2.length]; exact Nat.le_refl _⟩, fun i d ei => ?_⟩
  obtain ⟨v, hv, rv⟩ := n2.get ei
  refine ⟨⟨vs, v, n1, hv⟩, fun x H2 y => ?_⟩
  obtain ⟨rfl, y⟩ := y
  have ev := y vs n1
  rw [hv] at ev
  cases ev
  exact ⟨g1, .refl _ _, R1, rv⟩
theorem pi_tup' (ha : PX X W a ma) : PIX X W tg a (tupItM ma) := by
  refine PI.imp (pi_tup ha) fun σ H Q h => (TX.bind (rel := RD X.K) h).imp fun v H1 ⟨g1, x, s1, env, R1, E1, r1, p1⟩ => ?_
  have fin : ∀ {ds : List D} {q : Addr} {vs : List V}, v = .ref q → SqT X.K H1 q vs → RDs X.K g1 H1 ds vs → Post X.K W g1 H1 σ (fun g H im J => ItOk X.K g H J im) (.ok (ds, none) s1) Q → ∃ a, v = .ref a ∧ (∃ xs, SqT X.K H1 a xs) ∧ Q (Itt X.K a) H1 := by
    intro ds q vs ev e2 e3 p1
    subst ev
    refine ⟨q, rfl, ⟨vs, e2⟩, p1 g1 H1 _ (.refl _ _) R1 ?_⟩
    intro g2 H2 s2 st R2 _
    have n1 := st.toStp0.sqT e2
    have n2 := RDs.mono st.toStp0 _ _ e3
    refine ⟨⟨vs, n1, by rw [n2.length]; exact Nat.le_refl _⟩, fun i d ei => ?_⟩
    obtain ⟨w, hv, rv⟩ := n2.get ei
    refine ⟨⟨vs, w, n1, hv⟩, fun x H3 y => ?_⟩
    obtain ⟨rfl, y⟩ := y
    have ew := y vs n1
    rw [hv] at ew
    cases ew
    exact ⟨g2, .refl _ _, R2, rv⟩
  cases x with
  | tup ds =>
    obtain ⟨q, vs, ev, e2, e3⟩ := r1
    exact fin ev (.of e2) e3 p1
  | ct ds =>
    obtain ⟨q, vs, ev, e2, e3⟩ := r1
    exact fin ev e2.tup e3 p1
  | _ => exact p1.elim
/-! ### for -/
open Classical in
noncomputable def forL (t : Tg) (gd : Option (Nat × Ob)) (b : MS) : List D → MS
  | [], env, s => if GdOk gd s then .ok (.nx, env) s else .bad
  | d :: ds, env, s => if GdOk gd s then (match asg t d s env with
    | none => .bad
    | some env1 => match b env1 s with
      | .ok (.nx, env2) s2 => forL t gd b ds env2 s2
      | .ok (.ct, env2) s2 => forL t gd b ds env2 s2
      | .ok (.bk, env2) s2 => .ok (.nx, env2) s2
      | r => r) else .bad
noncomputable def forM (t : Tg) (m : ME Itm) (b : MS) : MS := fun env s => bs (m env s) env fun im s1 => forL t im.2 b im.1 env s1
theorem ps_for' {iter : Expr} {body : List Stmt} {t : Tg} {m : ME Itm} {b : MS} (hp : PassesOwn (model X.prog X.w) X.A X.env X.xe) (hc : X.calm = true) (hi : PIX X W tg iter m) (hg : PGX X tg t) (hb : PSB X W body b)
    (hs : ∀ x, foldedSetIterable iter X.env x = pure x) : PSX X W (.For tg iter body [] pos) (forM t m b) := by
  refine PS.imp (ps_for hp hc hi hg hb hs) fun σ H D h => (TS'.bind (rel := fun g H im J => ItOk X.K g H J im) h).imp fun J H0 ⟨g0, im, s0, env0, R0, E0, it, p0⟩ => ?_
  refine ⟨fun i m σ H => m = im.1.length - i ∧ i ≤ im.1.length ∧ ∃ g s env, Stp g0 H0 g H ∧ Rel X.K g s H ∧ RE X.K g H env σ ∧ PostS X.K W g H (forL t im.2 b (im.1.drop i) env s) D,
    ⟨im.1.length, by simp, Nat.zero_le _, g0, s0, env0, .refl _ _, R0, E0, p0⟩, fun i m σ H h => ?_⟩
  obtain ⟨rfl, hi, g, s, env, st, R, E, p⟩ := h
  by_cases hlt : i < im.1.length
  · have hd : im.1.drop i = im.1[i] :: im.1.drop (i + 1) := List.drop_eq_getElem_cons hlt
    rw [hd] at p
    unfold forL at p
    by_cases hgd : GdOk im.2 s
    · rw [if_pos hgd] at p
      obtain ⟨_, hit⟩ := it g H s st R hgd
      obtain ⟨go, yld⟩ := hit i im.1[i] (List.getElem?_eq_getElem hlt)
      refine .inr ⟨go, fun σ' H' => ∃ m', m' < im.1.length - i ∧ m' = im.1.length - (i + 1) ∧ i + 1 ≤ im.1.length ∧ ∃ g s env, Stp g0 H0 g H' ∧ Rel X.K g s H' ∧ RE X.K g H' env σ' ∧ PostS X.K W g H' (forL t im.2 b (im.1.drop (i + 1)) env s) D,
        fun σ' H' h => h, fun x H2 y => ?_⟩
      obtain ⟨g2, st2, R2, r2⟩ := yld x H2 y
      cases ea : asg t im.1[i] s env with
      | none => rw [ea] at p; exact p.elim
      | some env1 =>
        simp only [ea] at p
        refine tg_ok R2 (E.mono st2.toStp0) r2 ea fun σ1 E1 _ => ⟨g2, s, env1, R2, E1, ?_⟩
        cases hbs : b env1 s with
        | ok fe s3 =>
          obtain ⟨f, env3⟩ := fe
          intro g3 H3 σ3 st3 R3 E3
          have stA := st2.trans st3
          simp only [hbs] at p
          cases f with
          | nx => exact ⟨_, by omega, rfl, hlt, g3, s3, env3, st.trans stA, R3, E3, PostS.later stA p⟩
          | ct => exact ⟨_, by omega, rfl, hlt, g3, s3, env3, st.trans stA, R3, E3, PostS.later stA p⟩
          | bk => exact p g3 H3 σ3 stA R3 E3
          | rt d => exact p g3 H3 σ3 stA R3 E3
          | ex c fs => exact p g3 H3 σ3 stA R3 E3
        | exc c fs s3 => simp only [hbs] at p; exact p
        | bad => simp only [hbs] at p; exact p
    · rw [if_neg hgd] at p; exact p.elim
  · have ei : i = im.1.length := by omega
    have hd : im.1.drop i = [] := by rw [ei]; exact List.drop_length
    rw [hd] at p
    unfold forL at p
    by_cases hgd : GdOk im.2 s
    · rw [if_pos hgd] at p
      obtain ⟨hst, _⟩ := it g H s st R hgd
      exact .inl ⟨by rw [ei]; exact hst, p g H σ (.refl _ _) R E⟩
    · rw [if_neg hgd] at p; exact p.elim
end
end Co
namespace Co
open PySem PySem.Spec PyProof.Rows L2
/-! ### behind a call: what only the callee made is forgotten -/
mutual
def below (n : Nat) : D → Prop
  | .ref a => a < n
  | .tup ds => belowL n ds
  | .ct ds => belowL n ds
  | .lv ds => belowL n ds
  | .sc ds => belowL n ds
  | .dv _ ds => belowL n ds
  | _ => True
def belowL (n : Nat) : List D → Prop
  | [] => True
  | d :: ds => below n d ∧ belowL n ds
end
def obBelow (n : Nat) : Ob → Prop
  | .lst ds => belowL n ds
  | .dK kvs => belowL n (kvs.map (·.2))
  | .dT kvs => belowL n (kvs.map (·.2))
  | .lk kvs => belowL n (kvs.map (·.2))
  | .lkT kvs => belowL n (kvs.map (·.2))
  | .ins _ fs => belowL n (fs.map (·.2))
def gcOk (n : Nat) (ds : List D) (s : S) : Prop := belowL n ds ∧ ∀ a o, a < n → s.heap a = some o → obBelow n o
def S.cut (s : S) (n : Nat) : S := ⟨n, fun a => if a < n then s.heap a else none⟩
open Classical in
noncomputable def gcS (n : Nat) (ds : List D) (s : S) : S := if gcOk n ds s then s.cut n else s
def Gh.cut (g : Gh) (n : Nat) : Gh := ⟨fun a => if a < n then g.mu a else none, g.z, g.pr⟩
section
variable {K : Frag} {g g' : Gh} {s s' : S} {H H' : Hp} {n : Nat}
mutual
theorem RD.cut : ∀ (d : D) (v : V), below n d → RD K g H d v → RD K (g.cut n) H d v
  | .non, _, _, h => h
  | .bl _, _, _, h => h
  | .int _, _, _, h => h
  | .str _, _, _, h => h
  | .tup ds, v, b, ⟨p, vs, e, q, r⟩ => ⟨p, vs, e, q, RDs.cut ds vs b r⟩
  | .ct ds, v, b, ⟨p, vs, e, q, r⟩ => ⟨p, vs, e, q, RDs.cut ds vs b r⟩
  | .lv ds, v, b, ⟨p, vs, e, z, q, r⟩ => ⟨p, vs, e, z, q, RDs.cut ds vs b r⟩
  | .sc ds, v, b, ⟨p, vs, e, q, r⟩ => ⟨p, vs, e, q, RDs.cut ds vs b r⟩
  | .dv ks ds, v, b, ⟨p, kvs, e, z, q, k, r⟩ => ⟨p, kvs, e, z, q, k, RDs.cut ds _ b r⟩
  | .ref a, v, b, ⟨p, e, q⟩ => ⟨p, e, (if_pos (show a < n from b)).trans q⟩
theorem RDs.cut : ∀ (ds : List D) (vs : List V), belowL n ds → RDs K g H ds vs → RDs K (g.cut n) H ds vs
  | [], _, _, h => h
  | d :: ds, vs, b, ⟨v, r, e, h1, h2⟩ => ⟨v, r, e, RD.cut d v b.1 h1, RDs.cut ds r b.2 h2⟩
end
theorem RO.cut {p : Addr} : ∀ {o : Ob}, obBelow n o → RO K g H p o → RO K (g.cut n) H p o
  | .lst ds, b, ⟨vs, h1, h2⟩ => ⟨vs, h1, RDs.cut _ _ b h2⟩
  | .dK kvs, b, ⟨ws, h1, h2, h3⟩ => ⟨ws, h1, h2, RDs.cut _ _ b h3⟩
  | .dT kvs, b, ⟨ws, h1, h2, h3⟩ => ⟨ws, h1, h2, RDs.cut _ _ b h3⟩
  | .lk kvs, b, ⟨o, ws, h1, h2, h3⟩ => ⟨o, ws, h1, h2, RDs.cut _ _ b h3⟩
  | .lkT kvs, b, ⟨o, ws, h1, h2, h3⟩ => ⟨o, ws, h1, h2, RDs.cut _ _ b h3⟩
  | .ins c fs, b, ⟨dx, ws, h1, h2, h3⟩ => ⟨dx, ws, h1, h2, RDs.cut _ _ b h3⟩
theorem Stp.cut (st : Stp g H g' H') (hd : ∀ a p, g.mu a = some p → a < n) : Stp g H (g'.cut n) H' :=
  ⟨⟨fun a p e => (if_pos (hd a p e)).trans (st.mu a p e), st.z, st.tup, st.frz⟩, st.fz, st.pr⟩
theorem Rel.cut (R : Rel K g s H) (hn : ∀ a o, a < n → s.heap a = some o → obBelow n o) : Rel K (g.cut n) (s.cut n) H := by
  have out : ∀ a o, (s.cut n).heap a = some o → a < n ∧ s.heap a = some o := fun a o e => by
    by_cases h : a < n
    · exact ⟨h, (if_pos h).symm.trans e⟩
    · have : (none : Option Ob) = some o := (if_neg h).symm.trans e
      cases this
  have outm : ∀ a p, (g.cut n).mu a = some p → a < n ∧ g.mu a = some p := fun a p e => by
    by_cases h : a < n
    · exact ⟨h, (if_pos h).symm.trans e⟩
    · have : (none : Option Addr) = some p := (if_neg h).symm.trans e
      cases this
  refine ⟨fun a p e => (outm a p e).1, fun a o e => ?_, fun a b p oa ob ea eb h1 h2 => R.inj a b p oa ob (out a oa ea).2 (out b ob eb).2 (outm a p h1).2 (outm b p h2).2, R.zz, R.pp⟩
  obtain ⟨ha, e'⟩ := out a o e
  obtain ⟨q, h1, h2, h3⟩ := R.obj a o e'
  exact ⟨q, (if_pos ha).trans h1, h2, RO.cut (hn a o ha e') h3⟩
/-- what is known behind the callee is known behind the call -/
theorem gc_ok {ds : List D} {vs : List V} (st : Stp g H g' H') (R' : Rel K g' s' H') (r : RDs K g' H' ds vs) (hd : ∀ a p, g.mu a = some p → a < n) :
    ∃ g'', Stp g H g'' H' ∧ Rel K g'' (gcS n ds s') H' ∧ RDs K g'' H' ds vs := by
  unfold gcS
  by_cases h : gcOk n ds s'
  · rw [if_pos h]
    exact ⟨g'.cut n, st.cut hd, R'.cut h.2, RDs.cut _ _ h.1 r⟩
  · rw [if_neg h]
    exact ⟨g', st, R', r⟩
end
/-- a def, by its body's meaning -/
noncomputable def callB (n N : Nat) (b : MS) : List D → S → R D := fun ds s => if ds.length = n then (match b (ds.map some ++ List.replicate (N - ds.length) none) s with
    | .ok (.nx, _) s' => .ok .non (gcS s.next [.non] s')
    | .ok (.rt d, _) s' => .ok d (gcS s.next [d] s')
    | .ok (.ex c fs, _) s' => .exc c fs (gcS s.next (fs.map (·.2)) s')
    | _ => .bad) else .bad
/-- the promise of a def whose meaning is m -/
def spF (K : Frag) (n : Nat) (m : List D → S → R D) : Sp := fun vs H Q E => vs.length = n ∧ ∃ g s ds, Rel K g s H ∧ RDs K g H ds vs ∧ Post K (fun cls d _ H' => E cls d H') g H [] (RD K) (m ds s) Q
theorem re_start {K : Frag} {g : Gh} {H : Hp} {N : List Str} {ds : List D} {vs : List V} (r : RDs K g H ds vs) : RE K g H (ds.map some ++ List.replicate (N.length - ds.length) none) (L2.start N vs) := by
  unfold L2.start
  rw [r.length]
  refine ⟨by simp [r.length], fun i d e => ?_⟩
  by_cases hi : i < ds.length
  · rw [List.getElem?_append_left (by simpa using hi), List.getElem?_map] at e
    cases hd : ds[i]? with
    | none => rw [hd] at e; cases e
    | some d' =>
      rw [hd] at e
      have e' : d' = d := by simpa using e
      subst e'
      obtain ⟨v, h1, h2⟩ := r.get hd
      refine ⟨v, ?_, h2⟩
      rw [List.getElem?_append_left (by rw [List.length_map, ← r.length]; exact hi), List.getElem?_map, h1]
      rfl
  · rw [List.getElem?_append_right (by simpa using hi), List.getElem?_replicate] at e
    split at e <;> cases e
/-- a def's promise, where no repr is under way (FnOk of HandS.Call with that) -/
structure FnG (P : Program) (w : World) (K : PySem.W.Frag) (mg : Str → Option Value) (base : Heap) (k : Nat) (f : Addr) (fd : FuncData) (ps : List Str) (sp : Sp) : Prop where
  len : ∀ vs H Q E, sp vs H Q E → vs.length = ps.length
  run : ∀ (A : Around) (outer : List PySem.Env) (s : Shared) (H : Hp) (args : Args) (us : List Value) (vs : List V) (Q : VK) (E : XK), Room k A → A.guards = some [] → Env0 P w K mg base A outer s H → BindsTo s fd args (ps.zip us) → Vals vs us → sp vs H Q E →
    codeAny (model P w) A (.call (.ref f) args) (CR (L2.CX P w) outer P w H s Q E) s
theorem FnG.mono {P : Program} {w : World} {K : PySem.W.Frag} {mg : Str → Option Value} {base : Heap} {j k : Nat} {f : Addr} {fd : FuncData} {ps : List Str} {sp : Sp} (F : FnG P w K mg base j f fd ps sp) (h : j ≤ k) :
    FnG P w K mg base k f fd ps sp := ⟨F.len, fun A outer s H args us vs Q E hr => F.run A outer s H args us vs Q E (hr.mono h)⟩
/-- by a body (the proof follows fn_of of HandS.Call) -/
theorem fn_ofG {P : Program} {w : World} {K : PySem.W.Frag} {mg : Str → Option Value} {base : Heap} {k : Nat} {f : Addr} {name qual : Str} {params : Arguments} {body : List Stmt} {scope : Scope} {dV kV doc pm cdv ct oc : Value} {an od : Option Addr}
    {osl : Array (Option Value)} {N ps : List Str} {sp : Sp} (lk : K.lookup f = some ⟨oc, od, .func (PySem.W.fnOf name qual params body scope dV kV doc pm an cdv ct), osl⟩) (hcd : PySem.W.codeIn K cdv qual = true) (S : FnScope N ps scope)
    (len : ∀ vs H Q E, sp vs H Q E → vs.length = ps.length)
    (hbody : ∀ (A : Around) (outer : List PySem.Env) (s : Shared) (H : Hp) (vs : List V) (Q : VK) (E : XK), Room k (A.deeper (envOfC qual scope s.heap.objs.size f cdv)) → A.guards = some [] → sp vs H Q E →
      ∃ t, PSs (cxOf (L2.CX P w) P w K mg base N qual scope f cdv A outer s H E) body t ∧ t { nx := fun _ H' => Q .non H', rt := Q } (start N vs) H) :
    FnG P w K mg base (k + 1) f (PySem.W.fnOf name qual params body scope dV kV doc pm an cdv ct) ps sp := by
  refine ⟨len, fun A outer s H args us vs Q E hr hgd e0 hb r hsp => ?_⟩
  have hl := len _ _ _ _ hsp
  have KX : K.In s.heap := e0.mod.kin.keeps fun b o e => (e0.bs b o e).1
  have lim : s.heap.NoLimit := e0.mod.nolimit.keeps fun b o e => (e0.bs b o e).1
  have hkind : ∀ y ∈ ps.zip us, scope.names.lookup y.1 = some .local ∨ (scope.names.lookup y.1 = some .cell ∧ ((cellsFrom (s.heap.objs.size + 1) scope.names []).lookup y.1).isSome = true) := fun ⟨n, v⟩ hy => by
    rcases S.par n (List.of_mem_zip hy).1 with q | q
    · exact .inl q
    · exact .inr ⟨q, PySem.W.cellsFrom_some _ _ _ (.inl q)⟩
  refine codeAny_call_function hr.depth (KX _ _ lk) rfl S.co S.gen rfl (PySem.W.codeRec_of KX hcd) (hb _ _ _ _ ?_)
  refine wpAny_newFunctionEnv_cells S.kind hkind fun env he s1 x => ?_
  subst he
  refine ⟨lim.keeps x.toInCall.keep, codeAny_func ?_⟩
  obtain ⟨t, ht, hq⟩ := hbody A outer s H vs Q E (hr.deeper _) hgd hsp
  have I : Inv (cxOf (L2.CX P w) P w K mg base N qual scope f cdv A outer s H E) [] (start N vs) H s1 := inv_start S hr.hd e0 hl r x
  refine wpAny_mono (ht.run [] s1 (start N vs) H _ I hq) (fun fl s' hs => ?_) fun e s' hs => hs
  have fin : ∀ {σ' : L2.St} {H' : Hp} {v : V} {u : Value}, Inv (cxOf (L2.CX P w) P w K mg base N qual scope f cdv A outer s H E) [] σ' H' s' → RelV v u → Q v H' → CE outer P w H s Q u s' :=
    fun {σ' H' v u} J rv q => ⟨v, H', J.os, J.bare, J.base, J.hok, rv, q⟩
  cases fl with
  | ret u =>
    obtain ⟨v, σ', H', J, rv, q⟩ := hs
    exact fin J rv q
  | next =>
    obtain ⟨σ', H', J, q⟩ := hs
    exact fin (v := V.non) (u := Value.none) J rfl q
  | brk =>
    obtain ⟨_, _, _, q⟩ := hs
    exact False.elim q
  | cont =>
    obtain ⟨_, _, _, q⟩ := hs
    exact False.elim q
theorem okG {P : Program} {w : World} {K : PySem.W.Frag} {mg : Str → Option Value} {base : Heap} {x qual : Str} {params : Arguments} {body : List Stmt} {scope : Scope} {dvs : List V} {kws : List (Str × V)} {f : Addr} {fd : FuncData} {N ps : List Str} {k : Nat} {sp : Sp}
    (F : FunD K x qual params body scope dvs kws f fd) (S : FnScope N ps scope) (len : ∀ vs H Q E, sp vs H Q E → vs.length = ps.length)
    (hbody : ∀ (cdv : Value) (A : Around) (outer : List PySem.Env) (s : Shared) (H : Hp) (vs : List V) (Q : VK) (E : XK), Room k (A.deeper (envOfC qual scope s.heap.objs.size f cdv)) → A.guards = some [] → sp vs H Q E →
      ∃ t, PSs (cxOf (L2.CX P w) P w K mg base N qual scope f cdv A outer s H E) body t ∧ t { nx := fun _ H' => Q .non H', rt := Q } (start N vs) H) : FnG P w K mg base (k + 1) f fd ps sp := by
  obtain ⟨oc, od, dV, kV, doc, pm, an, cdv, ct, osl, rfl, lk, hcd, _, _⟩ := F.ex
  exact fn_ofG lk hcd S len fun A outer s H vs Q E hr hgd hsp => hbody cdv A outer s H vs Q E hr hgd hsp
theorem run_fnG {X : Cx} {E : L2.St → XK} {k : Nat} {f : Addr} {fd : FuncData} {ps : List Str} {sp : Sp} {pins : List (Addr × Obj)} {σ : L2.St} {H : Hp} {s : Shared} {Q : VK} {us : List Value} {vs : List V} (F : FnG X.prog X.w X.K X.mg X.base k f fd ps sp) (hr : Room k X.A) (hgd : X.A.guards = some []) (hb : Binds X.K fd ps [])
    (hx : PassesAt (L2.CX X.prog X.w) X σ (E σ)) (I : Inv X pins σ H s) (r : Vals vs us) (h : sp vs H Q (E σ)) : wpAny (model X.prog X.w) X.A (call (.ref f) us) (EP X pins σ Q) X.xe s := by
  have hl : us.length = ps.length := by rw [← r.length]; exact F.len _ _ _ _ h
  have b := hb s us I.kIn (by rw [List.append_nil]; exact hl)
  rw [List.append_nil] at b
  refine wpAny_call (codeAny_mono (F.run X.A X.stack s H ⟨us, []⟩ us vs Q (E σ) hr hgd I.env0 b r h) fun r s' hq => ?_)
  cases r with
  | error e => exact hx pins H s e s' I hq
  | ok fl =>
    cases fl with
    | ret u => exact I.after hq
    | next => exact False.elim hq
    | brk => exact False.elim hq
    | cont => exact False.elim hq
theorem pe_callG {X : Cx} {E : L2.St → XK} {k : Nat} {f : Addr} {fd : FuncData} {ps : List Str} {sp : Sp} {x : Str} {p pos : Pos} {e : Expr} {es : List Expr} {t : TA} (F : FnG X.prog X.w X.K X.mg X.base k f fd ps sp) (hr : Room k X.A) (hgd : X.A.guards = some []) (hg : Gl X x) (hm : X.mg x = some (.ref f)) (hk : PySem.W.keepIn X.K (.ref f) = true) (hb : Binds X.K fd ps [])
    (hx : ∀ σ, PassesAt (L2.CX X.prog X.w) X σ (E σ)) (ha : PA X (e :: es) t) (hdb : (x == ("__debug__" : Str)) = false) (he : starEach (e :: es) X.env = (false, eval e X.env) :: starEach es X.env) (hpl : (backTo pos (starEach es X.env)).any (·.1) = false) :
    PE X (.Call (.Name x p) (e :: es) [] pos) (tCallS sp E t) := by
  refine ⟨fun pins s σ H Q I h => ?_⟩
  refine wpAny_Call_Name_kw (ld_glob I hg hm ?_ hdb)
  refine PySem.W.callWith_K (h₀ := X.base) I.ok.mod.kin hk (thn (ha.run pos pins s σ H _ I h) fun us s1 ⟨vs, H1, I1, r, q⟩ => ⟨I1.kIn, ?_⟩) he hpl
  exact run_fnG F hr hgd hb (hx σ) I1 r q
theorem guards_make {A : Around} {C : Addr} {us : List Value} {kw : List (Str × Value)} (h : A.guards = some []) : (A.under (.builtin "type.__call__" ⟨.ref C :: us, kw⟩)).guards = some [] := by
  have e : (Code.builtin "type.__call__" ⟨.ref C :: us, kw⟩).isGuard = false := by first | rfl | decide
  simp [Around.under, h, Code.guards, e, pushGuards]
section
variable {P : Program} {w : World} {K : Frag} {mg : Str → Option Value} {base : Heap}
/-- a def keeps the promise of its body's meaning -/
theorem fn_ok {x qual : Str} {params : Arguments} {body : List Stmt} {scope : Scope} {f : Addr} {fd : FuncData} {N ps : List Str} {k : Nat} {b : MS}
    (F : FunD K x qual params body scope [] [] f fd) (Sc : FnScope N ps scope)
    (hbody : ∀ (cdv : Value) (A : Around) (outer : List PySem.Env) (s : Shared) (H : Hp) (E : XK), Room k (A.deeper (envOfC qual scope s.heap.objs.size f cdv)) → A.guards = some [] →
      PSB (cxOf (L2.CX P w) P w K mg base N qual scope f cdv A outer s H E) (fun cls d _ H' => E cls d H') body b) :
    FnG P w K mg base (k + 1) f fd ps (spF K ps.length (callB ps.length N.length b)) := by
  refine okG F Sc (fun vs H Q E h => h.1) fun cdv A outer s H vs Q E hr hgd h => ⟨_, hbody cdv A outer s H E hr hgd, ?_⟩
  obtain ⟨hl, g, t, ds, R, r, p⟩ := h
  have hd : ds.length = ps.length := by rw [r.length]; exact hl
  refine ⟨g, t, _, R, re_start (N := N) r, ?_⟩
  unfold callB at p
  rw [if_pos hd] at p
  have hb : ∀ (m : Co.R (Fl × Env)), Post K (fun cls d _ H' => E cls d H') g H [] (RD K) (match m with
    | .ok (.nx, _) s' => .ok .non (gcS t.next [.non] s')
    | .ok (.rt d, _) s' => .ok d (gcS t.next [d] s')
    | .ok (.ex c fs, _) s' => .exc c fs (gcS t.next (fs.map (·.2)) s')
    | _ => .bad) Q → PostS K (fun cls d _ H' => E cls d H') g H m { nx := fun _ H' => Q .non H', rt := Q } := by
    intro m p
    cases m with
    | ok fe s' =>
      obtain ⟨f, env⟩ := fe
      intro g' H' σ' st R' E'
      cases f with
      | nx =>
        obtain ⟨g'', st2, R2, r2⟩ := gc_ok (ds := [.non]) (vs := [.non]) st R' (.cons rfl .nil) R.dom
        exact p g'' H' .non st2 R2 rfl
      | rt d =>
        intro v rv
        obtain ⟨g'', st2, R2, r2⟩ := gc_ok (ds := [d]) (vs := [v]) st R' (.cons rv .nil) R.dom
        obtain ⟨v', r', e', h1, h2⟩ := r2
        cases e'
        exact p g'' H' v st2 R2 h1
      | bk => exact p.elim
      | ct => exact p.elim
      | ex c fs =>
        intro d xf
        cases fs with
        | nil =>
          obtain ⟨g'', st2, R2, r2⟩ := gc_ok (ds := []) (vs := []) st R' .nil R.dom
          exact p g'' H' d st2 R2 xf
        | cons f0 fs0 =>
          obtain ⟨dx, ws, h1, h2, h3, h4⟩ := xf
          obtain ⟨g'', st2, R2, r2⟩ := gc_ok st R' h4 R.dom
          exact p g'' H' d st2 R2 ⟨dx, ws, h1, h2, h3, r2⟩
    | exc c fs s' => exact p.elim
    | bad => exact p.elim
  exact hb _ p
end
section
variable {X : Cx} {W : WX} {a e o : Expr} {es : List Expr} {pos p apos : Pos} {ma mo : ME D} {mes : ME (List D)} {x : Str} {k : Nat} {f : Addr} {fd : FuncData} {ps : List Str} {m : List D → S → R D}
theorem sp_of {g : Gh} {s : S} {H : Hp} {σ : L2.St} {ds : List D} {vs : List V} {Q : VK} {n : Nat} (hn : ∀ ds s, ds.length ≠ n → m ds s = .bad) (R : Rel X.K g s H) (r : RDs X.K g H ds vs) (h : Post X.K W g H σ (RD X.K) (m ds s) Q) : spF X.K n m vs H Q (WE W σ) := by
  by_cases hl : ds.length = n
  · refine ⟨by rw [← r.length]; exact hl, g, s, ds, R, r, ?_⟩
    cases hm : m ds s with
    | ok d s' => rw [hm] at h; exact h
    | exc c fs s' => rw [hm] at h; exact h
    | bad => rw [hm] at h; exact h.elim
  · rw [hn ds s hl] at h; exact h.elim
theorem px_call (hn : ∀ ds s, ds.length ≠ ps.length → m ds s = .bad) (tk : Takes X W) (F : FnG X.prog X.w X.K X.mg X.base k f fd ps (spF X.K ps.length m)) (hr : Room k X.A) (hgd : X.A.guards = some []) (hg : Gl X x) (hm : X.mg x = some (.ref f)) (hk : PySem.W.keepIn X.K (.ref f) = true)
    (hb : Binds X.K fd ps []) (hdb : (x == ("__debug__" : Str)) = false) (he : starEach (e :: es) X.env = (false, eval e X.env) :: starEach es X.env) (hpl : (backTo pos (starEach es X.env)).any (·.1) = false) (ha : PL X W (e :: es) mes) :
    PX X W (.Call (.Name x p) (e :: es) [] pos) (argM m mes) :=
  PE.imp (pe_callG F hr hgd hg hm hk hb (fun σ => passAt tk σ) ha hdb he hpl) fun σ H Q h => (TX.bind (rel := RDs X.K) h).imp fun vs H1 ⟨g1, ds, s1, env, R1, E1, r1, p1⟩ => sp_of hn R1 r1 p1
theorem px_call0 (hn : ∀ ds s, ds.length ≠ ps.length → m ds s = .bad) (tk : Takes X W) (F : FnG X.prog X.w X.K X.mg X.base k f fd ps (spF X.K ps.length m)) (hr : Room k X.A) (hgd : X.A.guards = some []) (hg : Gl X x) (hm : X.mg x = some (.ref f)) (hk : PySem.W.keepIn X.K (.ref f) = true)
    (hb : Binds X.K fd ps []) (hdb : (x == ("__debug__" : Str)) = false) : PX X W (.Call (.Name x p) [] [] pos) (argM m nilM) := by
  refine ⟨fun pins s σ H Q I h => ?_⟩
  obtain ⟨g, t, env, R, E, q⟩ := h
  have q : Post X.K W g H σ (RD X.K) (m [] t) Q := q
  refine wpAny_Call_Name_kw (ld_glob I hg hm ?_ hdb)
  exact PySem.W.callWith_K0 I.kIn hk (run_fnG (us := []) (E := WE W) F hr hgd hb (passAt tk σ) I .nil (sp_of hn R .nil q))
/-- a method's name is no field -/
def noField (mn : Str) (fs : List (Str × D)) : Bool := !(fs.any fun p => p.1 == mn)
theorem lookup_none_of {α β : Type} {mn : Str} : ∀ {fs : List (Str × α)} {ws : List (Str × β)}, ws.map (·.1) = fs.map (·.1) → (fs.any fun p => p.1 == mn) = false → ws.lookup mn = none
  | [], [], _, _ => rfl
  | [], _ :: _, e, _ => by simp at e
  | _ :: _, [], e, _ => by simp at e
  | (a, x) :: fs, (b, y) :: ws, e, h => by
    simp only [List.map_cons, List.cons.injEq] at e
    obtain ⟨e1, e2⟩ := e
    subst e1
    simp only [List.any_cons, Bool.or_eq_false_iff] at h
    rw [List.lookup_cons]
    have : (mn == b) = false := by
      rw [beq_eq_false_iff_ne] at *
      exact fun z => h.1 z.symm
    rw [this]
    exact lookup_none_of e2 h.2
/-- the instance of the class c whose method mn is called -/
def recvD (c mn : Str) (x : D) (s : S) : Option Nat := match x with
  | .ref a => match s.heap a with
    | some (.ins c' fs) => if c' = c ∧ noField mn fs = true then some a else none
    | _ => none
  | _ => none
def methN (c mn : Str) (m : List D → S → R D) (mo : ME D) (mes : ME (List D)) : ME D := fun env s => bd (mo env s) fun x s1 => match recvD c mn x s1 with
  | some a => bd (mes env s1) fun ds s2 => m (.ref a :: ds) s2
  | none => .bad
theorem recv_ok {K : Frag} {cn mn : Str} {g1 : Gh} {s1 : S} {H1 : Hp} {x : D} {v : V} {a : Nat} (R1 : Rel K g1 s1 H1) (r1 : RD K g1 H1 x v) (e : recvD cn mn x s1 = some a) :
    ∃ q dx ws, v = .ref q ∧ g1.mu a = some q ∧ H1 q = some (.ins (He.ga K cn) dx ws) ∧ ws.lookup mn = none := by
  cases x with
  | ref b =>
    have e' : (match s1.heap b with
      | some (.ins c' fs) => if c' = cn ∧ noField mn fs = true then some b else none
      | _ => none) = some a := e
    split at e'
    · rename_i c' fs ha
      by_cases hc : c' = cn ∧ noField mn fs = true
      · rw [if_pos hc] at e'
        have eb : b = a := Option.some.inj e'
        subst eb
        obtain ⟨rfl, hf⟩ := hc
        obtain ⟨q, rfl, hm⟩ := r1
        obtain ⟨q', h1, _, dx, ws, h3, h4, h5⟩ := R1.obj _ _ ha
        rw [hm] at h1; cases h1
        refine ⟨q, dx, ws, rfl, hm, h3, lookup_none_of h4 ?_⟩
        unfold noField at hf
        cases hq : (fs.any fun p => p.1 == mn) with
        | false => rfl
        | true => rw [hq] at hf; cases hf
      · rw [if_neg hc] at e'; cases e'
    · cases e'
  | _ => cases e
theorem px_meth {cn mn : Str} {pl : Sem Bool} (hn : ∀ ds s, ds.length ≠ ps.length → m ds s = .bad) (tk : Takes X W) (cl : Cls X.K (He.ga X.K cn)) (hme : Meth X.K (He.ga X.K cn) mn f) (F : FnG X.prog X.w X.K X.mg X.base k f fd ps (spF X.K ps.length m)) (hr : Room k X.A) (hgd : X.A.guards = some []) (hb : Binds X.K fd ps [])
    (hst : starEach (e :: es) X.env = (false, eval e X.env) :: starEach es X.env) (hpl : (backTo pos (starEach es X.env)).any (·.1) = false)
    (ht : eval (.Call (.Attribute o mn apos) (e :: es) [] pos) X.env = (do
      let ov ← eval o X.env
      standAt apos.atName
      let (f, first) ← holding [ov] (getMethod ov mn pl)
      callWith pos f first (backTo pos (starEach (e :: es) X.env)) (backToKw pos (keywordEach [] X.env)))) (ho : PX X W o mo) (ha : PL X W (e :: es) mes) :
    PX X W (.Call (.Attribute o mn apos) (e :: es) [] pos) (methN cn mn m mo mes) := by
  refine ⟨fun pins s σ H Q I h => ?_⟩
  refine PySem.W.methodCall_KW (pl := pl) (thn (ho.run pins s σ H _ I (TX.bind (rel := RD X.K) h)) fun u s1 ⟨v, H1, I1, rx, g1, x, t1, env, R1, E1, r1, p1⟩ => ?_) ht
  cases er : recvD cn mn x t1 with
  | none => simp only [er] at p1; exact p1.elim
  | some b =>
  simp only [er] at p1
  obtain ⟨q, dx, ws, rfl, hm, h3, hl⟩ := recv_ok R1 r1 er
  obtain rfl : u = Value.ref q := rx
  refine getmeth_ok I1 h3 cl hme hl ?_
  refine PySem.W.callWith_K (first := [.ref q]) (h₀ := X.base) I.ok.mod.kin hme.kp (thn (ha.run pos pins s1 σ H1 _ I1 (TX.mk R1 E1 (Post.bind (rel := RDs X.K) p1))) fun us s2 ⟨vs, H2, I2, r, g2, ds, t2, st2, R2, r2, _, p3⟩ => ⟨I2.kIn, ?_⟩) hst hpl
  exact run_fnG (us := .ref q :: us) (vs := .ref q :: vs) (E := WE W) F hr hgd hb (passAt tk σ) I2 (.cons rfl r) (sp_of (ds := .ref b :: ds) hn R2 (.cons (d := .ref b) ⟨q, rfl, st2.mu b q hm⟩ r2) p3)
theorem px_meth0 {cn mn : Str} {pl : Sem Bool} (hn : ∀ ds s, ds.length ≠ ps.length → m ds s = .bad) (tk : Takes X W) (cl : Cls X.K (He.ga X.K cn)) (hme : Meth X.K (He.ga X.K cn) mn f) (F : FnG X.prog X.w X.K X.mg X.base k f fd ps (spF X.K ps.length m)) (hr : Room k X.A) (hgd : X.A.guards = some []) (hb : Binds X.K fd ps [])
    (ht : eval (.Call (.Attribute o mn apos) [] [] pos) X.env = (do
      let ov ← eval o X.env
      standAt apos.atName
      let (f, first) ← holding [ov] (getMethod ov mn pl)
      callWith pos f first (backTo pos (starEach [] X.env)) (backToKw pos (keywordEach [] X.env)))) (ho : PX X W o mo) :
    PX X W (.Call (.Attribute o mn apos) [] [] pos) (methN cn mn m mo nilM) := by
  refine ⟨fun pins s σ H Q I h => ?_⟩
  refine PySem.W.methodCall_KW (pl := pl) (thn (ho.run pins s σ H _ I (TX.bind (rel := RD X.K) h)) fun u s1 ⟨v, H1, I1, rx, g1, x, t1, env, R1, E1, r1, p1⟩ => ?_) ht
  cases er : recvD cn mn x t1 with
  | none => simp only [er] at p1; exact p1.elim
  | some b =>
  simp only [er] at p1
  obtain ⟨q, dx, ws, rfl, hm, h3, hl⟩ := recv_ok R1 r1 er
  obtain rfl : u = Value.ref q := rx
  refine getmeth_ok I1 h3 cl hme hl ?_
  have p3 : Post X.K W g1 H1 σ (RD X.K) (m [.ref b] t1) Q := p1
  exact PySem.W.callWith_K0 (first := [.ref q]) I1.kIn hme.kp (run_fnG (us := [.ref q]) (vs := [.ref q]) (E := WE W) F hr hgd hb (passAt tk σ) I1 (.cons rfl .nil) (sp_of (ds := [.ref b]) hn R1 (.cons (d := .ref b) ⟨q, rfl, hm⟩ .nil) p3))
/-- C(..) -/
def mkM (c : Str) (m : List D → S → R D) (mes : ME (List D)) : ME D := fun env s => bd (mes env s) fun ds s1 => bd (m (.ref s1.next :: ds) (s1.alloc (.ins c []))) fun r s2 => match r with
  | .non => .ok (.ref s1.next) s2
  | _ => .bad
theorem run_makeS {C : Addr} {pins : List (Addr × Obj)} {σ : L2.St} {H : Hp} {s : Shared} {Q : VK} {us : List Value} {vs : List V} {sp : Sp} (M : Mk X.K C f) (F : FnG X.prog X.w X.K X.mg X.base k f fd ps sp) (hr : Room (k + 1) X.A) (hgd : X.A.guards = some []) (hb : Binds X.K fd ps [])
    (tk : Takes X W) (I : Inv X pins σ H s) (r : Vals vs us)
    (h : ∀ x dx, H x = none → H dx = none → dx ≠ x → sp (.ref x :: vs) (upd (upd H dx (.own x)) x (.ins C dx [])) (fun v H2 => v = .non ∧ Q (.ref x) H2) (WE W σ)) :
    wpAny (model X.prog X.w) X.A (call (.ref C) us) (EP X pins σ Q) X.xe s := by
  have hq := h (s.heap.objs.size + 1) s.heap.objs.size (I.hok.fresh (Nat.le_succ _)) (I.hok.fresh (Nat.le_refl _)) (Nat.ne_of_lt (Nat.lt_succ_self _))
  have I2 := Inv.made (C := C) I
  have r2 : Vals (V.ref (s.heap.objs.size + 1) :: vs) (Value.ref (s.heap.objs.size + 1) :: us) := .cons rfl r
  have hl : (Value.ref (s.heap.objs.size + 1) :: us).length = ps.length := by
    have e := r2.length
    rw [F.len _ _ _ _ hq] at e
    exact e.symm
  have b := hb _ (Value.ref (s.heap.objs.size + 1) :: us) I2.kIn (by rw [List.append_nil]; exact hl)
  rw [List.append_nil] at b
  refine wpAny_call (make_map (f := f) I.kIn M.makes M.init (beq_iff_eq.mp M.fn) (codeAny_mono (F.run _ X.stack _ _ ⟨Value.ref (s.heap.objs.size + 1) :: us, []⟩ (Value.ref (s.heap.objs.size + 1) :: us) _ _ (WE W σ) (hr.make C us []) (guards_make hgd)
    (I2.env0.make C us []) b r2 hq) fun r s' hq' => ?_))
  cases r with
  | error e => exact passAt tk σ pins _ _ e s' I2 hq'
  | ok fl =>
    cases fl with
    | ret u =>
      obtain ⟨v, H', I3, rv, ev, q3⟩ := I2.after hq'
      subst ev
      exact ⟨rv, ⟨V.ref (s.heap.objs.size + 1), H', I3, rfl, q3⟩⟩
    | next => exact False.elim hq'
    | brk => exact False.elim hq'
    | cont => exact False.elim hq'
theorem mk_sp {cn : Str} {σ : L2.St} {g1 : Gh} {s1 : S} {H1 : Hp} {ds : List D} {vs : List V} {Q : VK} (hn : ∀ ds s, ds.length ≠ ps.length → m ds s = .bad) (R1 : Rel X.K g1 s1 H1) (r1 : RDs X.K g1 H1 ds vs)
    (p1 : Post X.K W g1 H1 σ (RD X.K) (bd (m (.ref s1.next :: ds) (s1.alloc (.ins cn []))) fun r s2 => match r with
      | .non => .ok (.ref s1.next) s2
      | _ => .bad) Q) (x dx : Addr) (hx : H1 x = none) (hdx : H1 dx = none) (ne : dx ≠ x) :
    spF X.K ps.length m (.ref x :: vs) (upd (upd H1 dx (.own x)) x (.ins (He.ga X.K cn) dx [])) (fun v H2 => v = .non ∧ Q (.ref x) H2) (WE W σ) := by
  have st1 := stp_new (o := .own x) R1 hdx
  have R2 := R1.new (o := .own x) hdx
  have hx2 : upd H1 dx (.own x) x = none := by rw [upd_ne (Ne.symm ne)]; exact hx
  have st2 := stp_add (o := .ins (He.ga X.K cn) dx []) R2 hx2
  have R3 := R2.add (o := .ins (He.ga X.K cn) dx []) (ob := .ins cn []) hx2 ⟨dx, [], upd_same, rfl, rfl⟩
  have st := st1.trans st2
  refine sp_of (σ := σ) (ds := .ref s1.next :: ds) hn R3 (.cons (d := .ref s1.next) ⟨x, rfl, if_pos rfl⟩ (RDs.mono st.toStp0 _ _ r1)) ((Post.bind (rel := RD X.K) (Post.later st p1)).imp fun v H2 ⟨g2, d, s2, st3, R4, r4, _, p2⟩ => ?_)
  cases d with
  | non =>
    cases r4
    exact ⟨rfl, p2 g2 H2 _ (.refl _ _) R4 ⟨x, rfl, st3.mu _ _ (if_pos rfl)⟩⟩
  | _ => exact p2.elim
theorem px_mk {cn : Str} (hn : ∀ ds s, ds.length ≠ ps.length → m ds s = .bad) (tk : Takes X W) (M : Mk X.K (He.ga X.K cn) f) (F : FnG X.prog X.w X.K X.mg X.base k f fd ps (spF X.K ps.length m)) (hr : Room (k + 1) X.A) (hgd : X.A.guards = some []) (hg : Gl X x) (hm : X.mg x = some (.ref (He.ga X.K cn)))
    (hb : Binds X.K fd ps []) (hdb : (x == ("__debug__" : Str)) = false) (he : starEach (e :: es) X.env = (false, eval e X.env) :: starEach es X.env) (hpl : (backTo pos (starEach es X.env)).any (·.1) = false) (ha : PL X W (e :: es) mes) :
    PX X W (.Call (.Name x p) (e :: es) [] pos) (mkM cn m mes) := by
  refine ⟨fun pins s σ H Q I h => ?_⟩
  refine wpAny_Call_Name_kw (ld_glob I hg hm ?_ hdb)
  refine PySem.W.callWith_K (h₀ := X.base) I.ok.mod.kin M.kp (thn (ha.run pos pins s σ H _ I (TX.bind (rel := RDs X.K) h)) fun us s1 ⟨vs, H1, I1, r, g1, ds, t1, env, R1, E1, r1, p1⟩ => ⟨I1.kIn, ?_⟩) he hpl
  exact run_makeS M F hr hgd hb tk I1 r (mk_sp hn R1 r1 p1)
theorem px_mk0 {cn : Str} (hn : ∀ ds s, ds.length ≠ ps.length → m ds s = .bad) (tk : Takes X W) (M : Mk X.K (He.ga X.K cn) f) (F : FnG X.prog X.w X.K X.mg X.base k f fd ps (spF X.K ps.length m)) (hr : Room (k + 1) X.A) (hgd : X.A.guards = some []) (hg : Gl X x) (hm : X.mg x = some (.ref (He.ga X.K cn)))
    (hb : Binds X.K fd ps []) (hdb : (x == ("__debug__" : Str)) = false) : PX X W (.Call (.Name x p) [] [] pos) (mkM cn m nilM) := by
  refine ⟨fun pins s σ H Q I h => ?_⟩
  obtain ⟨g, t, env, R, E, q⟩ := h
  refine wpAny_Call_Name_kw (ld_glob I hg hm ?_ hdb)
  exact PySem.W.callWith_K0 I.kIn M.kp (run_makeS (us := []) M F hr hgd hb tk I .nil (mk_sp hn R .nil q))
end
end Co
namespace Co
open PySem PySem.Spec PyProof.Rows L2
def wipeE (env : Env) : List Nat → Env
  | [] => env
  | v :: vs => (wipeE env vs).set v none
theorem RE.wipe {K : Frag} {g : Gh} {H : Hp} {env : Env} {σ : L2.St} (h : RE K g H env σ) : ∀ vs, RE K g H (wipeE env vs) (wipe σ vs)
  | [] => h
  | v :: vs => RE.unset (RE.wipe h vs) v
theorem wipe_at {σ : L2.St} {j : Nat} : ∀ {vs : List Nat}, (wipe σ vs)[j]? = if j ∈ vs ∧ j < σ.length then some none else σ[j]?
  | [] => by simp [wipe]
  | v :: vs => by
    unfold wipe
    by_cases hj : v = j
    · subst hj
      by_cases hl : v < σ.length
      · rw [List.getElem?_set_self (by rw [wipe_length]; exact hl), if_pos ⟨List.mem_cons_self, hl⟩]
      · rw [if_neg fun z => hl z.2, List.getElem?_eq_none (by rw [List.length_set, wipe_length]; omega), List.getElem?_eq_none (by omega)]
    · rw [List.getElem?_set_ne hj, wipe_at]
      have : (j ∈ v :: vs) ↔ j ∈ vs := by
        rw [List.mem_cons]
        exact ⟨fun z => z.elim (fun e => absurd e.symm hj) id, .inr⟩
      simp only [this]
theorem wipe_but {σ σ' : L2.St} {is vs : List Nat} (b : But is (wipe σ vs) σ') (hs : ∀ i ∈ is, i ∈ vs) : wipe σ' vs = wipe σ vs := by
  apply List.ext_getElem?
  intro j
  have hl : σ'.length = σ.length := by rw [b.len, wipe_length]
  rw [wipe_at, wipe_at, hl]
  by_cases hj : j ∈ vs ∧ j < σ.length
  · rw [if_pos hj, if_pos hj]
  · rw [if_neg hj, if_neg hj]
    by_cases hl' : j < σ.length
    · rw [b.same j fun z => hj ⟨hs j z, hl'⟩, wipe_at, if_neg hj]
    · rw [List.getElem?_eq_none (by omega), List.getElem?_eq_none (by omega)]
theorem bd_assoc {α β γ : Type} (r : R α) (f : α → S → R β) (h : β → S → R γ) : bd (bd r f) h = bd r fun a s => bd (f a s) h := by
  cases r <;> rfl
/-! ### our own object comes into the abstract heap, or is frozen -/
section
variable {K : Frag} {W : WX} {g : Gh} {s : S} {H : Hp} {σ : L2.St} {p : Addr}
theorem stp_add0 (R : Rel K g s H) : Stp g H (g.add s.next p) H :=
  ⟨⟨fun a q e => (if_neg (Nat.ne_of_lt (R.dom a q e))).trans e, fun _ h => ⟨h, rfl⟩, fun _ _ e => e, fun _ _ _ _ e => e⟩, fun _ _ _ e => e, fun _ h => ⟨h, rfl⟩⟩
theorem Rel.addOwn {ob : Ob} (R : Rel K g s H) (o : Own g s H p) (ho : RO K (g.add s.next p) H p ob) : Rel K (g.add s.next p) (s.alloc ob) H := by
  have old : ∀ a q, g.mu a = some q → (g.add s.next p).mu a = some q := fun a q e => (if_neg (Nat.ne_of_lt (R.dom a q e))).trans e
  have new : (g.add s.next p).mu s.next = some p := if_pos rfl
  refine ⟨fun a q e => ?_, fun a oa e => ?_, fun a b q oa ob' ea eb h1 h2 => ?_, R.zz, R.pp⟩
  · by_cases h : a = s.next
    · subst h; exact Nat.lt_succ_self _
    · exact Nat.lt_succ_of_lt (R.dom a q ((if_neg h).symm.trans e))
  · by_cases h : a = s.next
    · subst h
      have e' : ob = oa := Option.some.inj ((if_pos rfl).symm.trans e)
      subst e'
      exact ⟨p, new, ⟨o.nz, o.np⟩, ho⟩
    · have e' : s.heap a = some oa := (if_neg h).symm.trans e
      obtain ⟨q, h1, h2, h3⟩ := R.obj a oa e'
      exact ⟨q, old a q h1, h2, h3.mono (stp_add0 R).toStp0 rfl⟩
  · by_cases ha : a = s.next
    · by_cases hb : b = s.next
      · rw [ha, hb]
      · exfalso
        have eb' : s.heap b = some ob' := (if_neg hb).symm.trans eb
        have h2' : g.mu b = some q := (if_neg hb).symm.trans h2
        subst ha
        rw [new] at h1; cases h1
        exact o.nm b _ eb' h2'
    · have ea' : s.heap a = some oa := (if_neg ha).symm.trans ea
      have h1' : g.mu a = some q := (if_neg ha).symm.trans h1
      by_cases hb : b = s.next
      · exfalso
        subst hb
        rw [new] at h2; cases h2
        exact o.nm a _ ea' h1'
      · exact R.inj a b q oa ob' ea' ((if_neg hb).symm.trans eb) h1' ((if_neg hb).symm.trans h2)
theorem Rel.frzOwn (R : Rel K g s H) (o : Own g s H p) : Rel K (g.frz p) s H :=
  ⟨R.dom, fun a ob e => let ⟨q, h1, h2, h3⟩ := R.obj a ob e; ⟨q, h1, ⟨fun z => z.elim h2.1 fun e' => o.nm a ob e (e' ▸ h1), h2.2⟩, h3.mono (g' := g.frz p) stp_freeze.toStp0 rfl⟩, R.inj, fun q h => h.elim (R.zz q) fun e => e ▸ o.there,
    fun q h => ⟨(R.pp q h).1, fun z => z.elim (R.pp q h).2 fun e => o.np (e ▸ h)⟩⟩
/-- a list that we made, p, is handed on -/
theorem own_mkL {m : Bool} {ds : List D} {vs : List V} {Q : VK} (R : Rel K g s H) (o : Own g s H p) (hp : H p = some (.lst vs)) (r : RDs K g H ds vs) (h : Post K W g H σ (RD K) (mkL m ds s) Q) : Q (.ref p) H := by
  unfold mkL at h
  by_cases hl : ds.length ≤ LINE
  · rw [if_pos hl] at h
    cases m with
    | false => exact h (g.frz p) _ _ stp_freeze (R.frzOwn o) ⟨p, vs, rfl, .inr rfl, hp, RDs.mono stp_freeze.toStp0 _ _ r⟩
    | true => exact h (g.add s.next p) _ _ (stp_add0 R) (R.addOwn o ⟨vs, hp, RDs.mono (stp_add0 R).toStp0 _ _ r⟩) ⟨p, rfl, if_pos rfl⟩
  · rw [if_neg hl] at h; exact h.elim
/-- a dict that we made -/
def mkD (m : Bool) (kvs : List (Key × D)) : S → R D := fun s => if m then .ok (.ref s.next) (s.alloc (.dK kvs)) else .ok (.dv (kvs.map (·.1)) (kvs.map (·.2))) s
theorem own_mkD {m : Bool} {kvs : List (Key × D)} {ws : List (Key × V)} {Q : VK} (R : Rel K g s H) (o : Own g s H p) (hp : H p = some (.dK ws)) (e : ws.map (·.1) = kvs.map (·.1)) (r : RDs K g H (kvs.map (·.2)) (ws.map (·.2)))
    (h : Post K W g H σ (RD K) (mkD m kvs s) Q) : Q (.ref p) H := by
  cases m with
  | false => exact h (g.frz p) _ _ stp_freeze (R.frzOwn o) ⟨p, ws, rfl, .inr rfl, hp, e, RDs.mono stp_freeze.toStp0 _ _ r⟩
  | true => exact h (g.add s.next p) _ _ (stp_add0 R) (R.addOwn o ⟨ws, hp, e, RDs.mono (stp_add0 R).toStp0 _ _ r⟩) ⟨p, rfl, if_pos rfl⟩
/-- what is protected, at the end of a turn: p changes -/
theorem turn_end {g0 g' : Gh} {H0 H' : Hp} {s' : S} {ob : HO} (st : Stp (g0.prot p) H0 g' H') (R' : Rel K g' s' H') (o : Own g0 s H0 p) (nt : ∀ xs, H0 p ≠ some (.tup xs)) (nf : ∀ ob u, H0 p ≠ some (.frz ob u)) :
    H' p = H0 p ∧ Stp g0 H0 (g'.unprot p) (upd H' p ob) ∧ Rel K (g'.unprot p) s' (upd H' p ob) ∧ Own (g'.unprot p) s' (upd H' p ob) p ∧ Stp0 g' H' (g'.unprot p) (upd H' p ob) := by
  have pp := st.pr p (.inr rfl)
  have nz : ¬ g'.z p := (R'.pp p pp.1).2
  have eH := pp.2
  have nm : ∀ a oa, s'.heap a = some oa → g'.mu a ≠ some p := fun a oa e z => by
    obtain ⟨q, h1, h2, h3⟩ := R'.obj a oa e
    rw [z] at h1; cases h1
    exact h2.2 pp.1
  have F : Free (g'.unprot p) H' p := ⟨nz, fun xs e => nt xs (eH ▸ e), fun ob u e => nf ob u (eH ▸ e)⟩
  have np : ¬ (g'.unprot p).pr p := fun z => z.2 rfl
  have F0 : Stp0 g' H' (g'.unprot p) (upd H' p ob) := ⟨fun _ _ e => e, fun q h => ⟨h, upd_ne fun e : q = p => nz (by rw [← e]; exact h)⟩, fun q xs e => (upd_ne fun z : q = p => nt xs (by rw [← eH, ← z]; exact e)).trans e, fun q o u _ e => (upd_ne fun z : q = p => nf o u (by rw [← eH, ← z]; exact e)).trans e⟩
  refine ⟨eH, ⟨⟨fun a q e => st.mu a q e, fun q h => ?_, fun q xs e => F0.tup q xs (st.tup q xs e), fun q o u c e => F0.frz q o u c (st.frz q o u c e)⟩, fun q o u e => (upd_ne fun z : q = p => nf o u (by rw [← z]; exact e)).trans (st.fz q o u e), fun q h => ?_⟩, (R'.unprot).free F np nm, ⟨by rw [upd_same]; simp, nz, np, nm⟩, F0⟩
  · exact ⟨(st.z q h).1, (upd_ne fun e : q = p => nz (by rw [← e]; exact (st.z q h).1)).trans (st.z q h).2⟩
  · have hq : q ≠ p := fun e => o.np (e ▸ h)
    exact ⟨⟨(st.pr q (.inl h)).1, hq⟩, (upd_ne hq).trans (st.pr q (.inl h)).2⟩
end
/-! ### list comprehensions -/
/-- what is raised within is not spoken of -/
def nox {α : Type} (r : R α) : R α := match r with
  | .ok a s => .ok a s
  | _ => .bad
open Classical in
noncomputable def lcL (t : Tg) (gd : Option (Nat × Ob)) (own : List Nat) (tst : ME Bool) (elt : ME D) (env : Env) : List D → List D → S → R (List D)
  | [], acc, s => if GdOk gd s then .ok acc s else .bad
  | d :: ds, acc, s => if GdOk gd s then (match asg t d s (wipeE env own) with
    | none => .bad
    | some env1 => bd (nox (tst env1 s)) fun k s1 => if k then bd (nox (elt env1 s1)) fun y s2 => if acc.length < LINE then lcL t gd own tst elt env ds (acc ++ [y]) s2 else .bad else lcL t gd own tst elt env ds acc s1) else .bad
noncomputable def lcM (m : Bool) (t : Tg) (it : ME Itm) (own : List Nat) (tst : ME Bool) (elt : ME D) : ME D := fun env s => bd (it env s) fun im s1 => bd (lcL t im.2 own tst elt env im.1 [] s1) fun ds s2 => mkL m ds s2
def yesM : ME Bool := fun _ s => .ok true s
abbrev W0 : WX := fun _ _ _ _ => False
theorem Post.nox_of {α β : Type} {K : Frag} {W : WX} {g : Gh} {H : Hp} {σ σ' : L2.St} {rel : Gh → Hp → α → β → Prop} {r : R α} {Q : β → Hp → Prop} (h : Post K W g H σ rel (nox r) Q) : Post K W0 g H σ' rel r Q := by
  cases r with
  | ok a s => exact h
  | exc c fs s => exact h.elim
  | bad => exact h
abbrev PTX (X : Cx) (ifs : List Expr) (m : ME Bool) : Prop := PTs X ifs (TT' X.K W0 m)
theorem PTs.imp {X : Cx} {e : List Expr} {t t' : TT} (h : PTs X e t) (i : ∀ σ H Q, t' σ H Q → t σ H Q) : PTs X e t' := ⟨fun pins s σ H Q I q => h.run pins s σ H Q I (i σ H Q q)⟩
theorem pt_yes {X : Cx} : PTX X [] yesM := PTs.imp pts_nil fun σ H Q ⟨g, s, env, R, E, p⟩ => p g H true (.refl _ _) R rfl
theorem pt_one {X : Cx} {c : Expr} {m : ME Bool} (h : PB X W0 c m) : PTX X [c] m := pts_one h
section
variable {X : Cx} {W : WX} {tg iter elt : Expr} {ifs : List Expr} {scope : Scope} {own : List (Str × Nat)} {pos : Pos} {t : Tg} {it : ME Itm} {tst : ME Bool} {em : ME D}
/-- the reading of such a comprehension by its meaning -/
theorem lc_reads {m : Bool} (hsl : ∀ i ∈ slots t, i ∈ own.map (·.2)) (σ : L2.St) (H : Hp) (Q : VK) (h : TE' X.K W (lcM m t it (own.map (·.2)) tst em) σ H Q) :
    tLc (TI' X.K W it) (gtOf X.K t) (TT' X.K W0 tst) (TE' X.K W0 em) (own.map (·.2)) σ H Q := by
  refine (TX.bind (rel := fun g H im J => ItOk X.K g H J im) h).imp fun J H0 ⟨g0, im, s0, env, R0, E0, hit, p0⟩ => ?_
  intro Dp hDp
  refine ⟨fun i m' H => m' = im.1.length - i ∧ i ≤ im.1.length ∧ ∃ g s acc vs, Stp g0 H0 g H ∧ Rel X.K g s H ∧ Own g s H Dp ∧ H Dp = some (.lst vs) ∧ RDs X.K g H acc vs ∧
      Post X.K W g H σ (RD X.K) (bd (lcL t im.2 (own.map (·.2)) tst em env (im.1.drop i) acc s) fun ds s2 => mkL m ds s2) Q,
    ⟨im.1.length, by simp, Nat.zero_le _, g0, s0, [], [], stp_new R0 hDp, R0.new hDp, own_new R0 hDp, upd_same, .nil, Post.later (stp_new R0 hDp) p0⟩, fun i m' H h => ?_⟩
  obtain ⟨rfl, hi, g, s, acc, vs, st, R, O, hD, ra, p⟩ := h
  by_cases hlt : i < im.1.length
  · have hd : im.1.drop i = im.1[i] :: im.1.drop (i + 1) := List.drop_eq_getElem_cons hlt
    rw [hd] at p
    unfold lcL at p
    by_cases hgd : GdOk im.2 s
    · rw [if_pos hgd] at p
      have RP := R.prot O
      have stP := st.trans (stp_prot (g := g) (H := H) (p := Dp))
      obtain ⟨_, hit'⟩ := hit (g.prot Dp) H s stP RP hgd
      obtain ⟨go, yld⟩ := hit' i im.1[i] (List.getElem?_eq_getElem hlt)
      refine .inr ⟨go, fun H' => ∃ m', m' < im.1.length - i ∧ m' = im.1.length - (i + 1) ∧ i + 1 ≤ im.1.length ∧ ∃ g s acc vs, Stp g0 H0 g H' ∧ Rel X.K g s H' ∧ Own g s H' Dp ∧ H' Dp = some (.lst vs) ∧ RDs X.K g H' acc vs ∧
        Post X.K W g H' σ (RD X.K) (bd (lcL t im.2 (own.map (·.2)) tst em env (im.1.drop (i + 1)) acc s) fun ds s2 => mkL m ds s2) Q, fun H' h => h, fun x H2 y => ?_⟩
      obtain ⟨g2, st2, R2, r2⟩ := yld x H2 y
      cases ea : asg t im.1[i] s (wipeE env (own.map (·.2))) with
      | none => simp only [ea] at p; exact p.elim
      | some env1 =>
        simp only [ea] at p
        have Ew : RE X.K g2 H2 (wipeE env (own.map (·.2))) (wipe σ (own.map (·.2))) := ((E0.mono stP.toStp0).mono st2.toStp0).wipe _
        refine tg_ok R2 Ew r2 ea fun σ1 E1 b1 => ⟨wipe_but b1 hsl, ?_⟩
        -- the end of a turn
        have fin : ∀ {g3 : Gh} {s3 : S} {H3 : Hp} {r : Co.R D}, Stp (g.prot Dp) H g3 H3 → Rel X.K g3 s3 H3 → Post X.K W g H σ (RD X.K) (bd (lcL t im.2 (own.map (·.2)) tst em env (im.1.drop (i + 1)) acc s3) fun ds s2 => mkL m ds s2) Q →
            ∃ m', m' < im.1.length - i ∧ m' = im.1.length - (i + 1) ∧ i + 1 ≤ im.1.length ∧ ∃ g s acc vs, Stp g0 H0 g H3 ∧ Rel X.K g s H3 ∧ Own g s H3 Dp ∧ H3 Dp = some (.lst vs) ∧ RDs X.K g H3 acc vs ∧
              Post X.K W g H3 σ (RD X.K) (bd (lcL t im.2 (own.map (·.2)) tst em env (im.1.drop (i + 1)) acc s) fun ds s2 => mkL m ds s2) Q := by
          intro g3 s3 H3 r st3 R3 p3
          obtain ⟨k1, k2, k3, k4, k5⟩ := turn_end (ob := .lst vs) st3 R3 O (fun xs e => by rw [hD] at e; cases e) (fun o u e => by rw [hD] at e; cases e)
          have eU : upd H3 Dp (.lst vs) = H3 := by
            funext q
            by_cases hq : q = Dp
            · rw [hq, upd_same, k1, hD]
            · exact upd_ne hq
          rw [eU] at k2 k3 k4 k5
          exact ⟨_, by omega, rfl, hlt, _, s3, acc, vs, st.trans k2, k3, k4, k1.trans hD, RDs.mono k2.toStp0 _ _ ra, Post.later k2 p3⟩
        rw [bd_assoc] at p
        have pt : Post X.K W0 g2 H2 σ1 Eqr (tst env1 s) _ := Post.nox_of (σ' := σ1) (Post.bind (rel := Eqr) (Post.later (stp_prot.trans st2) p))
        refine TX.mk R2 E1 (pt.imp fun k H3 ⟨g3, k', s3, st3, R3, ek, en0, p3⟩ => ?_)
        cases ek
        rw [en0] at p
        have sA := st2.trans st3
        cases k with
        | false =>
          simp only [Bool.false_eq_true, if_false] at p3 ⊢
          exact fin (r := .bad) sA R3 p
        | true =>
          have p3g : Post X.K W g H σ (RD X.K) (bd (bd (nox (em env1 s3)) fun y s4 => if acc.length < LINE then lcL t im.2 (own.map (·.2)) tst em env (im.1.drop (i + 1)) (acc ++ [y]) s4 else .bad) fun ds s2 => mkL m ds s2) Q := p
          have p3' : Post X.K W g3 H3 σ (RD X.K) (bd (bd (nox (em env1 s3)) fun y s4 => if acc.length < LINE then lcL t im.2 (own.map (·.2)) tst em env (im.1.drop (i + 1)) (acc ++ [y]) s4 else .bad) fun ds s2 => mkL m ds s2) Q := p3
          simp only [if_true] at p3 ⊢
          rw [bd_assoc] at p3' p3g
          have pe : Post X.K W0 g3 H3 σ1 (RD X.K) (em env1 s3) _ := Post.nox_of (σ' := σ1) (Post.bind (rel := RD X.K) p3')
          refine TX.mk R3 (E1.mono st3.toStp0) (pe.imp fun yv H4 ⟨g4, y', s4, st4, R4, ry, en, p4⟩ => ?_)
          rw [en] at p3g
          have sB := sA.trans st4
          obtain ⟨k1, k2, k3, k4, k5⟩ := turn_end (ob := .lst (vs ++ [yv])) sB R4 O (fun xs e => by rw [hD] at e; cases e) (fun o u e => by rw [hD] at e; cases e)
          have p3h : Post X.K W g H σ (RD X.K) (bd (if acc.length < LINE then lcL t im.2 (own.map (·.2)) tst em env (im.1.drop (i + 1)) (acc ++ [y']) s4 else .bad) fun ds s2 => mkL m ds s2) Q := p3g
          by_cases hl : acc.length < LINE
          · rw [if_pos hl] at p3h
            refine ⟨vs, k1.trans hD, by rw [← ra.length]; exact hl, _, by omega, rfl, hlt, _, s4, acc ++ [y'], vs ++ [yv], st.trans k2, k3, k4, upd_same, ?_, Post.later k2 p3h⟩
            exact RDs.append (RDs.mono k2.toStp0 _ _ ra) (.cons (RD.mono k5 _ _ ry) .nil)
          · rw [if_neg hl] at p3h; exact p3h.elim
    · rw [if_neg hgd] at p; exact p.elim
  · have ei : i = im.1.length := by omega
    have hd : im.1.drop i = [] := by rw [ei]; exact List.drop_length
    rw [hd] at p
    unfold lcL at p
    by_cases hgd : GdOk im.2 s
    · rw [if_pos hgd] at p
      obtain ⟨hst, _⟩ := hit g H s st R hgd
      exact .inl ⟨by rw [ei]; exact hst, own_mkL R O hD ra p⟩
    · rw [if_neg hgd] at p; exact p.elim
theorem px_lc {m : Bool} (hc : X.calm = true) (hN : X.N.Nodup) (ok : BlkOk X.N X.env.scope scope own) (hsl : ∀ i ∈ slots t, i ∈ own.map (·.2)) (hs : ∀ x, foldedSetIterable iter X.env x = pure x) (hi : PIX X W tg iter it)
    (hg : ∀ (s : Shared) (H : Hp) (C : Addr) (cl : List (Str × Addr)) (fp : List Addr), PGX (X.blk s H scope (compEnvC scope cl C X.env) fp) tg t) (ht : ∀ (s : Shared) (H : Hp) (C : Addr) (cl : List (Str × Addr)) (fp : List Addr), PTX (X.blk s H scope (compEnvC scope cl C X.env) fp) ifs tst)
    (he : ∀ (s : Shared) (H : Hp) (C : Addr) (cl : List (Str × Addr)) (fp : List Addr), PX (X.blk s H scope (compEnvC scope cl C X.env) fp) W0 elt em) : PX X W (.ListComp elt [⟨tg, iter, ifs, 0⟩] scope pos) (lcM m t it (own.map (·.2)) tst em) :=
  PE.imp (pe_lc (wi := TI' X.K W it) (g := gtOf X.K t) (tt := TT' X.K W0 tst) (te := TE' X.K W0 em) hc hN hi ok hg ht he hs) (lc_reads hsl)
/-- y = [..] on one line -/
theorem ps_setLc' {m : Bool} {i : Nat} {y : Str} {py spos : Pos} (hc : X.calm = true) (hN : X.N.Nodup) (hy : X.N[i]? = some y) (hyl : X.env.scope.names.lookup y = some .local)
    (hsw : swapsWith (.ListComp elt [⟨tg, iter, ifs, 0⟩] scope pos) (some (.Name y py)) spos.line X.env = pure true) (ok : BlkOk X.N X.env.scope scope own) (hsl : ∀ i ∈ slots t, i ∈ own.map (·.2)) (hs : ∀ x, foldedSetIterable iter X.env x = pure x) (hi : PIX X W tg iter it)
    (hg : ∀ (s : Shared) (H : Hp) (C : Addr) (cl : List (Str × Addr)) (fp : List Addr), PGX (X.blk s H scope (compEnvC scope cl C X.env) fp) tg t) (ht : ∀ (s : Shared) (H : Hp) (C : Addr) (cl : List (Str × Addr)) (fp : List Addr), PTX (X.blk s H scope (compEnvC scope cl C X.env) fp) ifs tst)
    (he : ∀ (s : Shared) (H : Hp) (C : Addr) (cl : List (Str × Addr)) (fp : List Addr), PX (X.blk s H scope (compEnvC scope cl C X.env) fp) W0 elt em) :
    PSX X W (.Assign [.Name y py] (.ListComp elt [⟨tg, iter, ifs, 0⟩] scope pos) spos) (setM i (lcM m t it (own.map (·.2)) tst em)) := by
  refine PS.imp (ps_setLc (wi := TI' X.K W it) (g := gtOf X.K t) (tt := TT' X.K W0 tst) (te := TE' X.K W0 em) hc hN hy hyl hsw hi ok hg ht he hs) fun σ H D h => ?_
  have h2 := TS'.bind (rel := RD X.K) h
  exact lc_reads (m := m) hsl σ H _ (h2.imp fun v H1 ⟨g1, d, s1, env, R1, E1, r1, p1⟩ => p1 g1 H1 _ (.refl _ _) R1 (E1.set i r1))
end
end Co
namespace Co
open PySem PySem.Spec PyProof.Rows L2
/-! ### built-in functions -/
/-- the reading r of a call asks what f brings -/
def OpN (K : Frag) (r : List V → Hp → VK → Prop) (f : List D → S → R D) : Prop := ∀ (W : WX) (g : Gh) (s : S) (H : Hp) (σ : L2.St) (ds : List D) (vs : List V) (Q : VK), Rel K g s H → RDs K g H ds vs → Post K W g H σ (RD K) (f ds s) Q → r vs H Q
section
variable {X : Cx} {W : WX} {e : Expr} {es : List Expr} {pos p : Pos} {mes : ME (List D)} {x : Str} {id T : String} {r : List V → Hp → VK → Prop} {f : List D → S → R D}
theorem px_blt (hc : CallR X (.builtin id) r) (hf : OpN X.K r f) (hg : Gl X x) (hm : X.mg x = none) (hv : bootBuiltins x = some (.builtin id)) (hn : x ≠ "__name__") (hdb : (x == ("__debug__" : Str)) = false)
    (he : starEach (e :: es) X.env = (false, eval e X.env) :: starEach es X.env) (hpl : (backTo pos (starEach es X.env)).any (·.1) = false) (ha : PL X W (e :: es) mes) : PX X W (.Call (.Name x p) (e :: es) [] pos) (argM f mes) :=
  PE.imp (pe_callB hc hg hm hv ha hn hdb he hpl) fun σ H Q h => (TX.bind (rel := RDs X.K) h).imp fun vs H1 ⟨g1, ds, s1, env, R1, E1, r1, p1⟩ => hf W g1 s1 H1 σ ds vs Q R1 r1 p1
theorem px_bty (hc : CallR X (.type T) r) (hf : OpN X.K r f) (hg : Gl X x) (hm : X.mg x = none) (hv : bootBuiltins x = some (.type T)) (hn : x ≠ "__name__") (hdb : (x == ("__debug__" : Str)) = false)
    (he : starEach (e :: es) X.env = (false, eval e X.env) :: starEach es X.env) (hpl : (backTo pos (starEach es X.env)).any (·.1) = false) (ha : PL X W (e :: es) mes) : PX X W (.Call (.Name x p) (e :: es) [] pos) (argM f mes) :=
  PE.imp (pe_callTy hc hg hm hv ha hn hdb he hpl) fun σ H Q h => (TX.bind (rel := RDs X.K) h).imp fun vs H1 ⟨g1, ds, s1, env, R1, E1, r1, p1⟩ => hf W g1 s1 H1 σ ds vs Q R1 r1 p1
end
section
variable {K : Frag} {g : Gh} {s : S} {H : Hp}
theorem sq_ok {d : D} {ds : List D} {v : V} (R : Rel K g s H) (r : RD K g H d v) (e : seqOf d s = some ds) : ∃ p vs, v = .ref p ∧ (SqL K H p vs ∨ SqT K H p vs) ∧ RDs K g H ds vs := by
  cases d with
  | tup xs =>
    cases e
    obtain ⟨p, vs, e1, e2, e3⟩ := r
    exact ⟨p, vs, e1, .inr (.of e2), e3⟩
  | ct xs =>
    cases e
    obtain ⟨p, vs, e1, e2, e3⟩ := r
    exact ⟨p, vs, e1, .inr e2.tup, e3⟩
  | _ =>
    obtain ⟨p, vs, e1, e2, e3⟩ := lst_ok R r e
    exact ⟨p, vs, e1, .inl e2, e3⟩
theorem one_of {ds : List D} {vs : List V} {d : D} (r : RDs K g H ds vs) (e : ds = [d]) : ∃ v, vs = [v] ∧ RD K g H d v := by
  subst e
  obtain ⟨v, us, rfl, h1, h2⟩ := r
  cases h2
  exact ⟨v, rfl, h1⟩
theorem two_of {ds : List D} {vs : List V} {d e : D} (r : RDs K g H ds vs) (h : ds = [d, e]) : ∃ v w, vs = [v, w] ∧ RD K g H d v ∧ RD K g H e w := by
  subst h
  obtain ⟨v, us, rfl, h1, w, us2, rfl, h2, h3⟩ := r
  cases h3
  exact ⟨v, w, rfl, h1, h2⟩
end
/-! ### len -/
def lenD (d : D) (s : S) : Option Nat := match d with
  | .str y => if y.length ≤ LINE then some y.length else none
  | d => match seqOf d s with
    | some ds => some ds.length
    | none => match d with
      | .ref a => match s.heap a with
        | some (.dK kvs) => some kvs.length
        | _ => none
      | _ => none
def lenF (ds : List D) (s : S) : R D := match ds with
  | [d] => match lenD d s with
    | some n => .ok (.int n) s
    | none => .bad
  | _ => .bad
def rLen (K : Frag) : List V → Hp → VK → Prop := fun xs H Q => (∃ p ys, xs = [.ref p] ∧ (SqL K H p ys ∨ SqT K H p ys) ∧ Q (.int ys.length) H) ∨ (∃ z, xs = [.str z] ∧ z.length ≤ sizeLine ∧ Q (.int z.length) H) ∨ ∃ a kvs, xs = [V.ref a] ∧ H a = some (.dK kvs) ∧ Q (.int kvs.length) H
theorem cr_len {X : Cx} : CallR X (.builtin "len") (rLen X.K) := CallR.or call_len_seq (CallR.or call_len_str call_lenD)
theorem opn_len {K : Frag} : OpN K (rLen K) lenF := by
  intro W g s H σ ds vs Q R r h
  unfold lenF at h
  split at h
  case h_2 => exact h.elim
  rename_i d
  obtain ⟨v, rfl, rv⟩ := one_of r rfl
  cases e : lenD d s with
  | none => rw [e] at h; exact h.elim
  | some n =>
    rw [e] at h
    have gen : (match seqOf d s with
        | some ds => some ds.length
        | none => match d with
          | .ref a => match s.heap a with
            | some (.dK kvs) => some kvs.length
            | _ => none
          | _ => none) = some n → rLen K [v] H Q := by
      intro e
      cases es : seqOf d s with
      | some ds =>
        rw [es] at e
        cases e
        obtain ⟨p, vs, rfl, e2, e3⟩ := sq_ok R rv es
        exact .inl ⟨p, vs, rfl, e2, post_ok (d := .int _) R (by rw [e3.length]; rfl) h⟩
      | none =>
        rw [es] at e
        cases d with
        | ref a =>
          have e' : (match s.heap a with | some (.dK kvs) => some kvs.length | _ => none) = some n := e
          split at e'
          · rename_i kvs ha
            cases e'
            obtain ⟨p, rfl, e2⟩ := rv
            obtain ⟨q, h1, _, ws, h3, h4, h5⟩ := R.obj a _ ha
            rw [e2] at h1; cases h1
            have hl : ws.length = kvs.length := by have := congrArg List.length h4; simpa using this
            exact .inr (.inr ⟨p, ws, rfl, h3, post_ok (d := .int kvs.length) R (by rw [hl]; rfl) h⟩)
          · cases e'
        | _ => cases e
    cases d with
    | str y =>
      have e' : (if y.length ≤ LINE then some y.length else none) = some n := e
      by_cases hl : y.length ≤ LINE
      · rw [if_pos hl] at e'
        cases e'
        cases rv
        exact .inr (.inl ⟨y, rfl, hl, post_ok (d := .int _) R rfl h⟩)
      · rw [if_neg hl] at e'; cases e'
    | _ => exact gen e
/-! ### int, str -/
def intB (ds : List D) (s : S) : R D := match ds with
  | [.int i] => .ok (.int i) s
  | [.bl k] => .ok (.int (if k then 1 else 0)) s
  | _ => .bad
theorem opn_int {K : Frag} : OpN K (fun xs H Q => (∃ i, xs = [.int i] ∧ Q (.int i) H) ∨ ∃ k, xs = [.bl k] ∧ Q (.int (if k then 1 else 0)) H) intB := by
  intro W g s H σ ds vs Q R r h
  unfold intB at h
  split at h
  · obtain ⟨v, rfl, rv⟩ := one_of r rfl
    cases rv
    exact .inl ⟨_, rfl, post_ok (d := .int _) R rfl h⟩
  · obtain ⟨v, rfl, rv⟩ := one_of r rfl
    cases rv
    exact .inr ⟨_, rfl, post_ok (d := .int _) R rfl h⟩
  · exact h.elim
def strB (ds : List D) (s : S) : R D := match ds with
  | [.int i] => if i.natAbs.log2 < 1920 then .ok (.str (toString i)) s else .bad
  | _ => .bad
theorem opn_str {K : Frag} : OpN K (fun xs H Q => ∃ i : Int, xs = [.int i] ∧ i.natAbs.log2 < 1920 ∧ Q (.str (toString i)) H) strB := by
  intro W g s H σ ds vs Q R r h
  unfold strB at h
  split at h
  · rename_i i
    obtain ⟨v, rfl, rv⟩ := one_of r rfl
    cases rv
    by_cases hl : i.natAbs.log2 < 1920
    · rw [if_pos hl] at h
      exact ⟨_, rfl, hl, post_ok (d := .str _) R rfl h⟩
    · rw [if_neg hl] at h; exact h.elim
  · exact h.elim
/-! ### max, min of two -/
def max2F (ds : List D) (s : S) : R D := match ds with
  | [.int i, .int j] => .ok (.int (if j > i then j else i)) s
  | _ => .bad
def min2F (ds : List D) (s : S) : R D := match ds with
  | [.int i, .int j] => .ok (.int (if j < i then j else i)) s
  | _ => .bad
theorem opn_max2 {K : Frag} : OpN K (fun xs H Q => ∃ i j : Int, xs = [.int i, .int j] ∧ Q (.int (if j > i then j else i)) H) max2F := by
  intro W g s H σ ds vs Q R r h
  unfold max2F at h
  split at h
  · obtain ⟨v, w, rfl, rv, rw'⟩ := two_of r rfl
    cases rv; cases rw'
    exact ⟨_, _, rfl, post_ok (d := .int _) R rfl h⟩
  · exact h.elim
theorem opn_min2 {K : Frag} : OpN K (fun xs H Q => ∃ i j : Int, xs = [.int i, .int j] ∧ Q (.int (if j < i then j else i)) H) min2F := by
  intro W g s H σ ds vs Q R r h
  unfold min2F at h
  split at h
  · obtain ⟨v, w, rfl, rv, rw'⟩ := two_of r rfl
    cases rv; cases rw'
    exact ⟨_, _, rfl, post_ok (d := .int _) R rfl h⟩
  · exact h.elim
/-! ### tuple, list -/
/-- tuple(..); c: the new tuple is known to have no dict -/
def mkC (c : Bool) (ds : List D) : S → R D := fun s => if c then (if ds.length ≤ LINE then .ok (.ct ds) s else .bad) else mkT ds s
def tupB (c : Bool) (ds : List D) (s : S) : R D := match ds with
  | [.tup xs] => .ok (.tup xs) s
  | [.ct xs] => .ok (.ct xs) s
  | [d] => match lstOf d s with
    | some xs => mkC c xs s
    | none => .bad
  | _ => .bad
def rTupN (K : Frag) : List V → Hp → VK → Prop := fun xs H Q => ∃ p ys, xs = [.ref p] ∧ SqL K H p ys ∧ ∀ l o, H l = none → o.dict = none → Q (.ref l) (upd H l (.frz o (.tup ys)))
theorem call_tupleN {X : Cx} : CallR X (.type "tuple") (rTupN X.K) := by
  intro pins s σ H xs us Q I r h
  obtain ⟨p, ys, rfl, hq, q⟩ := h
  obtain ⟨u, rfl, rx⟩ := vals1 r
  cases rx
  obtain ⟨its, r', pl, hz⟩ := I.list hq
  have hlen := r'.length
  refine call_tuple_list pl.isList (fun h' kp => ?_) (by simp only [List.size_toArray] <;> omega)
  have I1 : Inv X pins σ H { s with heap := h' } := I.kept (t' := s.toks) kp
  have I2 : Inv X pins σ (upd H h'.objs.size (.frz { cls := .type "tuple", data := .seq its.toArray } (.tup ys))) { s with heap := h'.push { cls := .type "tuple", data := .seq its.toArray } } :=
    I1.laid (t' := s.toks) (fun b o e => Heap.get?_push_of_some _ e) (Nat.le_refl _) ⟨Heap.get?_push_size _ rfl, hz, its, r', IsTup.new _ _⟩
  exact ⟨.ref h'.objs.size, _, I2, rfl, q _ _ (I1.hok.fresh (Nat.le_refl _)) rfl⟩
def rTupB (K : Frag) : List V → Hp → VK → Prop := fun xs H Q => rTupN K xs H Q ∨ ∃ p ys, xs = [.ref p] ∧ ((SqL K H p ys ∧ ∀ l, H l = none → Q (.ref l) (upd H l (.tup ys))) ∨ (SqT K H p ys ∧ Q (.ref p) H))
theorem cr_tup {X : Cx} : CallR X (.type "tuple") (rTupB X.K) := CallR.or call_tupleN call_tuple_of
theorem post_mkC {K : Frag} {W : WX} {g : Gh} {s : S} {H : Hp} {σ : L2.St} {ds : List D} {vs : List V} {Q : VK} (R : Rel K g s H) (r : RDs K g H ds vs) (h : Post K W g H σ (RD K) (mkC true ds s) Q) (p : Addr) (o : Obj) (hp : H p = none) (ho : o.dict = none) : Q (.ref p) (upd H p (.frz o (.tup vs))) := by
  unfold mkC at h
  rw [if_pos rfl] at h
  by_cases hl : ds.length ≤ LINE
  · rw [if_pos hl] at h
    exact h g _ _ (stp_new R hp) (R.new hp) ⟨p, vs, rfl, .inl ⟨o, upd_same, ho⟩, RDs.mono (stp_new R hp).toStp0 _ _ r⟩
  · rw [if_neg hl] at h; exact h.elim
theorem opn_tup {K : Frag} {c : Bool} : OpN K (rTupB K) (tupB c) := by
  intro W g s H σ ds vs Q R r h
  unfold tupB at h
  split at h
  · rename_i xs
    obtain ⟨v, rfl, rv⟩ := one_of r rfl
    obtain ⟨p, ys, rfl, e2, e3⟩ := id rv
    exact .inr ⟨p, ys, rfl, .inr ⟨.of e2, post_ok R rv h⟩⟩
  · rename_i xs
    obtain ⟨v, rfl, rv⟩ := one_of r rfl
    obtain ⟨p, ys, rfl, e2, e3⟩ := id rv
    exact .inr ⟨p, ys, rfl, .inr ⟨e2.tup, post_ok R rv h⟩⟩
  · rename_i d _ _
    obtain ⟨v, rfl, rv⟩ := one_of r rfl
    cases e : lstOf d s with
    | none => rw [e] at h; exact h.elim
    | some xs =>
      rw [e] at h
      obtain ⟨p, ys, rfl, e2, e3⟩ := lst_ok R rv e
      cases c with
      | true => exact .inl ⟨p, ys, rfl, e2, post_mkC R e3 h⟩
      | false => exact .inr ⟨p, ys, rfl, .inl ⟨e2, fun l hl => (post_mkT R e3 h).2 l hl⟩⟩
  · exact h.elim
def keysD (kvs : List (Key × D)) : List D := kvs.map fun kv => dOfKey kv.1
def dKOf (d : D) (s : S) : Option (List (Key × D)) := match d with
  | .ref a => match s.heap a with
    | some (.dK kvs) => some kvs
    | _ => none
  | _ => none
theorem dK_ok {K : Frag} {g : Gh} {s : S} {H : Hp} {d : D} {v : V} {kvs : List (Key × D)} (R : Rel K g s H) (r : RD K g H d v) (e : dKOf d s = some kvs) :
    ∃ p ws, v = .ref p ∧ H p = some (.dK ws) ∧ ws.map (·.1) = kvs.map (·.1) ∧ RDs K g H (kvs.map (·.2)) (ws.map (·.2)) := by
  cases d with
  | ref a =>
    obtain ⟨p, rfl, e2⟩ := r
    have e' : (match s.heap a with | some (.dK kvs) => some kvs | _ => none) = some kvs := e
    split at e'
    · rename_i ks ha
      cases e'
      obtain ⟨q, h1, _, ws, h3, h4, h5⟩ := R.obj a _ ha
      rw [e2] at h1; cases h1
      exact ⟨p, ws, rfl, h3, h4, h5⟩
    · cases e'
  | _ => cases e
theorem rd_key {K : Frag} {g : Gh} {H : Hp} (k : Key) : RD K g H (dOfKey k) (kV k) := by cases k <;> rfl
theorem rds_keys {K : Frag} {g : Gh} {H : Hp} : ∀ {kvs : List (Key × D)} {ws : List (Key × V)}, ws.map (·.1) = kvs.map (·.1) → RDs K g H (keysD kvs) (ws.map fun kv => kV kv.1)
  | [], [], _ => rfl
  | [], _ :: _, e => by simp at e
  | _ :: _, [], e => by simp at e
  | a :: kvs, b :: ws, e => by
    simp only [List.map_cons, List.cons.injEq] at e
    refine ⟨_, _, rfl, ?_, rds_keys e.2⟩
    show RD K g H (dOfKey a.1) (kV b.1)
    rw [e.1]
    exact rd_key _
def lstB (m : Bool) (ds : List D) (s : S) : R D := match ds with
  | [d] => match seqOf d s with
    | some xs => mkL m xs s
    | none => match dKOf d s with
      | some kvs => mkL m (keysD kvs) s
      | none => .bad
  | _ => .bad
def rLstB (K : Frag) : List V → Hp → VK → Prop := fun xs H Q => (∃ p ys, xs = [.ref p] ∧ (SqL K H p ys ∨ SqT K H p ys) ∧ ∀ l, H l = none → Q (.ref l) (upd H l (.lst ys))) ∨ rListD xs H Q
theorem cr_list {X : Cx} (hc : X.calm = true) : CallR X (.type "list") (rLstB X.K) := CallR.or call_list_of (call_list_dK hc)
theorem opn_lst {K : Frag} {m : Bool} : OpN K (rLstB K) (lstB m) := by
  intro W g s H σ ds vs Q R r h
  unfold lstB at h
  split at h
  case h_2 => exact h.elim
  rename_i d
  obtain ⟨v, rfl, rv⟩ := one_of r rfl
  cases e : seqOf d s with
  | some xs =>
    rw [e] at h
    obtain ⟨p, ys, rfl, e2, e3⟩ := sq_ok R rv e
    exact .inl ⟨p, ys, rfl, e2, (post_mkL R e3 h).2⟩
  | none =>
    rw [e] at h
    cases e' : dKOf d s with
    | none => rw [e'] at h; exact h.elim
    | some kvs =>
      rw [e'] at h
      obtain ⟨p, ws, rfl, h3, h4, h5⟩ := dK_ok R rv e'
      exact .inr ⟨p, ws, rfl, h3, (post_mkL R (rds_keys h4) h).2⟩
/-! ### dict of pairs, of a dict -/
/-- a pair: a tuple of two, its first a key -/
def pairD (d : D) : Option (Key × D) := match d with
  | .tup [k, x] => (keyOf k).map fun k => (k, x)
  | .ct [k, x] => (keyOf k).map fun k => (k, x)
  | _ => none
def pairsD : List D → Option (List (Key × D))
  | [] => some []
  | d :: ds => match pairD d, pairsD ds with
    | some p, some ps => some (p :: ps)
    | _, _ => none
def mergeD (kvs more : List (Key × D)) : List (Key × D) := more.foldl (fun acc kv => putD acc kv.1 kv.2) kvs
def dicB (ds : List D) (s : S) : R D := match ds with
  | [d] => match seqOf d s with
    | some xs => match pairsD xs with
      | some ps => .ok (.ref s.next) (s.alloc (.dK (mergeD [] ps)))
      | none => .bad
    | none => match dicOf d s with
      | some kvs => .ok (.ref s.next) (s.alloc (.dK kvs))
      | none => .bad
  | _ => .bad
theorem pairs_vals {h : Heap} : ∀ {prs : List (Key × Value)} {ps : List Addr}, prs.length = ps.length → (∀ (j : Nat) (q : Key × Value), prs[j]? = some q → ∃ (b : Addr) (u : Value), ps[j]? = some b ∧ IsTup h b #[u, q.2] ∧ keyIs q.1 u = true) →
    ∃ kus : List (Value × Value), kus.length = ps.length ∧ ∀ (j : Nat) (k v : Value), kus[j]? = some (k, v) → ∃ (b : Addr) (q : Key × Value), ps[j]? = some b ∧ prs[j]? = some q ∧ q.2 = v ∧ IsTup h b #[k, v] ∧ keyIs q.1 k = true
  | [], ps, hl, key => ⟨[], by simpa using hl, fun j k v e => by simp at e⟩
  | q0 :: prs, [], hl, key => by simp at hl
  | q0 :: prs, p0 :: ps, hl, key => by
    obtain ⟨b, u, e1, e2, e3⟩ := key 0 q0 rfl
    obtain ⟨kus, h1, h2⟩ := pairs_vals (prs := prs) (ps := ps) (by simpa using hl) (fun j q e => by simpa using key (j + 1) q (by simpa using e))
    refine ⟨(u, q0.2) :: kus, by simp [h1], fun j k v e => ?_⟩
    cases j with
    | zero =>
      simp at e
      obtain ⟨rfl, rfl⟩ := e
      have eb : p0 = b := by simpa using e1
      subst eb
      exact ⟨p0, q0, rfl, rfl, rfl, e2, e3⟩
    | succ j =>
      obtain ⟨b, q, f1, f2, f3⟩ := h2 j k v (by simpa using e)
      exact ⟨b, q, by simpa using f1, by simpa using f2, f3⟩
/-- dict(t) of a tuple of pairs that has no dict -/
def rDictT (K : Frag) : List V → Hp → VK → Prop := fun xs H Q => ∃ (a : Addr) (ps : List Addr) (kvs : List (Key × V)), xs = [.ref a] ∧ SqC K H a (ps.map V.ref) ∧ Paired (fun p kv => SqT K H p [kV kv.1, kv.2]) ps kvs ∧
    ∀ p, H p = none → Q (.ref p) (upd H p (.dK (mergeK [] kvs)))
theorem vals_eq {xs : List V} : ∀ {ys : List Value}, Vals xs ys → ∀ {zs : List V}, zs = xs → Vals zs ys := fun h _ e => e ▸ h
theorem call_dictT {X : Cx} (hcalm : X.calm = true) : CallR X (.type "dict") (rDictT X.K) := by
  intro pins s σ H xs us Q I r q
  obtain ⟨a, ps, kvs, ex, hq, hp, q⟩ := q
  subst ex
  obtain ⟨u, eu, rx⟩ := vals1 r
  subst eu
  cases rx
  have plain : ∃ its : List Value, Vals (ps.map V.ref) its ∧ PlainSeq "tuple" s.heap a its.toArray ∧ (ps.map V.ref).length ≤ sizeLine := by
    rcases hq with ⟨o, h1, h2⟩ | ⟨o, its, n, h1, h2, h3, h4, h5, h6⟩
    · obtain ⟨hg, hz, its, rv, o', g1, g2, n, g3⟩ := I.hok a _ h1
      rw [hg] at g1
      cases g1
      exact ⟨its, rv, ⟨o, n, hg, g2, h2, g3⟩, hz⟩
    · refine ⟨its.toList, h6, ⟨o, n, I.kIn a o h1, h2, h3, by rw [Array.toArray_toList]; exact h4⟩, ?_⟩
      rw [h6.length, Array.length_toList]
      exact h5
  obtain ⟨its, rv, pl, hz⟩ := plain
  have ei := refs_at rv
  subst ei
  rw [List.length_map] at hz
  obtain ⟨prs, rel, hl, hpr⟩ := pairs_of I hp
  obtain ⟨kus, hk1, hk2⟩ := pairs_vals hl hpr
  have at_ : ∀ j : Nat, (ps.map Value.ref).toArray[j]? = (ps[j]?).map Value.ref := fun j => by rw [← Array.getElem?_toList, List.toList_toArray, List.getElem?_map]
  have pit : PairItems s.heap (ps.map Value.ref).toArray (fun j => (ps[j]?).getD 0) kus := by
    refine ⟨by simp [hk1], fun j k v e => ?_⟩
    obtain ⟨b, q, f1, f2, f3, f4, f5⟩ := hk2 j k v e
    have ej : (ps[j]?).getD 0 = b := by rw [f1]; rfl
    refine ⟨by rw [at_, f1]; show some (Value.ref b) = some (Value.ref ((ps[j]?).getD 0)); rw [ej], .inl ?_⟩
    show s.heap.IsTuple ((ps[j]?).getD 0) #[k, v]
    rw [ej]
    obtain ⟨o, g1, g2, n, g3⟩ := f4
    exact ⟨o, g1, g2, n, g3⟩
  have hm : (s.heap.objs.size == sysModules) = false := beq_eq_false_iff_ne.mpr (Nat.ne_of_gt I.big)
  have hlen : (mergeK [] kvs).length ≤ sizeLine := by
    refine Nat.le_trans (length_mergeK kvs []) ?_
    rw [List.length_nil, Nat.zero_add, rel.length, hl]
    exact hz
  refine PySem.call_dict_pairs (knd := mixKind X.prog X.w) (kvs := prs) (PairArg.tuple a (ps.map Value.ref).toArray (fun j => (ps[j]?).getD 0) kus) (I.ok.hd hcalm) ⟨pl, pit⟩ ⟨by rw [hl, hk1], fun i k v e => ?_⟩ (by rw [hk1]; exact hz) fun h' tk hd' kp => ?_
  · obtain ⟨b, q, f1, f2, f3, f4, f5⟩ := hk2 i k v e
    subst f3
    exact ⟨q.1, f2, f5⟩
  · exact ⟨.ref s.heap.objs.size, upd H s.heap.objs.size (.dK (mergeK [] kvs)), I.laid (t' := tk) (fun b o e => kp b o (by simp) e) (Nat.le_refl _) (show ObjOk X.prog X.w _ _ _ (.dK (mergeK [] kvs)) from ⟨hlen, hm, merged [] prs, KV.merge rel .nil, hd'⟩), rfl, q _ (I.hok.fresh (Nat.le_refl _))⟩
def rDictP (K : Frag) : List V → Hp → VK → Prop := fun xs H Q => ∃ (a : Addr) (ps : List Addr) (kvs : List (Key × V)), xs = [.ref a] ∧ SqL K H a (ps.map V.ref) ∧ Paired (fun p kv => SqT K H p [kV kv.1, kv.2]) ps kvs ∧
    ∀ p, H p = none → Q (.ref p) (upd H p (.dK (mergeK [] kvs)))
def rDictD : List V → Hp → VK → Prop := fun xs H Q => ∃ (a : Addr) (kvs : List (Key × V)), xs = [.ref a] ∧ Rd H a (.dK kvs) ∧ ∀ p, H p = none → Q (.ref p) (upd H p (.dK kvs))
def rDictB (K : Frag) : List V → Hp → VK → Prop := fun xs H Q => rDictP K xs H Q ∨ rDictT K xs H Q ∨ rDictD xs H Q
theorem cr_dict {X : Cx} (hc : X.calm = true) : CallR X (.type "dict") (rDictB X.K) := CallR.or (call_dictP hc) (CallR.or (call_dictT hc) call_dictD)
/-- seqs that dict(..) is told of -/
def dseqOf (d : D) (s : S) : Option (List D) := match d with
  | .ct ds => some ds
  | d => lstOf d s
def dicF (ds : List D) (s : S) : R D := match ds with
  | [d] => match dseqOf d s with
    | some xs => match pairsD xs with
      | some ps => .ok (.ref s.next) (s.alloc (.dK (mergeD [] ps)))
      | none => .bad
    | none => match dicOf d s with
      | some kvs => .ok (.ref s.next) (s.alloc (.dK kvs))
      | none => .bad
  | _ => .bad
section
variable {K : Frag} {g : Gh} {s : S} {H : Hp}
theorem pair_ok {d : D} {v : V} {p : Key × D} (r : RD K g H d v) (e : pairD d = some p) : ∃ a w, v = .ref a ∧ SqT K H a [kV p.1, w] ∧ RD K g H p.2 w := by
  unfold pairD at e
  split at e
  · rename_i k x
    obtain ⟨k', hk, rfl⟩ := Option.map_eq_some_iff.mp e
    obtain ⟨a, vs, rfl, h1, h2⟩ := r
    obtain ⟨v, w, rfl, h3, h4⟩ := two_of h2 rfl
    cases keyOf_ok h3 hk
    exact ⟨a, w, rfl, .of h1, h4⟩
  · rename_i k x
    obtain ⟨k', hk, rfl⟩ := Option.map_eq_some_iff.mp e
    obtain ⟨a, vs, rfl, h1, h2⟩ := r
    obtain ⟨v, w, rfl, h3, h4⟩ := two_of h2 rfl
    cases keyOf_ok h3 hk
    exact ⟨a, w, rfl, h1.tup, h4⟩
  · cases e
theorem pairs_ok : ∀ {ds : List D} {vs : List V} {ps : List (Key × D)}, RDs K g H ds vs → pairsD ds = some ps →
    ∃ (as : List Addr) (ws : List (Key × V)), vs = as.map V.ref ∧ Paired (fun p kv => SqT K H p [kV kv.1, kv.2]) as ws ∧ ws.map (·.1) = ps.map (·.1) ∧ RDs K g H (ps.map (·.2)) (ws.map (·.2))
  | [], vs, ps, r, e => by cases e; cases r; exact ⟨[], [], rfl, .nil, rfl, rfl⟩
  | d :: ds, vs, ps, r, e => by
    obtain ⟨v, us, rfl, h1, h2⟩ := r
    have e' : (match pairD d, pairsD ds with | some p, some ps => some (p :: ps) | _, _ => none) = some ps := e
    split at e'
    · rename_i p qs hp hq
      cases e'
      obtain ⟨a, w, rfl, e2, e3⟩ := pair_ok h1 hp
      obtain ⟨as, ws, rfl, f1, f2, f3⟩ := pairs_ok h2 hq
      exact ⟨a :: as, (p.1, w) :: ws, rfl, .cons e2 f1, by simp [f2], .cons e3 f3⟩
    · cases e'
theorem merge_rel : ∀ {ps : List (Key × D)} {ws : List (Key × V)} {kvs : List (Key × D)} {us : List (Key × V)}, ws.map (·.1) = ps.map (·.1) → RDs K g H (ps.map (·.2)) (ws.map (·.2)) → us.map (·.1) = kvs.map (·.1) → RDs K g H (kvs.map (·.2)) (us.map (·.2)) →
    (mergeK us ws).map (·.1) = (mergeD kvs ps).map (·.1) ∧ RDs K g H ((mergeD kvs ps).map (·.2)) ((mergeK us ws).map (·.2))
  | [], [], kvs, us, _, _, h3, h4 => ⟨h3, h4⟩
  | [], _ :: _, _, _, e, _, _, _ => by simp at e
  | _ :: _, [], _, _, e, _, _, _ => by simp at e
  | p :: ps, w :: ws, kvs, us, h1, h2, h3, h4 => by
    simp only [List.map_cons, List.cons.injEq] at h1
    obtain ⟨v, rs, e, f1, f2⟩ := h2
    simp only [List.map_cons, List.cons.injEq] at e
    obtain ⟨e1, e2⟩ := e
    obtain ⟨k1, k2⟩ := putK_rel (d := p.2) (v := w.2) p.1 (by rw [e1]; exact f1) h3 h4
    have ek : w.1 = p.1 := h1.1
    unfold mergeK mergeD
    rw [List.foldl_cons, List.foldl_cons, ek]
    exact merge_rel h1.2 (by rw [e2]; exact f2) k1 k2
end
theorem post_dnew {K : Frag} {W : WX} {g : Gh} {s : S} {H : Hp} {σ : L2.St} {kvs : List (Key × D)} {ws : List (Key × V)} {Q : VK} (R : Rel K g s H) (e : ws.map (·.1) = kvs.map (·.1)) (r : RDs K g H (kvs.map (·.2)) (ws.map (·.2)))
    (h : Post K W g H σ (RD K) (.ok (.ref s.next) (s.alloc (.dK kvs))) Q) (p : Addr) (hp : H p = none) : Q (.ref p) (upd H p (.dK ws)) := by
  have st := stp_add (o := .dK ws) R hp
  exact h (g.add s.next p) _ _ st (R.add hp ⟨ws, upd_same, e, RDs.mono st.toStp0 _ _ r⟩) ⟨p, rfl, if_pos rfl⟩
theorem opn_dict {K : Frag} : OpN K (rDictB K) dicF := by
  intro W g s H σ ds vs Q R r h
  unfold dicF at h
  split at h
  case h_2 => exact h.elim
  rename_i d
  obtain ⟨v, rfl, rv⟩ := one_of r rfl
  cases e : dseqOf d s with
  | some xs =>
    rw [e] at h
    cases e2 : pairsD xs with
    | none => simp only [e2] at h; exact h.elim
    | some ps =>
      simp only [e2] at h
      have sq : ∃ p vs, v = .ref p ∧ (SqL K H p vs ∨ SqC K H p vs) ∧ RDs K g H xs vs := by
        cases d with
        | ct ys => cases e; obtain ⟨p, vs, e1, e2, e3⟩ := rv; exact ⟨p, vs, e1, .inr e2, e3⟩
        | _ => obtain ⟨p, vs, e1, e2, e3⟩ := lst_ok R rv e; exact ⟨p, vs, e1, .inl e2, e3⟩
      obtain ⟨p, vs, rfl, e3, e4⟩ := sq
      obtain ⟨as, ws, rfl, f1, f2, f3⟩ := pairs_ok e4 e2
      obtain ⟨k1, k2⟩ := merge_rel (kvs := []) (us := []) f2 f3 rfl rfl
      rcases e3 with e3 | e3
      · exact .inl ⟨p, as, ws, rfl, e3, f1, fun q hq => post_dnew R k1 k2 h q hq⟩
      · exact .inr (.inl ⟨p, as, ws, rfl, e3, f1, fun q hq => post_dnew R k1 k2 h q hq⟩)
  | none =>
    rw [e] at h
    cases e' : dicOf d s with
    | none => simp only [e'] at h; exact h.elim
    | some kvs =>
      simp only [e'] at h
      obtain ⟨p, ws, rfl, h3, h4, h5⟩ := dic_ok R rv e'
      exact .inr (.inr ⟨p, ws, rfl, h3, fun q hq => post_dnew R h4 h5 h q hq⟩)
open PySem.W (AllAlike Sortable dataLe EachIs sorted_data)
/-! ### sorted: a list of data, or a dict's keys that are texts -/
def rSortD (K : Frag) : List V → Hp → VK → Prop := fun xs H Q => ∃ (a : Addr) (vs : List V) (ps : List PyData), xs = [.ref a] ∧ SqL K H a vs ∧ DpAll K H vs ps ∧ AllAlike ps ∧ Sortable ps ∧ (∀ p ∈ ps, p.depth ≤ 60) ∧
  ∀ l, H l = none → Q (.ref l) (upd H l (.lst (((vs.zip ps).mergeSort (dataLe false (·.2))).map (·.1))))
theorem dpAll_len {K : Frag} {H : Hp} : ∀ {vs : List V} {ps : List PyData}, DpAll K H vs ps → vs.length = ps.length
  | _, _, .nil => rfl
  | _, _, .cons _ t => by simp [dpAll_len t]
theorem dpAll_reads {X : Cx} {pins : List (Addr × Obj)} {σ : L2.St} {H : Hp} {s : Shared} (I : Inv X pins σ H s) : ∀ {vs : List V} {ps : List PyData} {us : List Value}, DpAll X.K H vs ps → Vals vs us →
    EachIs (fun u (q : V × PyData) => RelV q.1 u) us (vs.zip ps) ∧ EachIs (fun u (q : V × PyData) => ∃ as, Reads s.heap u q.2 as) us (vs.zip ps)
  | _, _, _, .nil, .nil => ⟨.nil, .nil⟩
  | _, _, _, .cons h t, .cons r q => ⟨.cons r (dpAll_reads I t q).1, .cons (Dp.reads I _ _ _ h r) (dpAll_reads I t q).2⟩
theorem vals_each : ∀ {us : List Value} {qs : List (V × PyData)}, EachIs (fun u (q : V × PyData) => RelV q.1 u) us qs → Vals (qs.map (·.1)) us
  | _, _, .nil => .nil
  | _, _, .cons h t => .cons h (vals_each t)
theorem cr_sortD {X : Cx} (hu : X.A.units + 64 < cLine) : CallR X (.builtin "sorted") (rSortD X.K) := by
  intro pins s σ H xs us Q I r h
  obtain ⟨a, vs, ps, rfl, hs, hd, hal, hk, hdep, q⟩ := h
  obtain ⟨u, rfl, rx⟩ := vals1 r
  cases rx
  obtain ⟨its, rv, pl, hz⟩ := I.list hs
  have hl := dpAll_len hd
  have hzl : (vs.zip ps).length = vs.length := by rw [List.length_zip, ← hl, Nat.min_self]
  have hmap : (vs.zip ps).map (·.2) = ps := List.map_snd_zip (by omega)
  obtain ⟨e1, e2⟩ := dpAll_reads I hd rv
  refine sorted_data (bs := vs.zip ps) (enc := (·.2)) pl.isList e1 e2 (by rw [hmap]; exact hal) (by rw [hmap]; exact hk) (by rw [hzl]; exact hz) (fun b hb => ?_) fun out h1 h2 => ?_
  · have := hdep b.2 (by rw [← hmap]; exact List.mem_map.mpr ⟨b, hb, rfl⟩)
    omega
  · obtain ⟨ep, he'⟩ := PyProof.Rows.sortedAll_at s.heap its out.toArray
    have hv := vals_each h2
    have hlen : (((vs.zip ps).mergeSort (dataLe false (·.2))).map (·.1)).length ≤ sizeLine := by rw [List.length_map, List.length_mergeSort, hzl]; exact hz
    exact ⟨.ref _, upd H (s.heap.objs.size + 1) (.lst (((vs.zip ps).mergeSort (dataLe false (·.2))).map (·.1))), I.laid (t' := s.toks) (fun _ _ => PyProof.Rows.sortedAll_old) (Nat.le_succ _) ⟨hlen, out, ep, hv, he'⟩, rfl, q _ (I.hok.fresh (Nat.le_succ _))⟩
theorem merge3 {ds : List D} {vs : List V} {ps : List PyData} (h1 : ds.length = ps.length) (h2 : vs.length = ps.length) :
    ∃ ts : List (D × V × PyData), ((ds.zip ps).mergeSort (dataLe false (·.2))) = ts.map (fun t => (t.1, t.2.2)) ∧ ((vs.zip ps).mergeSort (dataLe false (·.2))) = ts.map (fun t => (t.2.1, t.2.2)) ∧ ts.Perm (ds.zip (vs.zip ps)) := by
  refine ⟨(ds.zip (vs.zip ps)).mergeSort (dataLe false (·.2.2)), ?_, ?_, List.mergeSort_perm _ _⟩
  · have e : (ds.zip (vs.zip ps)).map (fun t => (t.1, t.2.2)) = ds.zip ps := by
      induction ds generalizing vs ps with
      | nil => simp
      | cons d ds ih => cases ps with
        | nil => simp at h1
        | cons p ps => cases vs with
          | nil => simp at h2
          | cons v vs => simpa using ih (by simpa using h1) (by simpa using h2)
    rw [List.map_mergeSort (r := dataLe false fun t : D × V × PyData => t.2.2) (s := dataLe false fun t : D × PyData => t.2) (fun a _ b _ => rfl), e]
  · have e : (ds.zip (vs.zip ps)).map (fun t => (t.2.1, t.2.2)) = vs.zip ps := by
      have : (vs.zip ps).length ≤ ds.length := by rw [List.length_zip]; omega
      exact List.map_snd_zip this
    rw [List.map_mergeSort (r := dataLe false fun t : D × V × PyData => t.2.2) (s := dataLe false fun t : V × PyData => t.2) (fun a _ b _ => rfl), e]
theorem rds_perm {K : Frag} {g : Gh} {H : Hp} {ds : List D} {vs : List V} (r : RDs K g H ds vs) : ∀ {p : D × V}, p ∈ ds.zip vs → RD K g H p.1 p.2 := by
  induction ds generalizing vs with
  | nil => intro p hp; simp at hp
  | cons d ds ih =>
    obtain ⟨v, us, rfl, h1, h2⟩ := r
    intro p hp
    rcases List.mem_cons.mp hp with e | hp
    · subst e; exact h1
    · exact ih h2 hp
theorem rds_map {K : Frag} {g : Gh} {H : Hp} {α : Type} {f : α → D} {k : α → V} : ∀ {ts : List α}, (∀ t ∈ ts, RD K g H (f t) (k t)) → RDs K g H (ts.map f) (ts.map k)
  | [], _ => rfl
  | t :: ts, h => .cons (h t List.mem_cons_self) (rds_map fun t ht => h t (List.mem_cons_of_mem _ ht))
open Classical in
noncomputable def sortDs (ds : List D) : Option (List D) := match pyL ds with
  | some ps => if PyData.canLayAll0 ps = true ∧ AllAlike ps ∧ Sortable ps ∧ ∀ p ∈ ps, p.depth ≤ 60 then some (((ds.zip ps).mergeSort (dataLe false (·.2))).map (·.1)) else none
  | none => none
def strsOf : List D → Option (List Str)
  | [] => some []
  | .str x :: ds => (strsOf ds).map (x :: ·)
  | _ :: _ => none
def leStr (x y : Str) : Bool := !decide (y.cps.toList < x.cps.toList)
noncomputable def sortB (m : Bool) (ds : List D) (s : S) : R D := match ds with
  | [d] => match lstOf d s with
    | some xs => match sortDs xs with
      | some ys => mkL m ys s
      | none => .bad
    | none => match dicOf d s with
      | some kvs => match strsOf (keysD kvs) with
        | some ks => if ks.length < 64 then mkL m ((ks.mergeSort leStr).map .str) s else .bad
        | none => .bad
      | none => .bad
  | _ => .bad
theorem pyL_len : ∀ {ds : List D} {ps : List PyData}, pyL ds = some ps → ds.length = ps.length
  | [], ps, e => by cases e; rfl
  | d :: ds, ps, e => by
    have e' : (match pyD d, pyL ds with | some p, some ps => some (p :: ps) | _, _ => none) = some ps := e
    split at e'
    · rename_i p qs hp hq
      cases e'
      simp [pyL_len hq]
    · cases e'
theorem sortDs_ok {K : Frag} {g : Gh} {H : Hp} {ds ys : List D} {vs : List V} (r : RDs K g H ds vs) (e : sortDs ds = some ys) : ∃ ps, DpAll K H vs ps ∧ AllAlike ps ∧ Sortable ps ∧ (∀ p ∈ ps, p.depth ≤ 60) ∧ RDs K g H ys (((vs.zip ps).mergeSort (dataLe false (·.2))).map (·.1)) := by
  unfold sortDs at e
  split at e
  · rename_i ps hp
    split at e
    · rename_i c
      cases e
      refine ⟨ps, dps_of ds vs ps r hp c.1, c.2.1, c.2.2.1, c.2.2.2, ?_⟩
      have hl := pyL_len hp
      obtain ⟨ts, t1, t2, t3⟩ := merge3 (vs := vs) hl (by rw [← r.length]; exact hl)
      rw [t1, t2, List.map_map, List.map_map]
      refine rds_map fun t ht => ?_
      have ht' := t3.mem_iff.mp ht
      refine rds_perm r (p := (t.1, t.2.1)) ?_
      obtain ⟨d, v, p⟩ := t
      obtain ⟨i, hi, hg⟩ := List.getElem_of_mem ht'
      have h1 := hg
      rw [List.getElem_zip, List.getElem_zip] at h1
      simp only [Prod.mk.injEq] at h1
      simp only [List.length_zip] at hi
      refine List.mem_iff_getElem.mpr ⟨i, by rw [List.length_zip]; omega, ?_⟩
      rw [List.getElem_zip, h1.1, h1.2.1]
    · cases e
  · cases e
theorem strsOf_ok : ∀ {ds : List D} {ks : List Str}, strsOf ds = some ks → ds = ks.map .str
  | [], ks, e => by cases e; rfl
  | .str x :: ds, ks, e => by
    obtain ⟨ks', h, rfl⟩ := Option.map_eq_some_iff.mp e
    rw [strsOf_ok h]
    rfl
  | .non :: _, _, e => by cases e
  | .bl _ :: _, _, e => by cases e
  | .int _ :: _, _, e => by cases e
  | .tup _ :: _, _, e => by cases e
  | .ct _ :: _, _, e => by cases e
  | .lv _ :: _, _, e => by cases e
  | .sc _ :: _, _, e => by cases e
  | .dv _ _ :: _, _, e => by cases e
  | .ref _ :: _, _, e => by cases e
theorem keys_strs : ∀ {kvs : List (Key × D)} {ks : List Str}, keysD kvs = ks.map D.str → kvs.map (·.1) = ks.map Sum.inr
  | [], [], _ => rfl
  | [], _ :: _, e => by simp [keysD] at e
  | _ :: _, [], e => by simp [keysD] at e
  | kv :: kvs, k :: ks, e => by
    obtain ⟨key, v⟩ := kv
    simp only [keysD, List.map_cons, List.cons.injEq] at e
    cases key with
    | inl i => cases e.1
    | inr x =>
      have e1 : x = k := by have := e.1; simpa [dOfKey] using this
      subst e1
      rw [List.map_cons, List.map_cons, keys_strs (kvs := kvs) e.2]
theorem rising_pw : ∀ {xs : List Str} {p : Str}, risingS p xs = true → leStr p (xs.headD p) = true ∧ sortedS xs = true := by
  intro xs p h
  cases xs with
  | nil =>
    refine ⟨?_, rfl⟩
    unfold leStr
    have : ¬ (p.cps.toList < p.cps.toList) := List.lt_irrefl _
    simp [this]
  | cons x r =>
    unfold risingS at h
    rw [Bool.and_eq_true] at h
    refine ⟨?_, h.2⟩
    unfold leStr
    rw [← PyProof.Rows.ltCps_eq]
    exact h.1
theorem leStr_trans (a b c : Str) (h1 : leStr a b = true) (h2 : leStr b c = true) : leStr a c = true := by
  unfold leStr at *
  simp only [Bool.not_eq_true', decide_eq_false_iff_not] at *
  have h1' : a.cps.toList ≤ b.cps.toList := h1
  have h2' : b.cps.toList ≤ c.cps.toList := h2
  exact (List.le_trans h1' h2' : a.cps.toList ≤ c.cps.toList)
theorem leStr_total (a b : Str) : (leStr a b || leStr b a) = true := by
  unfold leStr
  simp only [Bool.or_eq_true, Bool.not_eq_true', decide_eq_false_iff_not]
  exact (List.le_total a.cps.toList b.cps.toList : a.cps.toList ≤ b.cps.toList ∨ b.cps.toList ≤ a.cps.toList)
theorem leStr_anti {a b : Str} (h1 : leStr a b = true) (h2 : leStr b a = true) : a = b := by
  unfold leStr at *
  simp only [Bool.not_eq_true', decide_eq_false_iff_not] at *
  have h : a.cps.toList = b.cps.toList := List.le_antisymm (h1 : a.cps.toList ≤ b.cps.toList) h2
  obtain ⟨⟨x⟩⟩ := a
  obtain ⟨⟨y⟩⟩ := b
  simpa using h
theorem sortedS_pw : ∀ {xs : List Str}, sortedS xs = true → xs.Pairwise fun a b => leStr a b = true
  | [], _ => .nil
  | [x], _ => List.pairwise_singleton _ _
  | x :: y :: r, h => by
    have h' : risingS x (y :: r) = true := h
    obtain ⟨h1, h2⟩ := rising_pw h'
    have ih := sortedS_pw h2
    refine List.pairwise_cons.mpr ⟨fun z hz => ?_, ih⟩
    rcases List.mem_cons.mp hz with e | hz
    · subst e; exact h1
    · exact leStr_trans _ _ _ h1 ((List.pairwise_cons.mp ih).1 z hz)
theorem sort_uniq {ks ys : List Str} (hp : ys.Perm ks) (hs : sortedS ys = true) : ys = ks.mergeSort leStr := by
  refine List.Perm.eq_of_pairwise (le := fun a b => leStr a b = true) (fun a b _ _ h1 h2 => leStr_anti h1 h2) (sortedS_pw hs) ?_ (hp.trans (List.mergeSort_perm _ _).symm)
  exact List.pairwise_mergeSort leStr_trans leStr_total ks
def rSortK (K : Frag) : List V → Hp → VK → Prop := fun xs H Q => ∃ (a : Addr) (kvs : List (Key × V)) (ks : List Str), xs = [.ref a] ∧ Rd H a (.dK kvs) ∧ kvs.map (·.1) = ks.map Sum.inr ∧ ks.length < 64 ∧
    ∀ ys p, ys.Perm ks → sortedS ys = true → H p = none → Q (.ref p) (upd H p (.lst (ys.map V.str)))
def rSortB (K : Frag) : List V → Hp → VK → Prop := fun xs H Q => rSortD K xs H Q ∨ rSortK K xs H Q
theorem cr_sort {X : Cx} (hu : X.A.units + 64 < cLine) (hc : X.calm = true) : CallR X (.builtin "sorted") (rSortB X.K) := CallR.or (cr_sortD hu) (call_sortedD hc)
theorem opn_sort {K : Frag} {m : Bool} : OpN K (rSortB K) (sortB m) := by
  intro W g s H σ ds vs Q R r h
  unfold sortB at h
  split at h
  case h_2 => exact h.elim
  rename_i d
  obtain ⟨v, rfl, rv⟩ := one_of r rfl
  cases e : lstOf d s with
  | some xs =>
    rw [e] at h
    obtain ⟨p, us, rfl, e2, e3⟩ := lst_ok R rv e
    cases es : sortDs xs with
    | none => simp only [es] at h; exact h.elim
    | some ys =>
      simp only [es] at h
      obtain ⟨ps, h1, h2, h3, h4, h5⟩ := sortDs_ok e3 es
      exact .inl ⟨p, us, ps, rfl, e2, h1, h2, h3, h4, (post_mkL R h5 h).2⟩
  | none =>
    rw [e] at h
    cases e' : dicOf d s with
    | none => simp only [e'] at h; exact h.elim
    | some kvs =>
      simp only [e'] at h
      cases ek : strsOf (keysD kvs) with
      | none => simp only [ek] at h; exact h.elim
      | some ks =>
        simp only [ek] at h
        obtain ⟨p, ws, rfl, h3, h4, h5⟩ := dic_ok R rv e'
        by_cases hl : ks.length < 64
        · rw [if_pos hl] at h
          refine .inr ⟨p, ws, ks, rfl, h3, h4.trans (keys_strs (strsOf_ok ek)), hl, fun ys q hp hs hq => ?_⟩
          have e2 := sort_uniq hp hs
          subst e2
          exact (post_mkL (ds := (ks.mergeSort leStr).map D.str) (vs := (ks.mergeSort leStr).map V.str) R (rds_map fun t _ => rfl) h).2 q hq
        · rw [if_neg hl] at h; exact h.elim
end Co
namespace Co
open PySem PySem.Spec PyProof.Rows L2
/-! ### repr -/
def scalP : PyData → Bool
  | .none | .bool _ | .int _ | .str _ => true
  | _ => false
/-- a value that is no object, and its data -/
def scalV : V → Option PyData
  | .non => some .none
  | .bl b => some (.bool b)
  | .int i => some (.int i)
  | .str x => some (.str x)
  | _ => none
def scalVs : List V → Option (List PyData)
  | [] => some []
  | v :: vs => match scalV v, scalVs vs with
    | some p, some ps => some (p :: ps)
    | _, _ => none
def reprOk (p : PyData) : Prop := p.showable = true ∧ p.depth ≤ 60 ∧ p.shown.length ≤ sizeLine
instance (p : PyData) : Decidable (reprOk p) := by unfold reprOk; exact inferInstance
def rRepr (K : Frag) : List V → Hp → VK → Prop := fun xs H Q =>
  (∃ v p, xs = [v] ∧ Dp K H v p ∧ p.hasDict = false ∧ reprOk p ∧ Q (.str p.shown) H) ∨
  ∃ a kvs ps, xs = [.ref a] ∧ Rd H a (.dK kvs) ∧ scalVs (kvs.map (·.2)) = some ps ∧ reprOk (.dict ((kvs.map fun kv => pyKey kv.1).zip ps)) ∧ Q (.str (PyData.dict ((kvs.map fun kv => pyKey kv.1).zip ps)).shown) H
theorem scal_reads {h : Heap} {v : V} {u : Value} {p : PyData} (e : scalV v = some p) (r : RelV v u) : Reads h u p [] := by
  cases v with
  | non => cases e; cases r; exact .none
  | bl b => cases e; cases r; exact .bool b
  | int i => cases e; obtain ⟨t, rfl⟩ := r; exact .int i t
  | str x => cases e; obtain ⟨t, rfl⟩ := r; exact .str x t
  | _ => cases e
theorem key_reads {h : Heap} {k : Key} {u : Value} (r : keyIs k u = true) : Reads h u (pyKey k) [] := by
  rcases keyIs_shape r with ⟨i, t, rfl, rfl⟩ | ⟨x, t, rfl, rfl⟩
  · exact .int i t
  · exact .str x t
theorem pairs_reads {P : Program} {w : World} {h : Heap} : ∀ {kvs : List (Key × V)} {vs : List (Key × Value)} {es : List DictEntry} {ps : List PyData}, KV kvs vs → Pairs (mixKind P w) es vs → scalVs (kvs.map (·.2)) = some ps →
    ReadsAll h (es.map (·.key)) (((kvs.map fun kv => pyKey kv.1).zip ps).map (·.1)) [] ∧ ReadsAll h (es.map (·.val)) (((kvs.map fun kv => pyKey kv.1).zip ps).map (·.2)) []
  | [], vs, es, ps, r, q, e => by
    cases r
    cases q
    cases e
    exact ⟨.nil, .nil⟩
  | kv :: kvs, vs, es, ps, r, q, e => by
    cases r with
    | cons h1 r =>
      cases q with
      | cons h2 h3 q =>
        have e' : (match scalV kv.2, scalVs (kvs.map (·.2)) with | some p, some ps => some (p :: ps) | _, _ => none) = some ps := e
        split at e'
        · rename_i p qs hp hq
          cases e'
          obtain ⟨i1, i2⟩ := pairs_reads (h := h) r q hq
          obtain ⟨j1, j2⟩ := h1
          refine ⟨ReadsAll.cons (as := []) (bs := []) (key_reads (by rw [j1]; exact h2)) i1, ReadsAll.cons (as := []) (bs := []) (scal_reads hp (by show L2.RelV kv.2 _; simp only [h3]; exact j2)) i2⟩
        · cases e'
theorem cr_repr {X : Cx} (hg : X.A.guards = some []) (hu : X.A.units + 64 < cLine) : CallR X (.builtin "repr") (rRepr X.K) := by
  intro pins s σ H xs us Q I r h
  rcases h with ⟨v, p, rfl, hd, hnd, ⟨hs, hdep, hsz⟩, q⟩ | ⟨a, kvs, ps, rfl, hd, hps, ⟨hs, hdep, hsz⟩, q⟩
  · obtain ⟨u, rfl, rx⟩ := vals1 r
    have ref : ∀ a : Addr, u = .ref a → wpAny (model X.prog X.w) X.A (call (.builtin "repr") [u]) (EP X pins σ Q) X.xe s := by
      intro a ea
      subst ea
      obtain ⟨as, rd⟩ := Dp.reads I p v _ hd rx
      exact repr_of_reads' rd hs (PyData.noDict_hsm hnd) hg (by omega) (fun _ _ e => e) (fun h' u tk hk => ⟨.str p.shown, H, I.kept hk, ⟨_, rfl⟩, q⟩) hsz
    cases hd with
    | non => cases rx; exact PySem.P.repr_of_none ⟨.str _, H, I.tok _, ⟨_, rfl⟩, q⟩
    | bl b => cases rx; exact PySem.P.repr_of_bool ⟨.str _, H, I.tok _, ⟨_, rfl⟩, q⟩
    | int i =>
      obtain ⟨t, rfl⟩ := rx
      exact PySem.P.repr_of_int (by simpa [PyData.showable] using hs) ⟨.str _, H, I.tok _, ⟨_, rfl⟩, q⟩
    | str x =>
      obtain ⟨t, rfl⟩ := rx
      exact PySem.P.repr_of_str ⟨.str _, H, I.tok _, ⟨_, rfl⟩, q⟩ (by simpa [PyData.shown] using hsz)
    | lst h1 h2 => exact ref _ rx
    | tup h1 h2 => exact ref _ rx
  · obtain ⟨u, rfl, rx⟩ := vals1 r
    cases rx
    obtain ⟨z, lo, vs, rel, o, es, ep, ho, hx, hdt, hk, hp, hn⟩ := (show ObjOk X.prog X.w H s.heap a (.dK kvs) from hd.ok I.hok)
    obtain ⟨i1, i2⟩ := pairs_reads (h := s.heap) rel hp hps
    have rd : Reads s.heap (.ref a) (.dict ((kvs.map fun kv => pyKey kv.1).zip ps)) (a :: [] ++ []) := .dict ho hx.1 hdt i1 i2
    exact repr_of_reads' rd hs (fun _ z => by
      have e : sysModules = a := by simpa using z
      rw [← e] at lo
      simp at lo) hg (by omega) (fun _ _ e => e) (fun h' u tk hk => ⟨.str _, H, I.kept hk, ⟨_, rfl⟩, q⟩) hsz
def scalD (d : D) : Bool := match d with
  | .non => true | .bl _ => true | .int _ => true | .str _ => true
  | _ => false
def dkScal (d : D) (s : S) : Bool := match dKOf d s with
  | some kvs => (kvs.map (·.2)).all scalD
  | none => false
def reprF (ds : List D) (s : S) : R D := match ds with
  | [d] => match pyT s d with
    | some p => if reprOk p ∧ (p.canLay0 = true ∨ dkScal d s = true) then .ok (.str p.shown) s else .bad
    | none => .bad
  | _ => .bad
theorem scal_rel {K : Frag} {g : Gh} {H : Hp} : ∀ {ds : List D} {vs : List V} {ps : List PyData}, RDs K g H ds vs → ds.all scalD = true → pyL ds = some ps → scalVs vs = some ps
  | [], vs, ps, r, _, e => by cases r; cases e; rfl
  | d :: ds, vs, ps, r, h, e => by
    obtain ⟨v, us, rfl, h1, h2⟩ := r
    rw [List.all_cons, Bool.and_eq_true] at h
    have e' : (match pyD d, pyL ds with | some p, some ps => some (p :: ps) | _, _ => none) = some ps := e
    split at e'
    · rename_i p qs hp hq
      cases e'
      have ih := scal_rel h2 h.2 hq
      have hv : scalV v = some p := by
        cases d with
        | non => cases h1; cases hp; rfl
        | bl b => cases h1; cases hp; rfl
        | int i => cases h1; cases hp; rfl
        | str x => cases h1; cases hp; rfl
        | _ => exact absurd h.1 (by simp [scalD])
      unfold scalVs
      rw [hv, ih]
    · cases e'
theorem keys_map {kvs : List (Key × D)} {ws : List (Key × V)} (h : ws.map (·.1) = kvs.map (·.1)) : (ws.map fun kv => pyKey kv.1) = kvs.map fun kv => pyKey kv.1 := by
  have := congrArg (List.map pyKey) h
  rw [List.map_map, List.map_map] at this
  exact this
theorem opn_repr {K : Frag} : OpN K (rRepr K) reprF := by
  intro W g s H σ ds vs Q R r h
  unfold reprF at h
  split at h
  case h_2 => exact h.elim
  rename_i d
  obtain ⟨v, rfl, rv⟩ := one_of r rfl
  cases e : pyT s d with
  | none => simp only [e] at h; exact h.elim
  | some p =>
    simp only [e] at h
    by_cases c : reprOk p ∧ (p.canLay0 = true ∨ dkScal d s = true)
    · rw [if_pos c] at h
      have hq := post_ok (d := .str p.shown) (v := .str p.shown) R rfl h
      rcases c.2 with c2 | c2
      · exact .inl ⟨v, p, rfl, dpT_of R rv e c2, PyData.hasDict_of_canLay p c2, c.1, hq⟩
      · unfold dkScal at c2
        cases ek : dKOf d s with
        | none => rw [ek] at c2; cases c2
        | some kvs =>
          rw [ek] at c2
          obtain ⟨a, ws, rfl, h3, h4, h5⟩ := dK_ok R rv ek
          have ep : ∃ ps, pyL (kvs.map (·.2)) = some ps ∧ p = .dict ((kvs.map fun kv => pyKey kv.1).zip ps) := by
            cases d with
            | ref b =>
              have ek' : (match s.heap b with | some (.dK kvs) => some kvs | _ => none) = some kvs := ek
              split at ek'
              · rename_i ks hb
                cases ek'
                have e' : (match s.heap b with
                  | some (.lst ds) => (pyL ds).map PyData.list
                  | some (.dK kvs) => (pyL (kvs.map (·.2))).map fun ps => PyData.dict ((kvs.map fun kv => pyKey kv.1).zip ps)
                  | _ => none) = some p := e
                rw [hb] at e'
                obtain ⟨ps, e1, e2⟩ := Option.map_eq_some_iff.mp e'
                exact ⟨ps, e1, e2.symm⟩
              · cases ek'
            | _ => cases ek
          obtain ⟨ps, e1, rfl⟩ := ep
          refine .inr ⟨a, ws, ps, rfl, .of h3, scal_rel h5 c2 e1, ?_, ?_⟩
          · rw [keys_map h4]; exact c.1
          · rw [keys_map h4]; exact hq
    · rw [if_neg c] at h; exact h.elim
end Co
namespace Co
open PySem PySem.Spec PyProof.Rows L2
/-! ### a dict is locked while it is walked -/
section
variable {K : Frag} {g g' : Gh} {s s' : S} {H H' : Hp} {a : Nat} {p : Addr}
/-- what a lock is told of -/
def lkOb : Ob → Option Ob
  | .dK kvs => some (.lk kvs)
  | .dT kvs => some (.lkT kvs)
  | _ => none
def ulOb : Ob → Option Ob
  | .lk kvs => some (.dK kvs)
  | .lkT kvs => some (.dT kvs)
  | _ => none
theorem upd_upd {H : Hp} {p : Addr} {o o' : HO} : upd (upd H p o) p o' = upd H p o' := by
  funext q
  by_cases h : q = p
  · rw [h, upd_same, upd_same]
  · rw [upd_ne h, upd_ne h, upd_ne h]
theorem lock_in {ob lb : Ob} (R : Rel K g s H) (ha : s.heap a = some ob) (hl : lkOb ob = some lb) :
    ∃ p u, g.mu a = some p ∧ H p = some u ∧ Mut (some u) ∧ (∀ o v, u ≠ .frz o v) ∧ (∀ xs, u ≠ .tup xs) ∧ ∀ od, Stp g H g (upd H p (.frz od u)) ∧ Rel K g (s.upd a lb) (upd H p (.frz od u)) := by
  obtain ⟨p, h1, h2, h3⟩ := R.obj a _ ha
  cases ob with
  | dK kvs =>
    cases hl
    obtain ⟨ws, h4, h5, h6⟩ := h3
    have F : Free g H p := ⟨h2.1, fun xs e => (by rw [h4] at e; cases e), fun o u e => (by rw [h4] at e; cases e)⟩
    refine ⟨p, _, h1, h4, trivial, fun o v e => (by cases e), fun xs e => (by cases e), fun od => ?_⟩
    have st := stp_free (o := .frz od (.dK ws)) F h2.2
    exact ⟨st, R.upd ha rfl h1 ⟨od, ws, upd_same, h5, RDs.mono st.toStp0 _ _ h6⟩⟩
  | dT kvs =>
    cases hl
    obtain ⟨ws, h4, h5, h6⟩ := h3
    have F : Free g H p := ⟨h2.1, fun xs e => (by rw [h4] at e; cases e), fun o u e => (by rw [h4] at e; cases e)⟩
    refine ⟨p, _, h1, h4, trivial, fun o v e => (by cases e), fun xs e => (by cases e), fun od => ?_⟩
    have st := stp_free (o := .frz od (.dT ws)) F h2.2
    exact ⟨st, R.upd ha rfl h1 ⟨od, ws, upd_same, h5, RDs.mono st.toStp0 _ _ h6⟩⟩
  | _ => cases hl
/-- .. and unlocked -/
theorem lock_out {lb ub : Ob} {od : Obj} {u : HO} (nf : ∀ o v, u ≠ .frz o v) (nt : ∀ xs, u ≠ .tup xs) (hp : H p = some u) (hm : g.mu a = some p) (st : Stp g (upd H p (.frz od u)) g' H') (st0 : Stp g H g (upd H p (.frz od u))) (R' : Rel K g' s' H') (ha : s'.heap a = some lb) (hl : ulOb lb = some ub) :
    H' p = some (.frz od u) ∧ Stp g H g' (upd H' p u) ∧ Rel K g' (s'.upd a ub) (upd H' p u) ∧ Stp0 g' H' g' (upd H' p u) := by
  have e : H' p = some (.frz od u) := st.fz p od u upd_same
  have stA := st0.trans st
  obtain ⟨q, h1, h2, h3⟩ := R'.obj a _ ha
  have hm' := stA.mu a p hm
  rw [hm'] at h1; cases h1
  have f0 : Stp0 g' H' g' (upd H' p u) := by
    refine ⟨fun _ _ e => e, fun q h => ⟨h, upd_ne fun z => h2.1 (z ▸ h)⟩, fun q xs eq => ?_, fun q o v c eq => ?_⟩
    · by_cases hq : q = p
      · subst hq; rw [e] at eq; cases eq
      · rw [upd_ne hq]; exact eq
    · by_cases hq : q = p
      · subst hq
        rw [e] at eq
        cases eq
        exfalso
        obtain ⟨xs, c | c⟩ := c
        · exact nt xs c
        · subst c
          cases lb with
          | lk kvs => obtain ⟨o, ws, k1, _⟩ := h3; rw [e] at k1; cases k1
          | lkT kvs => obtain ⟨o, ws, k1, _⟩ := h3; rw [e] at k1; cases k1
          | _ => cases hl
      · rw [upd_ne hq]; exact eq
  have nz : ¬ g'.z p := h2.1
  have np : ¬ g'.pr p := h2.2
  have ro : RO K g' (upd H' p u) p ub := by
    cases lb with
    | lk kvs =>
      cases hl
      obtain ⟨o, ws, k1, k2, k3⟩ := h3
      rw [e] at k1; cases k1
      exact ⟨ws, upd_same, k2, RDs.mono f0 _ _ k3⟩
    | lkT kvs =>
      cases hl
      obtain ⟨o, ws, k1, k2, k3⟩ := h3
      rw [e] at k1; cases k1
      exact ⟨ws, upd_same, k2, RDs.mono f0 _ _ k3⟩
    | _ => cases hl
  refine ⟨e, ⟨⟨stA.mu, fun q h => ?_, fun q xs eq => ?_, fun q o v c eq => ?_⟩, fun q o v eq => ?_, fun q h => ?_⟩, ⟨R'.dom, fun b ox eb => ?_, fun b c q ob' oc eb ec h4 h5 => ?_, fun q h => upd_some (R'.zz q h), fun q h => ⟨upd_some (R'.pp q h).1, (R'.pp q h).2⟩⟩, f0⟩
  · have hz := (stA.z q h).1
    exact ⟨hz, (upd_ne fun z : q = p => nz (by rw [← z]; exact hz)).trans (stA.z q h).2⟩
  · have hq : q ≠ p := fun z => by subst z; rw [hp] at eq; exact nt xs (Option.some.inj eq)
    rw [upd_ne hq]
    exact stA.tup q xs eq
  · have hq : q ≠ p := fun z => by subst z; rw [hp] at eq; exact nf o v (Option.some.inj eq)
    rw [upd_ne hq]
    exact stA.fz q o v eq
  · have hq : q ≠ p := fun z => by subst z; rw [hp] at eq; exact nf o v (Option.some.inj eq)
    rw [upd_ne hq]
    exact stA.fz q o v eq
  · have hz := (stA.pr q h).1
    exact ⟨hz, (upd_ne fun z : q = p => np (by rw [← z]; exact hz)).trans (stA.pr q h).2⟩
  · by_cases hb : b = a
    · subst hb
      have e' : ub = ox := Option.some.inj ((if_pos rfl).symm.trans eb)
      subst e'
      exact ⟨p, hm', ⟨nz, np⟩, ro⟩
    · have e' : s'.heap b = some ox := (if_neg hb).symm.trans eb
      obtain ⟨q, k1, k2, k3⟩ := R'.obj b ox e'
      refine ⟨q, k1, k2, k3.mono f0 (upd_ne fun z => hb ?_)⟩
      subst z
      exact R'.inj b a q ox lb e' ha k1 hm'
  · have there : ∀ b ox, (s'.upd a ub).heap b = some ox → ∃ oy, s'.heap b = some oy := fun b ox e => by
      by_cases h : b = a
      · exact ⟨lb, h ▸ ha⟩
      · exact ⟨ox, (if_neg h).symm.trans e⟩
    obtain ⟨oy, ey⟩ := there b ob' eb
    obtain ⟨oz, ez⟩ := there c oc ec
    exact R'.inj b c q oy oz ey ez h4 h5
end
/-- the abstract run: the dict that mi tells is locked -/
def unlkE {α : Type} (a : Nat) (r : R α) : R α := match r with
  | .ok x s' => match s'.heap a with
    | some lb => match ulOb lb with
      | some ub => .ok x (s'.upd a ub)
      | none => .bad
    | none => .bad
  | .exc c fs s' => .exc c fs s'
  | .bad => .bad
def lkAt (r : R D) (s : S) : Option (Nat × Ob) := match r with
  | .ok (.ref a) _ => match s.heap a with
    | some ob => (lkOb ob).map fun lb => (a, lb)
    | none => none
  | _ => none
def lockM {α : Type} (mi : ME D) (m : ME α) : ME α := fun env s => match lkAt (mi env s) s with
  | some (a, lb) => unlkE a (m env (s.upd a lb))
  | none => m env s
theorem lkAt_is {r : R D} {s : S} {a : Nat} {lb : Ob} (h : lkAt r s = some (a, lb)) : ∃ ob, s.heap a = some ob ∧ lkOb ob = some lb := by
  unfold lkAt at h
  split at h
  · rename_i b s'
    split at h
    · rename_i ob hb
      obtain ⟨l, h1, h2⟩ := Option.map_eq_some_iff.mp h
      cases h2
      exact ⟨ob, hb, h1⟩
    · cases h
  · cases h
section
variable {X : Cx} {W : WX} {e : Expr} {st : Stmt} {m mi : ME D}
theorem px_lock (h : PX X W e m) : PX X W e (lockM mi m) := by
  refine ⟨fun pins s σ H Q I hw => ?_⟩
  obtain ⟨g, t, env, R, E, p⟩ := hw
  unfold lockM at p
  cases hk : lkAt (mi env t) t with
  | none =>
    rw [hk] at p
    exact h.run pins s σ H Q I ⟨g, t, env, R, E, p⟩
  | some q =>
    obtain ⟨a, lb⟩ := q
    rw [hk] at p
    obtain ⟨ob, h1, h2⟩ := lkAt_is hk
    obtain ⟨P, u, hm, hp, mu, nf, nt, hst⟩ := lock_in R h1 h2
    refine (pe_lock h).run pins s σ H Q I ⟨P, u, hp, mu, fun od => ?_⟩
    obtain ⟨st0, R1⟩ := hst od
    refine ⟨g, t.upd a lb, env, R1, E.mono st0.toStp0, ?_⟩
    have p : Post X.K W g H σ (RD X.K) (unlkE a (m env (t.upd a lb))) Q := p
    cases hr : m env (t.upd a lb) with
    | ok d s' =>
      rw [hr] at p
      intro g' H' v st' R' r'
      have p : Post X.K W g H σ (RD X.K) (match s'.heap a with
        | some lb => match ulOb lb with
          | some ub => .ok d (s'.upd a ub)
          | none => .bad
        | none => .bad) Q := p
      cases ha : s'.heap a with
      | none => rw [ha] at p; exact p.elim
      | some lb' =>
        cases hu : ulOb lb' with
        | none => simp only [ha, hu] at p; exact p.elim
        | some ub =>
          simp only [ha, hu] at p
          obtain ⟨k1, k2, k3, k4⟩ := lock_out nf nt hp hm st' st0 R' ha hu
          exact ⟨k1, p g' _ v k2 k3 (RD.mono k4 _ _ r')⟩
    | exc c fs s' =>
      rw [hr] at p
      exact fun g' H' d st' R' x => p g' H' d (st0.trans st') R' x
    | bad => rw [hr] at p; exact p.elim
def unlkS (a : Nat) (r : R (Fl × Env)) : R (Fl × Env) := match r with
  | .ok (.ex c fs, env) s' => .ok (.ex c fs, env) s'
  | .ok x s' => match s'.heap a with
    | some lb => match ulOb lb with
      | some ub => .ok x (s'.upd a ub)
      | none => .bad
    | none => .bad
  | r => r
def lockS (mi : ME D) (m : MS) : MS := fun env s => match lkAt (mi env s) s with
  | some (a, lb) => unlkS a (m env (s.upd a lb))
  | none => m env s
theorem ps_lock' {m : MS} (h : PSX X W st m) : PSX X W st (lockS mi m) := by
  refine ⟨fun pins s σ H D I hw => ?_⟩
  obtain ⟨g, t, env, R, E, p⟩ := hw
  unfold lockS at p
  cases hk : lkAt (mi env t) t with
  | none =>
    rw [hk] at p
    exact h.run pins s σ H D I ⟨g, t, env, R, E, p⟩
  | some q =>
    obtain ⟨a, lb⟩ := q
    rw [hk] at p
    obtain ⟨ob, h1, h2⟩ := lkAt_is hk
    obtain ⟨P, u, hm, hp, mu, nf, nt, hst⟩ := lock_in R h1 h2
    refine (ps_lock h).run pins s σ H D I ⟨P, u, hp, mu, fun od => ?_⟩
    obtain ⟨st0, R1⟩ := hst od
    refine ⟨g, t.upd a lb, env, R1, E.mono st0.toStp0, ?_⟩
    have p : PostS X.K W g H (unlkS a (m env (t.upd a lb))) D := p
    cases hr : m env (t.upd a lb) with
    | ok fe s' =>
      obtain ⟨f, env'⟩ := fe
      rw [hr] at p
      intro g' H' σ' st' R' E'
      have fin : f ≠ .ex (match f with | .ex c _ => c | _ => "") (match f with | .ex _ fs => fs | _ => []) → ∃ ub, H' P = some (.frz od u) ∧ Stp g H g' (upd H' P u) ∧ Rel X.K g' (s'.upd a ub) (upd H' P u) ∧ Stp0 g' H' g' (upd H' P u) ∧ PostS X.K W g H (.ok (f, env') (s'.upd a ub)) D := by
        intro hf
        have p : PostS X.K W g H (match s'.heap a with
          | some lb => match ulOb lb with
            | some ub => .ok (f, env') (s'.upd a ub)
            | none => .bad
          | none => .bad) D := by
          cases f with
          | ex c fs => exact absurd rfl hf
          | _ => exact p
        cases ha : s'.heap a with
        | none => rw [ha] at p; exact p.elim
        | some lb' =>
          cases hu : ulOb lb' with
          | none => simp only [ha, hu] at p; exact p.elim
          | some ub =>
            simp only [ha, hu] at p
            obtain ⟨k1, k2, k3, k4⟩ := lock_out nf nt hp hm st' st0 R' ha hu
            exact ⟨ub, k1, k2, k3, k4, p⟩
      cases f with
      | nx =>
        obtain ⟨ub, k1, k2, k3, k4, p⟩ := fin (fun z => nomatch z)
        exact ⟨k1, p g' _ σ' k2 k3 (E'.mono k4)⟩
      | rt d =>
        obtain ⟨ub, k1, k2, k3, k4, p⟩ := fin (fun z => nomatch z)
        exact fun v rv => ⟨k1, p g' _ σ' k2 k3 (E'.mono k4) v (RD.mono k4 _ _ rv)⟩
      | bk =>
        obtain ⟨ub, k1, k2, k3, k4, p⟩ := fin (fun z => nomatch z)
        exact ⟨k1, p g' _ σ' k2 k3 (E'.mono k4)⟩
      | ct =>
        obtain ⟨ub, k1, k2, k3, k4, p⟩ := fin (fun z => nomatch z)
        exact ⟨k1, p g' _ σ' k2 k3 (E'.mono k4)⟩
      | ex c fs => exact fun d x => p g' H' σ' (st0.trans st') R' E' d x
    | exc c fs s' => rw [hr] at p; exact p.elim
    | bad => rw [hr] at p; exact p.elim
end
end Co
namespace Co
open PySem PySem.Spec PyProof.Rows L2
/-! ### what a for loop walks: lists, tuples, locked dicts, texts -/
def keysDT (kvs : List (List Key × D)) : List D := kvs.map fun kv => .tup (kv.1.map dOfKey)
def lkOf (x : D) (s : S) : Option (Nat × List (Key × D)) := match x with
  | .ref a => match s.heap a with
    | some (.lk kvs) => some (a, kvs)
    | _ => none
  | _ => none
def lkTOf (x : D) (s : S) : Option (Nat × List (List Key × D)) := match x with
  | .ref a => match s.heap a with
    | some (.lkT kvs) => some (a, kvs)
    | _ => none
  | _ => none
theorem lkOf_is {x : D} {s : S} {a : Nat} {kvs : List (Key × D)} (h : lkOf x s = some (a, kvs)) : x = .ref a ∧ s.heap a = some (.lk kvs) := by
  unfold lkOf at h
  split at h
  · split at h
    · rename_i h'; cases h; exact ⟨rfl, h'⟩
    · cases h
  · cases h
theorem lkTOf_is {x : D} {s : S} {a : Nat} {kvs : List (List Key × D)} (h : lkTOf x s = some (a, kvs)) : x = .ref a ∧ s.heap a = some (.lkT kvs) := by
  unfold lkTOf at h
  split at h
  · split at h
    · rename_i h'; cases h; exact ⟨rfl, h'⟩
    · cases h
  · cases h
def sigD (x : Str) : List D := x.cps.toList.map fun c => .str ⟨#[c]⟩
/-- the items, and what is to stay as it is -/
def anyIt (x : D) (s : S) : R Itm := match lkOf x s with
  | some (a, kvs) => .ok (keysD kvs, some (a, .lk kvs)) s
  | none => match lkTOf x s with
    | some (a, kvs) => .ok (keysDT kvs, some (a, .lkT kvs)) s
    | none => match x with
      | .tup ds => .ok (ds, none) s
      | .ct ds => .ok (ds, none) s
      | .str z => .ok (sigD z, none) s
      | x => lstIt x s
def anyItM (m : ME D) : ME Itm := fun env s => bd (m env s) anyIt
def valIt (x : D) (s : S) : R Itm := match lkOf x s with
  | some (a, kvs) => .ok (kvs.map (·.2), some (a, .lk kvs)) s
  | none => .bad
def valItM (m : ME D) : ME Itm := fun env s => bd (m env s) valIt
def iteIt (x : D) (s : S) : R Itm := match lkOf x s with
  | some (a, kvs) => .ok (kvs.map fun kv => .tup [dOfKey kv.1, kv.2], some (a, .lk kvs)) s
  | none => .bad
def iteItM (m : ME D) : ME Itm := fun env s => bd (m env s) iteIt
def keyIt (x : D) (s : S) : R Itm := match lkOf x s with
  | some (a, kvs) => .ok (keysD kvs, some (a, .lk kvs)) s
  | none => .bad
def keyItM (m : ME D) : ME Itm := fun env s => bd (m env s) keyIt
section
variable {K : Frag} {g : Gh} {s : S} {H : Hp} {a : Nat} {p : Addr} {o : Obj}
theorem lk_now {kvs : List (Key × D)} {ws : List (Key × V)} (hm : g.mu a = some p) (hp : H p = some (.frz o (.dK ws))) {g1 : Gh} {H1 : Hp} {s1 : S} (st : Stp g H g1 H1) (R1 : Rel K g1 s1 H1) (gd : s1.heap a = some (.lk kvs)) :
    H1 p = some (.frz o (.dK ws)) ∧ ws.map (·.1) = kvs.map (·.1) ∧ RDs K g1 H1 (kvs.map (·.2)) (ws.map (·.2)) := by
  have e := st.fz p o _ hp
  obtain ⟨q, h1, _, o', ws', h3, h4, h5⟩ := R1.obj a _ gd
  rw [st.mu a p hm] at h1; cases h1
  rw [e] at h3; cases h3
  exact ⟨e, h4, h5⟩
theorem lkT_now {kvs : List (List Key × D)} {ws : List (List Key × V)} (hm : g.mu a = some p) (hp : H p = some (.frz o (.dT ws))) {g1 : Gh} {H1 : Hp} {s1 : S} (st : Stp g H g1 H1) (R1 : Rel K g1 s1 H1) (gd : s1.heap a = some (.lkT kvs)) :
    H1 p = some (.frz o (.dT ws)) ∧ ws.map (·.1) = kvs.map (·.1) ∧ RDs K g1 H1 (kvs.map (·.2)) (ws.map (·.2)) := by
  have e := st.fz p o _ hp
  obtain ⟨q, h1, _, o', ws', h3, h4, h5⟩ := R1.obj a _ gd
  rw [st.mu a p hm] at h1; cases h1
  rw [e] at h3; cases h3
  exact ⟨e, h4, h5⟩
theorem keys_at' {kvs : List (Key × D)} {ws : List (Key × V)} (h : ws.map (·.1) = kvs.map (·.1)) (i : Nat) : (ws[i]?).map (·.1) = (kvs[i]?).map (·.1) := by
  rw [← List.getElem?_map, h, List.getElem?_map]
theorem keysT_at' {kvs : List (List Key × D)} {ws : List (List Key × V)} (h : ws.map (·.1) = kvs.map (·.1)) (i : Nat) : (ws[i]?).map (·.1) = (kvs[i]?).map (·.1) := by
  rw [← List.getElem?_map, h, List.getElem?_map]
theorem itOk_keys {kvs : List (Key × D)} {ws : List (Key × V)} (hm : g.mu a = some p) (hp : H p = some (.frz o (.dK ws))) : ItOk K g H (Itk p o ws) (keysD kvs, some (a, .lk kvs)) := by
  intro g1 H1 s1 st R1 gd
  obtain ⟨e, h4, h5⟩ := lk_now hm hp st R1 gd
  have hl : ws.length = kvs.length := by simpa using congrArg List.length h4
  refine ⟨⟨e, by show ws.length ≤ (keysD kvs).length; unfold keysD; rw [List.length_map]; omega⟩, fun i d ei => ?_⟩
  have ei : (keysD kvs)[i]? = some d := ei
  unfold keysD at ei
  rw [List.getElem?_map] at ei
  obtain ⟨kv, hk, rfl⟩ := Option.map_eq_some_iff.mp ei
  have hi : i < kvs.length := (List.getElem?_eq_some_iff.mp hk).1
  refine ⟨⟨e, by omega⟩, fun x H2 y => ?_⟩
  obtain ⟨rfl, k, v, hw, rfl⟩ := y
  have hk' := keys_at' h4 i
  rw [hw, hk] at hk'
  have ek : k = kv.1 := by simpa using hk'
  subst ek
  exact ⟨g1, .refl _ _, R1, rd_key _⟩
theorem itOk_keysT {kvs : List (List Key × D)} {ws : List (List Key × V)} (hm : g.mu a = some p) (hp : H p = some (.frz o (.dT ws))) : ItOk K g H (Itkt p o ws) (keysDT kvs, some (a, .lkT kvs)) := by
  intro g1 H1 s1 st R1 gd
  obtain ⟨e, h4, h5⟩ := lkT_now hm hp st R1 gd
  have hl : ws.length = kvs.length := by simpa using congrArg List.length h4
  refine ⟨⟨e, by show ws.length ≤ (keysDT kvs).length; unfold keysDT; rw [List.length_map]; omega⟩, fun i d ei => ?_⟩
  have ei : (keysDT kvs)[i]? = some d := ei
  unfold keysDT at ei
  rw [List.getElem?_map] at ei
  obtain ⟨kv, hk, rfl⟩ := Option.map_eq_some_iff.mp ei
  have hi : i < kvs.length := (List.getElem?_eq_some_iff.mp hk).1
  refine ⟨⟨e, by omega⟩, fun x H2 y => ?_⟩
  obtain ⟨rfl, k, v, q, hw, rfl, hq⟩ := y
  have hk' := keysT_at' h4 i
  rw [hw, hk] at hk'
  have ek : k = kv.1 := by simpa using hk'
  subst ek
  refine ⟨g1, .refl _ _, R1, q, _, rfl, hq, ?_⟩
  exact rds_map fun t _ => rd_key t
theorem itOk_vals {kvs : List (Key × D)} {ws : List (Key × V)} (hm : g.mu a = some p) (hp : H p = some (.frz o (.dK ws))) : ItOk K g H (Itd p o ws) (kvs.map (·.2), some (a, .lk kvs)) := by
  intro g1 H1 s1 st R1 gd
  obtain ⟨e, h4, h5⟩ := lk_now hm hp st R1 gd
  have hl : ws.length = kvs.length := by simpa using congrArg List.length h4
  refine ⟨⟨e, by show ws.length ≤ (kvs.map (·.2)).length; rw [List.length_map]; omega⟩, fun i d ei => ?_⟩
  have ei : (kvs.map (·.2))[i]? = some d := ei
  have hi : i < kvs.length := by simpa using (List.getElem?_eq_some_iff.mp ei).1
  refine ⟨⟨e, by omega⟩, fun x H2 y => ?_⟩
  obtain ⟨rfl, k, hw⟩ := y
  obtain ⟨v, hv, rv⟩ := h5.get ei
  rw [List.getElem?_map, hw] at hv
  cases hv
  exact ⟨g1, .refl _ _, R1, rv⟩
theorem itOk_items {kvs : List (Key × D)} {ws : List (Key × V)} (hm : g.mu a = some p) (hp : H p = some (.frz o (.dK ws))) : ItOk K g H (Iti p o ws) (kvs.map fun kv => .tup [dOfKey kv.1, kv.2], some (a, .lk kvs)) := by
  intro g1 H1 s1 st R1 gd
  obtain ⟨e, h4, h5⟩ := lk_now hm hp st R1 gd
  have hl : ws.length = kvs.length := by simpa using congrArg List.length h4
  refine ⟨⟨e, by show ws.length ≤ (kvs.map _).length; rw [List.length_map]; omega⟩, fun i d ei => ?_⟩
  have ei : (kvs.map fun kv => D.tup [dOfKey kv.1, kv.2])[i]? = some d := ei
  rw [List.getElem?_map] at ei
  obtain ⟨kv, hk, rfl⟩ := Option.map_eq_some_iff.mp ei
  have hi : i < kvs.length := (List.getElem?_eq_some_iff.mp hk).1
  refine ⟨⟨e, by omega⟩, fun x H2 y => ?_⟩
  obtain ⟨T, k, v, hw, rfl, hT, rfl⟩ := y
  have hk' := keys_at' h4 i
  rw [hw, hk] at hk'
  have ek : k = kv.1 := by simpa using hk'
  subst ek
  obtain ⟨v', hv, rv⟩ := h5.get (show (kvs.map (·.2))[i]? = some kv.2 by rw [List.getElem?_map, hk]; rfl)
  rw [List.getElem?_map, hw] at hv
  cases hv
  have st2 := stp_new (o := .tup [kV kv.1, v]) R1 hT
  exact ⟨g1, st2, R1.new hT, T, _, rfl, upd_same, .cons (rd_key _) (.cons (RD.mono st2.toStp0 _ _ rv) .nil)⟩
theorem itOk_sig {z : Str} : ItOk K g H (Its z) (sigD z, none) := by
  intro g1 H1 s1 st R1 _
  refine ⟨by show z.cps.size ≤ (sigD z).length; unfold sigD; rw [List.length_map, Array.length_toList]; exact Nat.le_refl _, fun i d ei => ?_⟩
  have ei : (sigD z)[i]? = some d := ei
  unfold sigD at ei
  rw [List.getElem?_map] at ei
  obtain ⟨c, hc, rfl⟩ := Option.map_eq_some_iff.mp ei
  have hi : i < z.cps.size := by simpa using (List.getElem?_eq_some_iff.mp hc).1
  refine ⟨hi, fun x H2 y => ?_⟩
  obtain ⟨rfl, c', h1, rfl⟩ := y
  rw [← Array.getElem?_toList, hc] at h1
  cases h1
  exact ⟨g1, .refl _ _, R1, rfl⟩
end
theorem PI.or {X : Cx} {tg e : Expr} {t t' : TI} (h : PI X tg e t) (h' : PI X tg e t') : PI X tg e (fun σ H Q => t σ H Q ∨ t' σ H Q) := ⟨fun pins s σ H Q I q => q.elim (h.run pins s σ H Q I) (h'.run pins s σ H Q I)⟩
section
variable {X : Cx} {W : WX} {tg a : Expr} {ma : ME D}
end
section
variable {X : Cx} {W : WX} {tg a : Expr} {ma : ME D}
theorem pi_any (hs : PI X tg a (iStr (TE' X.K W ma))) (hk : PI X tg a (iKeys (TE' X.K W ma))) (ha : PX X W a ma) : PIX X W tg a (anyItM ma) := by
  refine PI.imp (PI.or hs (PI.or hk (PI.or (pi_lst' ha) (pi_tup' ha)))) fun σ H Q h => ?_
  obtain ⟨g, t, env, R, E, p⟩ := h
  have p : Post X.K W g H σ (fun g H im J => ItOk X.K g H J im) (bd (ma env t) anyIt) Q := p
  cases hm : ma env t with
  | exc c fs s' =>
    rw [hm] at p
    exact .inr (.inr (.inl ⟨g, t, env, R, E, by show Post _ _ _ _ _ _ (bd (ma env t) lstIt) Q; rw [hm]; exact p⟩))
  | bad => rw [hm] at p; exact p.elim
  | ok x s' =>
    rw [hm] at p
    replace p : Post X.K W g H σ (fun g H im J => ItOk X.K g H J im) (anyIt x s') Q := p
    unfold anyIt at p
    cases h1 : lkOf x s' with
    | some q =>
      obtain ⟨b, kvs⟩ := q
      simp only [h1] at p
      obtain ⟨rfl, hb⟩ := lkOf_is h1
      refine .inr (.inl ⟨g, t, env, R, E, ?_⟩)
      rw [hm]
      intro g' H' v st' R' r'
      obtain ⟨q, rfl, hq⟩ := r'
      obtain ⟨q', k1, _, o, ws, k3, k4, k5⟩ := R'.obj b _ hb
      rw [hq] at k1; cases k1
      exact ⟨q, o, rfl, .inl ⟨ws, k3, p g' H' _ st' R' (itOk_keys hq k3)⟩⟩
    | none =>
      simp only [h1] at p
      cases h2 : lkTOf x s' with
      | some q =>
        obtain ⟨b, kvs⟩ := q
        simp only [h2] at p
        obtain ⟨rfl, hb⟩ := lkTOf_is h2
        refine .inr (.inl ⟨g, t, env, R, E, ?_⟩)
        rw [hm]
        intro g' H' v st' R' r'
        obtain ⟨q, rfl, hq⟩ := r'
        obtain ⟨q', k1, _, o, ws, k3, k4, k5⟩ := R'.obj b _ hb
        rw [hq] at k1; cases k1
        exact ⟨q, o, rfl, .inr ⟨ws, k3, p g' H' _ st' R' (itOk_keysT hq k3)⟩⟩
      | none =>
        simp only [h2] at p
        have lst : Post X.K W g H σ (fun g H im J => ItOk X.K g H J im) (lstIt x s') Q → TI' X.K W (lstItM ma) σ H Q := fun q => ⟨g, t, env, R, E, by show Post _ _ _ _ _ _ (bd (ma env t) lstIt) Q; rw [hm]; exact q⟩
        have tup : Post X.K W g H σ (fun g H im J => ItOk X.K g H J im) (tupIt x s') Q → TI' X.K W (tupItM ma) σ H Q := fun q => ⟨g, t, env, R, E, by show Post _ _ _ _ _ _ (bd (ma env t) tupIt) Q; rw [hm]; exact q⟩
        cases x with
        | tup ds => exact .inr (.inr (.inr (tup p)))
        | ct ds => exact .inr (.inr (.inr (tup p)))
        | str z =>
          refine .inl ⟨g, t, env, R, E, ?_⟩
          rw [hm]
          intro g' H' v st' R' r'
          cases r'
          exact ⟨z, rfl, p g' H' _ st' R' itOk_sig⟩
        | _ => exact .inr (.inr (.inl (lst p)))
theorem lk_pi {f : D → S → R Itm} {J : Addr → Obj → List (Key × V) → It} {K : Frag} {g : Gh} {s : S} {H : Hp} {σ : L2.St} {Q : It → Hp → Prop} {env : Env}
    {im : Nat → List (Key × D) → Itm} (hf : ∀ x s, f x s = match lkOf x s with
      | some (a, kvs) => .ok (im a kvs) s
      | none => .bad) (hit : ∀ {g : Gh} {H : Hp} {a : Nat} {p : Addr} {o : Obj} {kvs : List (Key × D)} {ws : List (Key × V)}, g.mu a = some p → H p = some (.frz o (.dK ws)) → ItOk K g H (J p o ws) (im a kvs))
    (p : Post K W g H σ (fun g H im J => ItOk K g H J im) (bd (ma env s) f) Q) : Post K W g H σ (RD K) (ma env s) (fun x H1 => ∃ d o kvs, x = .ref d ∧ H1 d = some (.frz o (.dK kvs)) ∧ Q (J d o kvs) H1) := by
  cases hm : ma env s with
  | exc c fs s' => rw [hm] at p; exact p
  | bad => rw [hm] at p; exact p.elim
  | ok x s' =>
    rw [hm] at p
    replace p : Post K W g H σ (fun g H im J => ItOk K g H J im) (f x s') Q := p
    rw [hf] at p
    cases h1 : lkOf x s' with
    | none => rw [h1] at p; exact p.elim
    | some q =>
      obtain ⟨b, kvs⟩ := q
      simp only [h1] at p
      obtain ⟨rfl, hb⟩ := lkOf_is h1
      intro g' H' v st' R' r'
      obtain ⟨q, rfl, hq⟩ := r'
      obtain ⟨q', k1, _, o, ws, k3, k4, k5⟩ := R'.obj b _ hb
      rw [hq] at k1; cases k1
      exact ⟨q, o, ws, rfl, k3, p g' H' _ st' R' (hit hq k3)⟩
theorem pi_vals' {e : Expr} {apos cpos : Pos} (he : PX X W e ma) (hbase : attributeBase e "values" X.env (eval e X.env) = eval e X.env) (hline : (apos.endLine == cpos.line) = true) : PIX X W tg (.Call (.Attribute e "values" apos) [] [] cpos) (valItM ma) :=
  PI.imp (pi_values he hbase hline) fun σ H Q ⟨g, t, env, R, E, p⟩ => ⟨g, t, env, R, E, lk_pi (f := valIt) (J := Itd) (im := fun a kvs => (kvs.map (·.2), some (a, .lk kvs))) (fun x s => rfl) (fun h1 h2 => itOk_vals h1 h2) p⟩
theorem pi_keysM' {e : Expr} {apos cpos : Pos} (he : PX X W e ma) (hbase : attributeBase e "keys" X.env (eval e X.env) = eval e X.env) (hline : (apos.endLine == cpos.line) = true) : PIX X W tg (.Call (.Attribute e "keys" apos) [] [] cpos) (keyItM ma) :=
  PI.imp (pi_keysM he hbase hline) fun σ H Q ⟨g, t, env, R, E, p⟩ => ⟨g, t, env, R, E, lk_pi (f := keyIt) (J := Itk) (im := fun a kvs => (keysD kvs, some (a, .lk kvs))) (fun x s => rfl) (fun h1 h2 => itOk_keys h1 h2) p⟩
theorem pi_items' {e : Expr} {apos cpos : Pos} {elts : List Expr} {kk : Nat} {tpos : Pos} (he : PX X W e ma) (hbase : attributeBase e "items" X.env (eval e X.env) = eval e X.env) (hline : (apos.endLine == cpos.line) = true) : PIX X W (.Tuple elts kk tpos) (.Call (.Attribute e "items" apos) [] [] cpos) (iteItM ma) :=
  PI.imp (L2.pi_items he hbase hline) fun σ H Q ⟨g, t, env, R, E, p⟩ => ⟨g, t, env, R, E, lk_pi (f := iteIt) (J := Iti) (im := fun a kvs => (kvs.map fun kv => D.tup [dOfKey kv.1, kv.2], some (a, .lk kvs))) (fun x s => rfl) (fun h1 h2 => itOk_items h1 h2) p⟩
end
end Co
namespace Co
open PySem PySem.Spec PyProof.Rows L2
/-! ### dict comprehensions -/
open Classical in
noncomputable def dcL (t : Tg) (gd : Option (Nat × Ob)) (own : List Nat) (tst : ME Bool) (ek ev : ME D) (env : Env) : List D → List (Key × D) → S → R (List (Key × D))
  | [], acc, s => if GdOk gd s then .ok acc s else .bad
  | d :: ds, acc, s => if GdOk gd s then (match asg t d s (wipeE env own) with
    | none => .bad
    | some env1 => bd (nox (tst env1 s)) fun k s1 => if k then bd (nox (ek env1 s1)) fun y s2 => bd (nox (ev env1 s2)) fun z s3 => (match keyOf y with
        | some key => if acc.length < LINE then dcL t gd own tst ek ev env ds (putD acc key z) s3 else .bad
        | none => .bad) else dcL t gd own tst ek ev env ds acc s1) else .bad
noncomputable def dcM (m : Bool) (t : Tg) (it : ME Itm) (own : List Nat) (tst : ME Bool) (ek ev : ME D) : ME D := fun env s => bd (it env s) fun im s1 => bd (dcL t im.2 own tst ek ev env im.1 [] s1) fun kvs s2 => mkD m kvs s2
section
variable {X : Cx} {W : WX} {tg iter kx vx : Expr} {ifs : List Expr} {scope : Scope} {own : List (Str × Nat)} {pos : Pos} {t : Tg} {it : ME Itm} {tst : ME Bool} {ek ev : ME D}
theorem dc_reads {m : Bool} (hsl : ∀ i ∈ slots t, i ∈ own.map (·.2)) (σ : L2.St) (H : Hp) (Q : VK) (h : TE' X.K W (dcM m t it (own.map (·.2)) tst ek ev) σ H Q) :
    tDc (TI' X.K W it) (gtOf X.K t) (TT' X.K W0 tst) (TE' X.K W0 ek) (TE' X.K W0 ev) (own.map (·.2)) σ H Q := by
  refine (TX.bind (rel := fun g H im J => ItOk X.K g H J im) h).imp fun J H0 ⟨g0, im, s0, env, R0, E0, hit, p0⟩ => ?_
  intro Dp hDp
  refine ⟨fun i m' H => m' = im.1.length - i ∧ i ≤ im.1.length ∧ ∃ g s acc ws, Stp g0 H0 g H ∧ Rel X.K g s H ∧ Own g s H Dp ∧ H Dp = some (.dK ws) ∧ ws.map (·.1) = acc.map (·.1) ∧ RDs X.K g H (acc.map (·.2)) (ws.map (·.2)) ∧
      Post X.K W g H σ (RD X.K) (bd (dcL t im.2 (own.map (·.2)) tst ek ev env (im.1.drop i) acc s) fun ds s2 => mkD m ds s2) Q,
    ⟨im.1.length, by simp, Nat.zero_le _, g0, s0, [], [], stp_new R0 hDp, R0.new hDp, own_new R0 hDp, upd_same, rfl, .nil, Post.later (stp_new R0 hDp) p0⟩, fun i m' H h => ?_⟩
  obtain ⟨rfl, hi, g, s, acc, ws, st, R, O, hD, kk, ra, p⟩ := h
  by_cases hlt : i < im.1.length
  · have hd : im.1.drop i = im.1[i] :: im.1.drop (i + 1) := List.drop_eq_getElem_cons hlt
    rw [hd] at p
    unfold dcL at p
    by_cases hgd : GdOk im.2 s
    · rw [if_pos hgd] at p
      have RP := R.prot O
      have stP := st.trans (stp_prot (g := g) (H := H) (p := Dp))
      obtain ⟨_, hit'⟩ := hit (g.prot Dp) H s stP RP hgd
      obtain ⟨go, yld⟩ := hit' i im.1[i] (List.getElem?_eq_getElem hlt)
      refine .inr ⟨go, fun H' => ∃ m', m' < im.1.length - i ∧ m' = im.1.length - (i + 1) ∧ i + 1 ≤ im.1.length ∧ ∃ g s acc ws, Stp g0 H0 g H' ∧ Rel X.K g s H' ∧ Own g s H' Dp ∧ H' Dp = some (.dK ws) ∧ ws.map (·.1) = acc.map (·.1) ∧ RDs X.K g H' (acc.map (·.2)) (ws.map (·.2)) ∧
        Post X.K W g H' σ (RD X.K) (bd (dcL t im.2 (own.map (·.2)) tst ek ev env (im.1.drop (i + 1)) acc s) fun ds s2 => mkD m ds s2) Q, fun H' h => h, fun x H2 y => ?_⟩
      obtain ⟨g2, st2, R2, r2⟩ := yld x H2 y
      cases ea : asg t im.1[i] s (wipeE env (own.map (·.2))) with
      | none => simp only [ea] at p; exact p.elim
      | some env1 =>
        simp only [ea] at p
        have Ew : RE X.K g2 H2 (wipeE env (own.map (·.2))) (wipe σ (own.map (·.2))) := ((E0.mono stP.toStp0).mono st2.toStp0).wipe _
        refine tg_ok R2 Ew r2 ea fun σ1 E1 b1 => ⟨wipe_but b1 hsl, ?_⟩
        have fin : ∀ {g3 : Gh} {s3 : S} {H3 : Hp}, Stp (g.prot Dp) H g3 H3 → Rel X.K g3 s3 H3 → Post X.K W g H σ (RD X.K) (bd (dcL t im.2 (own.map (·.2)) tst ek ev env (im.1.drop (i + 1)) acc s3) fun ds s2 => mkD m ds s2) Q →
            ∃ m', m' < im.1.length - i ∧ m' = im.1.length - (i + 1) ∧ i + 1 ≤ im.1.length ∧ ∃ g s acc ws, Stp g0 H0 g H3 ∧ Rel X.K g s H3 ∧ Own g s H3 Dp ∧ H3 Dp = some (.dK ws) ∧ ws.map (·.1) = acc.map (·.1) ∧ RDs X.K g H3 (acc.map (·.2)) (ws.map (·.2)) ∧
              Post X.K W g H3 σ (RD X.K) (bd (dcL t im.2 (own.map (·.2)) tst ek ev env (im.1.drop (i + 1)) acc s) fun ds s2 => mkD m ds s2) Q := by
          intro g3 s3 H3 st3 R3 p3
          obtain ⟨k1, k2, k3, k4, k5⟩ := turn_end (ob := .dK ws) st3 R3 O (fun xs e => by rw [hD] at e; cases e) (fun o u e => by rw [hD] at e; cases e)
          have eU : upd H3 Dp (.dK ws) = H3 := by
            funext q
            by_cases hq : q = Dp
            · rw [hq, upd_same, k1, hD]
            · exact upd_ne hq
          rw [eU] at k2 k3 k4 k5
          exact ⟨_, by omega, rfl, hlt, _, s3, acc, ws, st.trans k2, k3, k4, k1.trans hD, kk, RDs.mono k2.toStp0 _ _ ra, Post.later k2 p3⟩
        rw [bd_assoc] at p
        have pt : Post X.K W0 g2 H2 σ1 Eqr (tst env1 s) _ := Post.nox_of (σ' := σ1) (Post.bind (rel := Eqr) (Post.later (stp_prot.trans st2) p))
        refine TX.mk R2 E1 (pt.imp fun k H3 ⟨g3, k', s3, st3, R3, ek0, en0, p3⟩ => ?_)
        cases ek0
        rw [en0] at p
        have sA := st2.trans st3
        cases k with
        | false =>
          simp only [Bool.false_eq_true, if_false] at p3 ⊢
          exact fin sA R3 p
        | true =>
          have p3g : Post X.K W g H σ (RD X.K) (bd (bd (nox (ek env1 s3)) fun y s4 => bd (nox (ev env1 s4)) fun z s5 => match keyOf y with
            | some key => if acc.length < LINE then dcL t im.2 (own.map (·.2)) tst ek ev env (im.1.drop (i + 1)) (putD acc key z) s5 else .bad
            | none => .bad) fun ds s2 => mkD m ds s2) Q := p
          have p3' := Post.later (stp_prot.trans sA) p3g
          simp only [if_true] at p3 ⊢
          rw [bd_assoc] at p3' p3g
          have pe : Post X.K W0 g3 H3 σ1 (RD X.K) (ek env1 s3) _ := Post.nox_of (σ' := σ1) (Post.bind (rel := RD X.K) p3')
          refine TX.mk R3 (E1.mono st3.toStp0) (pe.imp fun yv H4 ⟨g4, y', s4, st4, R4, ry, en, p4⟩ => ?_)
          rw [en] at p3g
          have sB := sA.trans st4
          have p4g : Post X.K W g H σ (RD X.K) (bd (bd (nox (ev env1 s4)) fun z s5 => match keyOf y' with
            | some key => if acc.length < LINE then dcL t im.2 (own.map (·.2)) tst ek ev env (im.1.drop (i + 1)) (putD acc key z) s5 else .bad
            | none => .bad) fun ds s2 => mkD m ds s2) Q := p3g
          have p4' := Post.later (stp_prot.trans sB) p4g
          rw [bd_assoc] at p4' p4g
          have pv : Post X.K W0 g4 H4 σ1 (RD X.K) (ev env1 s4) _ := Post.nox_of (σ' := σ1) (Post.bind (rel := RD X.K) p4')
          refine TX.mk R4 ((E1.mono st3.toStp0).mono st4.toStp0) (pv.imp fun zv H5 ⟨g5, z', s5, st5, R5, rz, en5, p5⟩ => ?_)
          rw [en5] at p4g
          have sC := sB.trans st5
          have p5g : Post X.K W g H σ (RD X.K) (bd (match keyOf y' with
            | some key => if acc.length < LINE then dcL t im.2 (own.map (·.2)) tst ek ev env (im.1.drop (i + 1)) (putD acc key z') s5 else .bad
            | none => .bad) fun ds s2 => mkD m ds s2) Q := p4g
          cases hk : keyOf y' with
          | none => simp only [hk] at p5g; exact p5g.elim
          | some key =>
            simp only [hk] at p5g
            have eyv : yv = kV key := keyOf_ok ry hk
            by_cases hl : acc.length < LINE
            · rw [if_pos hl] at p5g
              have hlw : ws.length = acc.length := by simpa using congrArg List.length kk
              obtain ⟨k1, k2, k3, k4, k5⟩ := turn_end (ob := .dK (putK ws key zv)) sC R5 O (fun xs e => by rw [hD] at e; cases e) (fun o u e => by rw [hD] at e; cases e)
              obtain ⟨q1, q2⟩ := putK_rel key (RD.mono k5 _ _ rz) kk (RDs.mono k2.toStp0 _ _ ra)
              exact ⟨ws, key, eyv, k1.trans hD, by rw [hlw]; exact hl, _, by omega, rfl, hlt, _, s5, putD acc key z', putK ws key zv, st.trans k2, k3, k4, upd_same, q1, q2, Post.later k2 p5g⟩
            · rw [if_neg hl] at p5g; exact p5g.elim
    · rw [if_neg hgd] at p; exact p.elim
  · have ei : i = im.1.length := by omega
    have hd : im.1.drop i = [] := by rw [ei]; exact List.drop_length
    rw [hd] at p
    unfold dcL at p
    by_cases hgd : GdOk im.2 s
    · rw [if_pos hgd] at p
      obtain ⟨hst, _⟩ := hit g H s st R hgd
      exact .inl ⟨by rw [ei]; exact hst, own_mkD R O hD kk ra p⟩
    · rw [if_neg hgd] at p; exact p.elim
theorem px_dc {m : Bool} (hc : X.calm = true) (hN : X.N.Nodup) (ok : BlkOk X.N X.env.scope scope own) (hsl : ∀ i ∈ slots t, i ∈ own.map (·.2)) (hs : ∀ x, foldedSetIterable iter X.env x = pure x) (hi : PIX X W tg iter it)
    (hg : ∀ (s : Shared) (H : Hp) (C : Addr) (cl : List (Str × Addr)) (fp : List Addr), PGX (X.blk s H scope (compEnvC scope cl C X.env) fp) tg t) (ht : ∀ (s : Shared) (H : Hp) (C : Addr) (cl : List (Str × Addr)) (fp : List Addr), PTX (X.blk s H scope (compEnvC scope cl C X.env) fp) ifs tst)
    (hk : ∀ (s : Shared) (H : Hp) (C : Addr) (cl : List (Str × Addr)) (fp : List Addr), PX (X.blk s H scope (compEnvC scope cl C X.env) fp) W0 kx ek)
    (he : ∀ (s : Shared) (H : Hp) (C : Addr) (cl : List (Str × Addr)) (fp : List Addr), PX (X.blk s H scope (compEnvC scope cl C X.env) fp) W0 vx ev) : PX X W (.DictComp kx vx [⟨tg, iter, ifs, 0⟩] scope pos) (dcM m t it (own.map (·.2)) tst ek ev) :=
  PE.imp (pe_dc (wi := TI' X.K W it) (g := gtOf X.K t) (tt := TT' X.K W0 tst) (tk := TE' X.K W0 ek) (tv := TE' X.K W0 ev) hc hN hi ok hg ht hk he hs) (dc_reads hsl)
end
end Co
namespace Co
open PySem PySem.Spec PyProof.Rows L2
/-! ### methods of lists and dicts -/
theorem PE.or {X : Cx} {e : Expr} {t t' : TE} (h : PE X e t) (h' : PE X e t') : PE X e (fun σ H Q => t σ H Q ∨ t' σ H Q) := ⟨fun pins s σ H Q I q => q.elim (h.run pins s σ H Q I) (h'.run pins s σ H Q I)⟩
/-- the receiver's value decides -/
theorem TE_or {K : Frag} {W : WX} {σ : L2.St} {H : Hp} {Q : VK} {mo : ME D} {k1 k2 : Env → D → S → R D} {c : D → S → Bool} (h : TE' K W (fun env s => bd (mo env s) fun x s1 => if c x s1 = true then k1 env x s1 else k2 env x s1) σ H Q) :
    TE' K W (fun env s => bd (mo env s) (k1 env)) σ H Q ∨ TE' K W (fun env s => bd (mo env s) (k2 env)) σ H Q := by
  obtain ⟨g, t, env, R, E, p⟩ := h
  have p : Post K W g H σ (RD K) (bd (mo env t) fun x s1 => if c x s1 = true then k1 env x s1 else k2 env x s1) Q := p
  cases hm : mo env t with
  | exc cl fs s' =>
    rw [hm] at p
    exact .inl ⟨g, t, env, R, E, by show Post _ _ _ _ _ _ (bd (mo env t) (k1 env)) Q; rw [hm]; exact p⟩
  | bad => rw [hm] at p; exact p.elim
  | ok x s' =>
    rw [hm] at p
    replace p : Post K W g H σ (RD K) (if c x s' = true then k1 env x s' else k2 env x s') Q := p
    by_cases hc : c x s' = true
    · rw [if_pos hc] at p
      exact .inl ⟨g, t, env, R, E, by show Post _ _ _ _ _ _ (bd (mo env t) (k1 env)) Q; rw [hm]; exact p⟩
    · rw [if_neg hc] at p
      exact .inr ⟨g, t, env, R, E, by show Post _ _ _ _ _ _ (bd (mo env t) (k2 env)) Q; rw [hm]; exact p⟩
/-- the reading r of a method asks what f brings -/
def OpMt (K : Frag) (r : V → List V → Hp → VK → Prop) (f : D → List D → S → R D) : Prop := ∀ (W : WX) (g : Gh) (s : S) (H : Hp) (σ : L2.St) (x : D) (ds : List D) (v : V) (vs : List V) (Q : VK), Rel K g s H → RD K g H x v → RDs K g H ds vs → Post K W g H σ (RD K) (f x ds s) Q → r v vs H Q
/-- what the receiver must be -/
def OpTy (K : Frag) (T : String) (c : D → S → Bool) : Prop := ∀ (g : Gh) (s : S) (H : Hp) (x : D) (v : V), Rel K g s H → RD K g H x v → c x s = true → tyV K T v H
def mthM (c : D → S → Bool) (f : D → List D → S → R D) (mo : ME D) (mes : ME (List D)) : ME D := fun env s => bd (mo env s) fun x s1 => if c x s1 = true then bd (mes env s1) fun ds s2 => f x ds s2 else .bad
section
variable {X : Cx} {W : WX} {o e : Expr} {es : List Expr} {apos cpos : Pos} {mo : ME D} {mes : ME (List D)} {name : Str} {T id : String} {r : V → List V → Hp → VK → Prop} {f : D → List D → S → R D} {c : D → S → Bool}
theorem px_mt0 (pa : PlainAttrs T) (slot : Slot T name id) (hty : typeOf (.builtin id) = pure (.type "method_descriptor")) (hm : MtR X id r) (hf : OpMt X.K r f) (hc : OpTy X.K T c) (ho : PX X W o mo)
    (hbase : attributeBase o name X.env (eval o X.env) = eval o X.env) (hline : (apos.endLine == cpos.line) = true) : PX X W (.Call (.Attribute o name apos) [] [] cpos) (mthM c f mo nilM) := by
  refine PE.imp (pe_bm0 pa slot hty hm ho hbase hline) fun σ H Q h => (TX.bind (rel := RD X.K) h).imp fun v H1 ⟨g1, x, s1, env, R1, E1, r1, p1⟩ => ?_
  by_cases hx : c x s1 = true
  · rw [if_pos hx] at p1
    exact ⟨hc g1 s1 H1 x v R1 r1 hx, hf W g1 s1 H1 σ x [] v [] Q R1 r1 .nil p1⟩
  · rw [if_neg hx] at p1; exact p1.elim
theorem px_mt (pa : PlainAttrs T) (slot : Slot T name id) (hty : typeOf (.builtin id) = pure (.type "method_descriptor")) (hm : MtR X id r) (hf : OpMt X.K r f) (hc : OpTy X.K T c) (ho : PX X W o mo) (ha : PL X W (e :: es) mes)
    (hbase : attributeBase o name X.env (eval o X.env) = eval o X.env)
    (hfew : ((backTo cpos (starEach (e :: es) X.env)).all (fun x => !x.1) && (backToKw cpos (keywordEach [] X.env)).all (fun x => x.1.isSome)
      && decide ((e :: es).length + ([] : List Keyword).length + (if ([] : List Keyword).isEmpty then 0 else 1) < 30)) = true)
    (hline : (apos.endLine == cpos.line) = true) (hs : starEach (e :: es) X.env = (false, eval e X.env) :: starEach es X.env) (hplain : (backTo cpos (starEach es X.env)).any (·.1) = false) :
    PX X W (.Call (.Attribute o name apos) (e :: es) [] cpos) (mthM c f mo mes) := by
  refine PE.imp (pe_bm pa slot hty hm ho ha hbase hfew hline hs hplain) fun σ H Q h => (TX.bind (rel := RD X.K) h).imp fun v H1 ⟨g1, x, s1, env, R1, E1, r1, p1⟩ => ?_
  by_cases hx : c x s1 = true
  · rw [if_pos hx] at p1
    refine ⟨hc g1 s1 H1 x v R1 r1 hx, TX.mk R1 E1 ((Post.bind (rel := RDs X.K) p1).imp fun vs H2 ⟨g2, ds, s2, st, R2, r2, _, p2⟩ => ?_)⟩
    exact hf W g2 s2 H2 σ x ds v vs Q R2 (RD.mono st.toStp0 _ _ r1) r2 p2
  · rw [if_neg hx] at p1; exact p1.elim
end
/-! ### lists -/
def isLst (x : D) (s : S) : Bool := (lstOf x s).isSome
theorem ty_lst {K : Frag} : OpTy K "list" isLst := by
  intro g s H x v R r h
  obtain ⟨ds, e⟩ := Option.isSome_iff_exists.mp h
  obtain ⟨p, vs, rfl, e2, e3⟩ := lst_ok R r e
  exact .inl ⟨rfl, vs, e2⟩
/-- a list of the heap -/
def hlOf (x : D) (s : S) : Option (Nat × List D) := match x with
  | .ref a => match s.heap a with
    | some (.lst ds) => some (a, ds)
    | _ => none
  | _ => none
theorem hl_is {x : D} {s : S} {a : Nat} {ds : List D} (h : hlOf x s = some (a, ds)) : x = .ref a ∧ s.heap a = some (.lst ds) := by
  unfold hlOf at h
  split at h
  · split at h
    · rename_i h'; cases h; exact ⟨rfl, h'⟩
    · cases h
  · cases h
section
variable {K : Frag} {g : Gh} {s : S} {H : Hp} {a : Nat} {p : Addr} {ds : List D}
/-- a list of the heap is rewritten -/
theorem hl_put (R : Rel K g s H) (ha : s.heap a = some (.lst ds)) (hm : g.mu a = some p) {es : List D} {ws : List V} (r : RDs K g H es ws) : Stp g H g (upd H p (.lst ws)) ∧ Rel K g (s.upd a (.lst es)) (upd H p (.lst ws)) := by
  have F := R.freeAt ha rfl hm
  have st := stp_free (o := .lst ws) F.1 F.2
  exact ⟨st, R.upd ha rfl hm ⟨ws, upd_same, RDs.mono st.toStp0 _ _ r⟩⟩
theorem hl_at (R : Rel K g s H) (ha : s.heap a = some (.lst ds)) (hm : g.mu a = some p) : ∃ vs, H p = some (.lst vs) ∧ RDs K g H ds vs := by
  obtain ⟨q, h1, _, vs, h3, h4⟩ := R.obj a _ ha
  rw [hm] at h1; cases h1
  exact ⟨vs, h3, h4⟩
end
def appF (x : D) (ds : List D) (s : S) : R D := match hlOf x s, ds with
  | some (a, xs), [y] => if xs.length < LINE then .ok .non (s.upd a (.lst (xs ++ [y]))) else .bad
  | _, _ => .bad
theorem opm_app {K : Frag} : OpMt K rAppend appF := by
  intro W g s H σ x ds v vs Q R rx rs h
  unfold appF at h
  split at h
  · rename_i a xs y e
    obtain ⟨rfl, ha⟩ := hl_is e
    obtain ⟨p, rfl, hm⟩ := rx
    obtain ⟨us, h3, h4⟩ := hl_at R ha hm
    obtain ⟨w, rfl, rw'⟩ := one_of rs rfl
    by_cases hl : xs.length < LINE
    · rw [if_pos hl] at h
      obtain ⟨st, R'⟩ := hl_put R ha hm (h4.append (.cons rw' .nil))
      exact ⟨p, us, w, rfl, rfl, h3, by rw [← h4.length]; exact hl, h g _ .non st R' rfl⟩
    · rw [if_neg hl] at h; exact h.elim
  · exact h.elim
def extF (x : D) (ds : List D) (s : S) : R D := match hlOf x s, ds with
  | some (a, xs), [d] => match trkOf d s with
    | some ys => if xs.length + ys.length ≤ LINE then .ok .non (s.upd a (.lst (xs ++ ys))) else .bad
    | none => .bad
  | _, _ => .bad
theorem opm_ext {K : Frag} : OpMt K rExtend extF := by
  intro W g s H σ x ds v vs Q R rx rs h
  unfold extF at h
  split at h
  · rename_i a xs d e
    obtain ⟨rfl, ha⟩ := hl_is e
    obtain ⟨p, rfl, hm⟩ := rx
    obtain ⟨us, h3, h4⟩ := hl_at R ha hm
    obtain ⟨w, rfl, rw'⟩ := one_of rs rfl
    cases et : trkOf d s with
    | none => simp only [et] at h; exact h.elim
    | some ys =>
      simp only [et] at h
      obtain ⟨q, zs, rfl, f2, f3⟩ := trk_ok R rw' et
      by_cases hl : xs.length + ys.length ≤ LINE
      · rw [if_pos hl] at h
        obtain ⟨st, R'⟩ := hl_put R ha hm (h4.append f3)
        exact ⟨p, q, us, zs, rfl, rfl, h3, f2, by rw [← h4.length, ← f3.length]; exact hl, h g _ .non st R' rfl⟩
      · rw [if_neg hl] at h; exact h.elim
  · exact h.elim
def pop0F (x : D) (ds : List D) (s : S) : R D := match hlOf x s, ds with
  | some (a, xs), [] => match xs[xs.length - 1]? with
    | some y => .ok y (s.upd a (.lst xs.dropLast))
    | none => .bad
  | _, _ => .bad
theorem rds_dropLast {K : Frag} {g : Gh} {H : Hp} {ds : List D} {vs : List V} (r : RDs K g H ds vs) : RDs K g H ds.dropLast vs.dropLast := by
  rw [List.dropLast_eq_take, List.dropLast_eq_take, r.length]
  exact r.take _
theorem opm_pop0 {K : Frag} : OpMt K rPop pop0F := by
  intro W g s H σ x ds v vs Q R rx rs h
  unfold pop0F at h
  split at h
  · rename_i a xs e
    obtain ⟨rfl, ha⟩ := hl_is e
    obtain ⟨p, rfl, hm⟩ := rx
    obtain ⟨us, h3, h4⟩ := hl_at R ha hm
    cases rs
    cases ey : xs[xs.length - 1]? with
    | none => simp only [ey] at h; exact h.elim
    | some y =>
      simp only [ey] at h
      obtain ⟨w, hw, rw'⟩ := h4.get ey
      obtain ⟨st, R'⟩ := hl_put R ha hm (rds_dropLast h4)
      exact ⟨p, us, w, rfl, rfl, h3, by rw [← h4.length]; exact hw, h g _ w st R' (RD.mono st.toStp0 _ _ rw')⟩
  · exact h.elim
def Ix63 (i : Int) : Prop := -(2 ^ 63) ≤ i ∧ i < 2 ^ 63
def Ins63 (n : Nat) (i : Int) : Prop := n < LINE ∧ 0 ≤ i ∧ i < 2 ^ 63
noncomputable instance (j : Int) : Decidable (Ix63 j) := Classical.propDecidable _
noncomputable instance (n : Nat) (j : Int) : Decidable (Ins63 n j) := Classical.propDecidable _
noncomputable def pop1F (x : D) (ds : List D) (s : S) : R D := match hlOf x s, ds with
  | some (a, xs), [.int i] => if Ix63 i then match seqIndex? i xs.length with
    | some k => match xs[k]? with
      | some y => .ok y (s.upd a (.lst (xs.eraseIdx k)))
      | none => .bad
    | none => .bad else .bad
  | _, _ => .bad
theorem opm_pop1 {K : Frag} : OpMt K rPopAt pop1F := by
  intro W g s H σ x ds v vs Q R rx rs h
  unfold pop1F at h
  split at h
  · rename_i a xs i e
    obtain ⟨rfl, ha⟩ := hl_is e
    obtain ⟨p, rfl, hm⟩ := rx
    obtain ⟨us, h3, h4⟩ := hl_at R ha hm
    obtain ⟨w, rfl, rw'⟩ := one_of rs rfl
    cases rw'
    by_cases hi : Ix63 i
    · rw [if_pos hi] at h
      cases ek : seqIndex? i xs.length with
      | none => simp only [ek] at h; exact h.elim
      | some k =>
        simp only [ek] at h
        cases ey : xs[k]? with
        | none => simp only [ey] at h; exact h.elim
        | some y =>
          simp only [ey] at h
          obtain ⟨w, hw, rw'⟩ := h4.get ey
          obtain ⟨st, R'⟩ := hl_put R ha hm (RDs.eraseIdx k h4)
          exact ⟨p, us, i, k, w, rfl, rfl, h3, hi.1, hi.2, by rw [← h4.length]; exact ek, hw, h g _ w st R' (RD.mono st.toStp0 _ _ rw')⟩
    · rw [if_neg hi] at h; exact h.elim
  · exact h.elim
noncomputable def insF (x : D) (ds : List D) (s : S) : R D := match hlOf x s, ds with
  | some (a, xs), [.int i, y] => if Ins63 xs.length i then .ok .non (s.upd a (.lst (xs.take i.toNat ++ [y] ++ xs.drop i.toNat))) else .bad
  | _, _ => .bad
def rInsert : V → List V → Hp → VK → Prop := fun x vs H Q => ∃ (l : Addr) (xs : List V) (i : Int) (y : V), x = .ref l ∧ vs = [.int i, y] ∧ H l = some (.lst xs) ∧ xs.length < sizeLine ∧ 0 ≤ i ∧ i < 2 ^ 63 ∧
    Q .non (upd H l (.lst (xs.take i.toNat ++ [y] ++ xs.drop i.toNat)))
theorem opm_ins {K : Frag} : OpMt K rInsert insF := by
  intro W g s H σ x ds v vs Q R rx rs h
  unfold insF at h
  split at h
  · rename_i a xs i y e
    obtain ⟨rfl, ha⟩ := hl_is e
    obtain ⟨p, rfl, hm⟩ := rx
    obtain ⟨us, h3, h4⟩ := hl_at R ha hm
    obtain ⟨w, w2, rfl, rw', rw2⟩ := two_of rs rfl
    cases rw'
    by_cases hi : Ins63 xs.length i
    · rw [if_pos hi] at h
      obtain ⟨st, R'⟩ := hl_put R ha hm (((h4.take i.toNat).append (.cons rw2 .nil)).append (h4.drop i.toNat))
      exact ⟨p, us, i, w2, rfl, rfl, h3, by rw [← h4.length]; exact hi.1, hi.2.1, hi.2.2, h g _ .non st R' rfl⟩
    · rw [if_neg hi] at h; exact h.elim
  · exact h.elim
def idxF (x : D) (ds : List D) (s : S) : R D := match lstOf x s, ds with
  | some xs, [y] => if flatD y = true ∧ xs.all flatD = true then (match xs.findIdx? fun z => eqFl z y with
    | some j => .ok (.int (j : Nat)) s
    | none => .bad) else .bad
  | _, _ => .bad
theorem opm_idx {K : Frag} : OpMt K (rIndex K) idxF := by
  intro W g s H σ x ds v vs Q R rx rs h
  unfold idxF at h
  split at h
  · rename_i xs y e
    obtain ⟨p, us, rfl, e2, e3⟩ := lst_ok R rx e
    obtain ⟨w, rfl, rw'⟩ := one_of rs rfl
    by_cases hf : flatD y = true ∧ xs.all flatD = true
    · rw [if_pos hf] at h
      cases ej : xs.findIdx? fun z => eqFl z y with
      | none => simp only [ej] at h; exact h.elim
      | some j =>
        simp only [ej] at h
        obtain ⟨hj, h1, h2⟩ := List.findIdx?_eq_some_iff_getElem.mp ej
        obtain ⟨z, hz, rz⟩ := e3.get (List.getElem?_eq_getElem hj)
        have fz : flatD xs[j] = true := List.all_eq_true.mp hf.2 _ (List.getElem_mem hj)
        refine ⟨p, us, w, j, z, rfl, rfl, e2, flat_ok rw' hf.1, flats_ok e3 hf.2, hz, by rw [eqFl_ok rz rw' fz hf.1]; exact h1, fun m z' hm hz' => ?_, post_ok (d := .int (j : Nat)) R rfl h⟩
        have hml : m < xs.length := by omega
        obtain ⟨z2, hz2, rz2⟩ := e3.get (List.getElem?_eq_getElem hml)
        rw [hz'] at hz2
        cases hz2
        have fz2 : flatD xs[m] = true := List.all_eq_true.mp hf.2 _ (List.getElem_mem hml)
        rw [eqFl_ok rz2 rw' fz2 hf.1]
        have := h2 m hm
        simpa using this
    · rw [if_neg hf] at h; exact h.elim
  · exact h.elim
/-! ### dicts -/
def isDic (x : D) (s : S) : Bool := (dicOf x s).isSome || (dicT x s).isSome
theorem isD_of {K : Frag} {g : Gh} {s : S} {H : Hp} {x : D} {v : V} (R : Rel K g s H) (r : RD K g H x v) (h : isDic x s = true) : ∃ p, v = .ref p ∧ IsD H p := by
  unfold isDic at h
  rw [Bool.or_eq_true] at h
  rcases h with h | h
  · obtain ⟨kvs, e⟩ := Option.isSome_iff_exists.mp h
    obtain ⟨p, ws, rfl, e2, _⟩ := dic_ok R r e
    exact ⟨p, rfl, .inl ⟨ws, e2⟩⟩
  · obtain ⟨kvs, e⟩ := Option.isSome_iff_exists.mp h
    obtain ⟨p, ws, rfl, e2, _⟩ := dicT_ok R r e
    exact ⟨p, rfl, .inr ⟨ws, e2⟩⟩
def get2M (mo mk mx : ME D) : ME D := fun env s => bd (mo env s) fun x s1 => if isDic x s1 = true then bd (mk env s1) fun y s2 => bd (mx env s2) fun z s3 => match dget x y s3 with
  | some o => .ok (o.getD z) s3
  | none => .bad else .bad
def get1M (mo mk : ME D) : ME D := fun env s => bd (mo env s) fun x s1 => if isDic x s1 = true then bd (mk env s1) fun y s2 => match dget x y s2 with
  | some o => .ok (o.getD .non) s2
  | none => .bad else .bad
section
variable {X : Cx} {W : WX} {o e f : Expr} {apos cpos : Pos} {mo mk mx : ME D}
theorem px_get2 (hu : X.A.units + 1 < cLine) (ho : PX X W o mo) (he : PX X W e mk) (hf : PX X W f mx) (m : M2 X o "get" apos e f cpos) : PX X W (.Call (.Attribute o "get" apos) [e, f] [] cpos) (get2M mo mk mx) := by
  refine PE.imp (pe_dget2 hu ho he hf m) fun σ H Q h => (TX.bind (rel := RD X.K) h).imp fun v H1 ⟨g1, x, s1, env, R1, E1, r1, p1⟩ => ?_
  by_cases hx : isDic x s1 = true
  · rw [if_pos hx] at p1
    obtain ⟨p, rfl, hd⟩ := isD_of R1 r1 hx
    refine ⟨p, rfl, hd, TX.mk R1 E1 ((Post.bind (rel := RD X.K) p1).imp fun y H2 ⟨g2, dy, s2, st2, R2, r2, _, p2⟩ => ?_)⟩
    refine TX.mk R2 (E1.mono st2.toStp0) ((Post.bind (rel := RD X.K) p2).imp fun z H3 ⟨g3, dz, s3, st3, R3, r3, _, p3⟩ => ?_)
    cases eg : dget x dy s3 with
    | none => simp only [eg] at p3; exact p3.elim
    | some o =>
      simp only [eg] at p3
      obtain ⟨p', ov, e1, e2, e3, e4⟩ := dget_ok R3 (RD.mono (st2.trans st3).toStp0 _ _ r1) (RD.mono st3.toStp0 _ _ r2) eg
      cases e1
      refine ⟨ov, e2, ?_⟩
      cases o with
      | none => rw [e3 rfl]; exact post_ok R3 r3 p3
      | some d =>
        obtain ⟨w, rfl, rw'⟩ := e4 d rfl
        exact post_ok R3 rw' p3
  · rw [if_neg hx] at p1; exact p1.elim
theorem px_get1 (hu : X.A.units + 1 < cLine) (ho : PX X W o mo) (he : PX X W e mk) (m : M1 X o "get" apos e cpos) : PX X W (.Call (.Attribute o "get" apos) [e] [] cpos) (get1M mo mk) := by
  refine PE.imp (pe_dget1 hu ho he m) fun σ H Q h => (TX.bind (rel := RD X.K) h).imp fun v H1 ⟨g1, x, s1, env, R1, E1, r1, p1⟩ => ?_
  by_cases hx : isDic x s1 = true
  · rw [if_pos hx] at p1
    obtain ⟨p, rfl, hd⟩ := isD_of R1 r1 hx
    refine ⟨p, rfl, hd, TX.mk R1 E1 ((Post.bind (rel := RD X.K) p1).imp fun y H2 ⟨g2, dy, s2, st2, R2, r2, _, p2⟩ => ?_)⟩
    cases eg : dget x dy s2 with
    | none => simp only [eg] at p2; exact p2.elim
    | some o =>
      simp only [eg] at p2
      obtain ⟨p', ov, e1, e2, e3, e4⟩ := dget_ok R2 (RD.mono st2.toStp0 _ _ r1) r2 eg
      cases e1
      refine ⟨ov, e2, ?_⟩
      cases o with
      | none => rw [e3 rfl]; exact post_ok (d := .non) R2 rfl p2
      | some d =>
        obtain ⟨w, rfl, rw'⟩ := e4 d rfl
        exact post_ok R2 rw' p2
  · rw [if_neg hx] at p1; exact p1.elim
end
/-- d.pop(k) -/
def dpopF (x y : D) (s : S) : R D := match x with
  | .ref a => match s.heap a with
    | some (.dK kvs) => match keyOf y with
      | some k => match getK kvs k with
        | some d => .ok d (s.upd a (.dK (dropD kvs k)))
        | none => .bad
      | none => .bad
    | _ => .bad
  | _ => .bad
theorem dropK_rel {K : Frag} {g : Gh} {H : Hp} (k : Key) : ∀ {kvs : List (Key × D)} {ws : List (Key × V)}, ws.map (·.1) = kvs.map (·.1) → RDs K g H (kvs.map (·.2)) (ws.map (·.2)) →
    (dropK ws k).map (·.1) = (dropD kvs k).map (·.1) ∧ RDs K g H ((dropD kvs k).map (·.2)) ((dropK ws k).map (·.2))
  | [], [], _, _ => ⟨rfl, rfl⟩
  | [], _ :: _, e, _ => by simp at e
  | _ :: _, [], e, _ => by simp at e
  | p :: kvs, w :: ws, e, r => by
    simp only [List.map_cons, List.cons.injEq] at e
    obtain ⟨v, us, e2, h1, h2⟩ := r
    simp only [List.map_cons, List.cons.injEq] at e2
    obtain ⟨e3, e4⟩ := e2
    subst e4
    obtain ⟨i1, i2⟩ := dropK_rel k e.2 h2
    unfold dropK dropD at *
    rw [List.filter_cons, List.filter_cons, e.1]
    by_cases hk : decide (p.1 ≠ k) = true
    · rw [if_pos hk, if_pos hk, List.map_cons, List.map_cons, List.map_cons, List.map_cons, e.1, i1, e3]
      exact ⟨rfl, .cons h1 i2⟩
    · rw [if_neg hk, if_neg hk]
      exact ⟨i1, i2⟩
def isHl (x : D) (s : S) : Bool := (hlOf x s).isSome
/-- o.pop(e): of a list or a dict -/
noncomputable def popM (mo mk : ME D) : ME D := fun env s => bd (mo env s) fun x s1 => if isLst x s1 = true then (if isLst x s1 = true then bd (consM mk nilM env s1) fun ds s2 => pop1F x ds s2 else .bad) else if isDic x s1 = true then bd (mk env s1) fun y s2 => dpopF x y s2 else .bad
section
variable {X : Cx} {W : WX} {o e : Expr} {apos cpos : Pos} {mo mk : ME D}
theorem px_dpop (ho : PX X W o mo) (he : PX X W e mk) (m : M1 X o "pop" apos e cpos) : PX X W (.Call (.Attribute o "pop" apos) [e] [] cpos) (fun env s => bd (mo env s) fun x s1 => if isDic x s1 = true then bd (mk env s1) fun y s2 => dpopF x y s2 else .bad) := by
  refine PE.imp (pe_dpop1 ho he m) fun σ H Q h => (TX.bind (rel := RD X.K) h).imp fun v H1 ⟨g1, x, s1, env, R1, E1, r1, p1⟩ => ?_
  by_cases hx : isDic x s1 = true
  · rw [if_pos hx] at p1
    obtain ⟨p, rfl, hd⟩ := isD_of R1 r1 hx
    refine ⟨p, rfl, hd, TX.mk R1 E1 ((Post.bind (rel := RD X.K) p1).imp fun y H2 ⟨g2, dy, s2, st2, R2, r2, _, p2⟩ => ?_)⟩
    cases x with
    | ref a =>
      replace p2 : Post X.K W g2 H2 σ (RD X.K) (match s2.heap a with
        | some (.dK kvs) => match keyOf dy with
          | some k => match getK kvs k with
            | some d => .ok d (s2.upd a (.dK (dropD kvs k)))
            | none => .bad
          | none => .bad
        | _ => .bad) Q := p2
      split at p2
      · rename_i kvs ha
        split at p2
        · rename_i k hk
          split at p2
          · rename_i d hg
            obtain ⟨q, eq, hm⟩ := RD.mono st2.toStp0 _ _ r1
            cases eq
            obtain ⟨q', h1, _, ws, h3, h4, h5⟩ := R2.obj a _ ha
            rw [hm] at h1; cases h1
            obtain ⟨w, hw, rw'⟩ := (getK_pair k h4 h5).2 d hg
            have F := R2.freeAt ha rfl hm
            have st := stp_free (o := .dK (dropK ws k)) F.1 F.2
            obtain ⟨d1, d2⟩ := dropK_rel k h4 h5
            exact ⟨ws, k, w, h3, keyOf_ok r2 hk, hw, p2 g2 _ w st (R2.upd ha rfl hm ⟨_, upd_same, d1, RDs.mono st.toStp0 _ _ d2⟩) (RD.mono st.toStp0 _ _ rw')⟩
          · exact p2.elim
        · exact p2.elim
      · exact p2.elim
    | _ => exact p2.elim
  · rw [if_neg hx] at p1; exact p1.elim
theorem px_pop1 (ho : PX X W o mo) (he : PX X W e mk) (hst : starEach [e] X.env = (false, eval e X.env) :: starEach [] X.env) (m : M1 X o "pop" apos e cpos) : PX X W (.Call (.Attribute o "pop" apos) [e] [] cpos) (popM mo mk) := by
  have h1 : PX X W (.Call (.Attribute o "pop" apos) [e] [] cpos) (mthM isLst pop1F mo (consM mk nilM)) :=
    px_mt PySem.F.plainAttrs_list PySem.F.slot_list_pop PySem.F.type_list_pop mt_popAt opm_pop1 ty_lst ho (pl_cons hst he pl_nil) m.base m.few m.line hst (by show (backTo cpos []).any (·.1) = false; rfl)
  exact PE.imp (PE.or h1 (px_dpop ho he m)) fun σ H Q h => TE_or h
end
end Co
namespace Co
open PySem PySem.Spec PyProof.Rows L2
/-! ### list(d.values()) -/
def tLstVals (td : TE) : TE := fun σ H Q => td σ H fun x H1 => ∃ a kvs, x = V.ref a ∧ Rd H1 a (.dK kvs) ∧ ∀ l, H1 l = none → Q (.ref l) (upd H1 l (.lst (kvs.map (·.2))))
theorem pe_lstVals {X : Cx} {o : Expr} {p pos apos mpos : Pos} {td : TE} (hc : X.calm = true) (hg : Gl X "list") (hm : X.mg "list" = none) (hd : PE X o td) (hbase : attributeBase o "values" X.env (eval o X.env) = eval o X.env) (hline : (apos.endLine == mpos.line) = true)
    (hse : starEach [Expr.Call (.Attribute o "values" apos) [] [] mpos] X.env = (false, eval (Expr.Call (.Attribute o "values" apos) [] [] mpos) X.env) :: starEach [] X.env) :
    PE X (.Call (.Name "list" p) [.Call (.Attribute o "values" apos) [] [] mpos] [] pos) (tLstVals td) := by
  refine ⟨fun pins s σ H Q I h => ?_⟩
  refine Call_ (ld_blt I hg hm boot_list (PyProof.Rows.callWith_type1 (args_cons (wpAny_Call_method0_late hbase hline (thn (hd.run pins s σ H _ I h) fun v s1 ⟨x, H1, I1, r1, a, kvs, ex, ha, q⟩ => ?_)) hse) hse))
  subst ex
  obtain rfl : v = Value.ref a := r1
  obtain ⟨z, hsys, vs, rel, dof⟩ := (show ObjOk X.prog X.w H1 s1.heap a (.dK kvs) from ha.ok I1.hok)
  obtain ⟨ep, dat⟩ := dof.dictAt
  have dat' := dat
  obtain ⟨ob, es, ho, ex, hdat, hko, hpr, hnd⟩ := dat'
  refine ⟨"dict", "dict.values", F.plainAttrs_dict, F.slot_dict_values, F.type_dict_values, ⟨ob, ho, ex.1⟩, fun b e => ?_, Calls.callWith_builtin rfl (PySem.evalArgs_none ?_)⟩
  · cases e
    exact ⟨ob, ho, ex.2.1⟩
  refine call_meetsIn F.slot_dict_values ⟨ob, ho, ex.1⟩ F.entry_dict_values (F.args_dict_values_1 _) (meets_dict_values (mixKind X.prog X.w) a hsys) ⟨⟨vs, dof⟩, ?_⟩
  have k1 : ∀ b u, s1.heap.get? b = some u → (s1.heap.push { cls := .type "dict_values", data := .fields #[.ref a] }).get? b = some u := fun b u e => Heap.get?_push_of_some _ e
  have dat1 : (s1.heap.push { cls := .type "dict_values", data := .fields #[.ref a] }).DictAt (mixKind X.prog X.w) a vs ep := dat.keep k1
  have hl : kvs.length = vs.length := Paired.length rel
  refine args_nil ?_
  have I2 : Inv X pins σ H1 { s1 with heap := s1.heap.push { cls := .type "dict_values", data := .fields #[.ref a] } } := I1.kept (t' := s1.toks) k1
  refine PySem.W.kdl_call (PySem.W.kdl_values (knd := mixKind X.prog X.w) (kvs := vs) (ep := ep) (r := s1.heap.objs.size) (d := a)) (I1.ok.hd hc) ⟨⟨_, Heap.get?_push_size _ rfl, rfl, rfl⟩, dat1⟩ (by rw [← hl]; exact z) fun h' tk acc' c' hkeep hS hacc => ?_
  have e1 : acc'.toList.length = acc'.size := by simp
  refine ⟨.ref _, upd H1 _ (.lst (kvs.map (·.2))), I2.laid hkeep (Nat.le_refl _) (show ObjOk X.prog X.w _ _ _ (.lst (kvs.map (·.2))) from ⟨by rw [List.length_map]; exact z, acc'.toList, c', ?_, ?_⟩), rfl, q _ (I2.hok.fresh (Nat.le_refl _))⟩
  · refine vals_of_at (by rw [List.length_map, e1, hacc.1, hl]) fun j x w h1 h2 => ?_
    obtain ⟨k, hk⟩ := hacc.2 j w (by rw [← Array.getElem?_toList]; exact h2)
    rw [List.getElem?_map] at h1
    obtain ⟨kv, hkv, rfl⟩ := Option.map_eq_some_iff.mp h1
    obtain ⟨u, hu, ru⟩ := kv_get (k := kv.1) (v := kv.2) rel hkv
    rw [hk] at hu
    cases hu
    exact ru
  · rw [Array.toArray_toList]; exact hS
def lvalF (m : Bool) (x : D) (s : S) : R D := match dicOf x s with
  | some kvs => mkL m (kvs.map (·.2)) s
  | none => .bad
theorem px_lvals {X : Cx} {W : WX} {o : Expr} {mo : ME D} {m : Bool} {p pos apos mpos : Pos} (hc : X.calm = true) (hg : Gl X "list") (hm : X.mg "list" = none) (hd : PX X W o mo) (hbase : attributeBase o "values" X.env (eval o X.env) = eval o X.env) (hline : (apos.endLine == mpos.line) = true)
    (hse : starEach [Expr.Call (.Attribute o "values" apos) [] [] mpos] X.env = (false, eval (Expr.Call (.Attribute o "values" apos) [] [] mpos) X.env) :: starEach [] X.env) :
    PX X W (.Call (.Name "list" p) [.Call (.Attribute o "values" apos) [] [] mpos] [] pos) (op1M (lvalF m) mo) := by
  refine PE.imp (pe_lstVals hc hg hm hd hbase hline hse) fun σ H Q h => (TX.bind (rel := RD X.K) h).imp fun v H1 ⟨g1, x, s1, env, R1, E1, r1, p1⟩ => ?_
  unfold lvalF at p1
  cases e : dicOf x s1 with
  | none => rw [e] at p1; exact p1.elim
  | some kvs =>
    rw [e] at p1
    obtain ⟨p, ws, rfl, e2, e3, e4⟩ := dic_ok R1 r1 e
    exact ⟨p, ws, rfl, e2, (post_mkL R1 e4 p1).2⟩
end Co
namespace Co
open PySem PySem.Spec PyProof.Rows L2
/-! ### dict displays -/
def flatV : List (V × V) → List V
  | [] => []
  | p :: ps => p.1 :: p.2 :: flatV ps
/-- the pairs of a display, keys and values by turns -/
abbrev RVV (K : Frag) : Gh → Hp → List D → List (V × V) → Prop := fun g H ds ps => RDs K g H ds (flatV ps)
structure PRs (X : Cx) (W : WX) (pos : Pos) (keys : List (Option Expr)) (values : List Expr) (m : ME (List D)) : Prop where
  run : ∀ (pins : List (Addr × Obj)) (s : Shared) (σ : L2.St) (H : Hp) (Q : List (V × V) → Hp → Prop), Inv X pins σ H s → TX X.K W (RVV X.K) m σ H Q →
    wpAny (model X.prog X.w) X.A (evalPairs (pairTrees keys values X.env pos)) (fun vs s' => ∃ ps H', Inv X pins σ H' s' ∧ VV ps vs ∧ Q ps H') X.xe s
  len : keys.length = values.length
  all : keys.all (·.isSome) = true
section
variable {X : Cx} {W : WX} {pos : Pos}
theorem prs_nil : PRs X W pos [] [] nilM := ⟨fun pins s σ H Q I ⟨g, t, env, R, E, p⟩ => pairTrees_nil_walk ⟨[], H, I, .nil, p g H [] (.refl _ _) R rfl⟩, rfl, rfl⟩
theorem prs_cons {k v : Expr} {ks : List (Option Expr)} {vs : List Expr} {mk mv : ME D} {mr : ME (List D)} (hk : PX X W k mk) (hv : PX X W v mv) (hr : PRs X W pos ks vs mr) : PRs X W pos (some k :: ks) (v :: vs) (consM mk (consM mv mr)) := by
  refine ⟨fun pins s σ H Q I h => ?_, by simp [hr.len], by simpa using hr.all⟩
  refine pairTrees_cons_walk (thn (hk.run pins s σ H _ I (TX.bind (rel := RD X.K) h)) fun u s1 ⟨x, H1, I1, rx, q1⟩ => ?_)
  obtain ⟨g1, d, t1, env, R1, E1, r1, p1⟩ := q1
  unfold consM at p1
  rw [bd_assoc] at p1
  refine thn (hv.run pins s1 σ H1 _ I1 (TX.mk R1 E1 (Post.bind (rel := RD X.K) p1))) fun w s2 ⟨y, H2, I2, ry, q2⟩ => ?_
  obtain ⟨g2, e, t2, st2, R2, r2, _, p2⟩ := q2
  rw [bd_assoc] at p2
  refine thn (hr.run pins s2 σ H2 _ I2 (TX.mk R2 (E1.mono st2.toStp0) (Post.bind (rel := RVV X.K) p2))) fun ws s3 ⟨ps, H3, I3, rel, q3⟩ => ?_
  obtain ⟨g3, es, t3, st3, R3, r3, _, p3⟩ := q3
  exact ⟨(x, y) :: ps, H3, I3, .cons ⟨rx, ry⟩ rel, p3 g3 H3 _ (.refl _ _) R3 (.cons (RD.mono (st2.trans st3).toStp0 _ _ r1) (.cons (RD.mono st3.toStp0 _ _ r2) r3))⟩
end
def pairUp : List D → Option (List (Key × D))
  | [] => some []
  | k :: v :: ds => match keyOf k, pairUp ds with
    | some k, some kvs => some ((k, v) :: kvs)
    | _, _ => none
  | _ => none
def dspF (ds : List D) (s : S) : R D := match pairUp ds with
  | some kvs => if kvs.length ≤ 15 then mkD true (mergeD [] kvs) s else .bad
  | none => .bad
theorem pairUp_ok {K : Frag} {g : Gh} {H : Hp} : ∀ {ds : List D} {ps : List (V × V)} {kvs : List (Key × D)}, RDs K g H ds (flatV ps) → pairUp ds = some kvs → ∃ ws : List (Key × V), ps = ws.map (fun kv => (kV kv.1, kv.2)) ∧ ws.map (·.1) = kvs.map (·.1) ∧ RDs K g H (kvs.map (·.2)) (ws.map (·.2))
  | [], [], kvs, r, e => by cases e; exact ⟨[], rfl, rfl, rfl⟩
  | [], p :: ps, kvs, r, e => by have := r.length; simp [flatV] at this
  | [_], ps, kvs, r, e => by cases e
  | k :: v :: ds, [], kvs, r, e => by have := r.length; simp [flatV] at this
  | k :: v :: ds, p :: ps, kvs, r, e => by
    obtain ⟨a, as, ea, r1, b, bs, eb, r2, r3⟩ := r
    cases ea; cases eb
    unfold pairUp at e
    split at e
    · rename_i k' kvs' hk hp
      cases e
      obtain ⟨ws, h1, h2, h3⟩ := pairUp_ok r3 hp
      exact ⟨(k', p.2) :: ws, by rw [List.map_cons, ← h1, ← keyOf_ok r1 hk], by simp [h2], .cons r2 h3⟩
    · cases e
def dspTF (ds : List D) (s : S) : R D := match ds with
  | [k, v] => match keyT k with
    | some ks => .ok (.ref s.next) (s.alloc (.dT [(ks, v)]))
    | none => .bad
  | _ => .bad
section
variable {X : Cx} {W : WX} {pos : Pos} {keys : List (Option Expr)} {values : List Expr} {m : ME (List D)}
theorem px_disp (h : PRs X W pos keys values m) (h0 : keys ≠ []) (h15 : keys.length ≤ 15) : PX X W (.Dict keys values pos) (argM dspF m) := by
  refine ⟨fun pins s σ H Q I q => ?_⟩
  obtain ⟨g, t, env, R, E, p⟩ := q
  have p : Post X.K W g H σ (RD X.K) (bd (m env t) dspF) Q := p
  have hn := I.hok.fresh (Nat.le_refl s.heap.objs.size)
  have I1 := I.laid (a := s.heap.objs.size) (o := .dK []) (h' := s.heap.push { cls := .type "dict", data := .dict #[] }) (t' := s.toks) (fun _ _ q => Heap.get?_push_of_some _ q) (Nat.le_refl _) (dk_empty s.heap I.big)
  have O : Own g t (upd H s.heap.objs.size (.dK [])) s.heap.objs.size := own_new R hn
  have st0 : Stp g H g (upd H s.heap.objs.size (.dK [])) := stp_new R hn
  have RP := (R.new (o := .dK []) hn).prot O
  have sP := st0.trans (stp_prot (p := s.heap.objs.size))
  refine wpAny_Dict_walk (knd := mixKind X.prog X.w) h.all h.len h0 h15 (thn (h.run pins _ σ _ _ I1 (TX.mk RP (E.mono sP.toStp0) (Post.bind (rel := RVV X.K) (Post.later sP p)))) fun ws s2 ⟨ps, H2, I2, rel, q2⟩ => ?_)
  obtain ⟨g2, ds, t2, st2, R2, r2, en, _⟩ := q2
  rw [en] at p
  have p : Post X.K W g H σ (RD X.K) (dspF ds t2) Q := p
  unfold dspF at p
  cases ep : pairUp ds with
  | none => rw [ep] at p; exact p.elim
  | some kvs =>
    rw [ep] at p
    simp only at p
    by_cases hk : kvs.length ≤ 15
    · rw [if_pos hk] at p
      obtain ⟨us, rfl, e2, e3⟩ := pairUp_ok r2 ep
      obtain ⟨m1, m2⟩ := merge_rel (kvs := []) (us := []) e2 e3 rfl rfl
      obtain ⟨k1, k2, k3, k4, k5⟩ := turn_end (ob := .dK (mergeK [] us)) st2 R2 O (fun xs e => by rw [upd_same] at e; cases e) (fun o u e => by rw [upd_same] at e; cases e)
      have e : H2 s.heap.objs.size = some (.dK []) := k1.trans upd_same
      obtain ⟨rs, c, rk⟩ := carries_of (P := X.prog) (w := X.w) rel
      obtain ⟨z, hd, vs0, r0, dd⟩ := dk_of I2.hok e
      cases r0
      refine ⟨rs, c, dd, fun h' dd' hs => ⟨.ref s.heap.objs.size, _, ?_, rfl, own_mkD k3 k4 upd_same m1 (RDs.mono k5 _ _ m2) (Post.later (st0.trans k2) p)⟩⟩
      have hz : (mergeK [] us).length ≤ sizeLine := by
        have h1 := length_mergeK us []
        have h2 := congrArg List.length e2
        rw [List.length_map, List.length_map] at h2
        rw [List.length_nil] at h1
        rw [sizeLine_eq]; omega
      have he : ∃ q, h'.get? s.heap.objs.size = some q := let ⟨q, _, _, hq, _⟩ := dd'; ⟨q, hq⟩
      exact d_write I2 (by rw [e]; exact True.intro) hs he (dk_new hz hd (rk.merge .nil) dd')
    · rw [if_neg hk] at p; exact p.elim
theorem Dict_pairsH {prog : Program} {w : World} {K : Type} [DecidableEq K] {knd : HeapKind prog w K} {A : Around} {E : Value → Shared → Prop} {s : Shared} {env : PySem.Env} {keys : List (Option Expr)} {values : List Expr} {pos : Pos} {pairs : List (Sem Value × Sem Value)} {Q : Value → Shared → Prop} (hu : knd.room A)
    (hshape : (evalEachOpt keys env).zip ((evalEach values env).map fun v => do let x ← v; standAt pos; pure x) = pairs.map fun p => (some p.1, p.2)) (h0 : pairs ≠ []) (hlen : pairs.length ≤ 15)
    (h : wpAny (model prog w) A (evalPairs pairs) (fun vs s₁ => ∃ ps, CarriesH knd s₁.heap vs ps ∧ s₁.heap.DictOfH knd s.heap.objs.size [] ∧
      ∀ h' tk, h'.DictOfH knd s.heap.objs.size (storedAllH [] ps) → Heap.SameBut s.heap.objs.size s₁.heap h' → Q (.ref s.heap.objs.size) { s₁ with heap := h', toks := tk }) E
      { s with heap := s.heap.push { cls := .type "dict", data := .dict #[] } }) :
    wpAny (model prog w) A (eval (.Dict keys values pos) env) Q E s := by
  rw [arm_eval_Dict, hshape, dictDisplay_pairs pairs h0 (by omega)]
  exact wpAny_bind (wpAny_standAt (wpAny_bind (wpAny_subDictH (knd := knd) (Q := fun d s' => wpAny (model prog w) A (pure (Value.ref d)) Q E s') hu hlen
    (wpAny_mono h (fun vs s₁ h₁ => by obtain ⟨ps, hc, hm, hq⟩ := h₁; exact ⟨ps, hc, hm, fun h' tk a b => wpAny_pure (hq h' tk a b)⟩) fun _ _ e => e))))
/-- {(..): v} -/
theorem px_dispT {k v : Expr} {mk mv : ME D} (hu : X.A.units < cLine) (hk : PX X W k mk) (hv : PX X W v mv) : PX X W (.Dict [some k] [v] pos) (argM dspTF (consM mk (consM mv nilM))) := by
  have h : PRs X W pos [some k] [v] (consM mk (consM mv nilM)) := prs_cons hk hv prs_nil
  refine ⟨fun pins s σ H Q I q => ?_⟩
  obtain ⟨g, t, env, R, E, p⟩ := q
  have p : Post X.K W g H σ (RD X.K) (bd (consM mk (consM mv nilM) env t) dspTF) Q := p
  have hn := I.hok.fresh (Nat.le_refl s.heap.objs.size)
  have I1 := I.laid (a := s.heap.objs.size) (o := .dT []) (h' := s.heap.push { cls := .type "dict", data := .dict #[] }) (t' := s.toks) (fun _ _ q => Heap.get?_push_of_some _ q) (Nat.le_refl _) (dt_empty s.heap I.big)
  have O : Own g t (upd H s.heap.objs.size (.dT [])) s.heap.objs.size := own_new R hn
  have st0 : Stp g H g (upd H s.heap.objs.size (.dT [])) := stp_new R hn
  have RP := (R.new (o := .dT []) hn).prot O
  have sP := st0.trans (stp_prot (p := s.heap.objs.size))
  have hlen : (pairTrees [some k] [v] X.env pos).length = 1 := pairTrees_length _ _ _ _ h.all h.len
  refine Dict_pairsH (knd := tupleKind (mixKind X.prog X.w)) (pairs := pairTrees [some k] [v] X.env pos) hu (zip_pairTrees _ _ _ _ h.all h.len) (fun z => by rw [z] at hlen; cases hlen) (by omega)
    (thn (h.run pins _ σ _ _ I1 (TX.mk RP (E.mono sP.toStp0) (Post.bind (rel := RVV X.K) (Post.later sP p)))) fun ws s2 ⟨ps, H2, I2, rel, q2⟩ => ?_)
  obtain ⟨g2, ds, t2, st2, R2, r2, en, _⟩ := q2
  rw [en] at p
  have p : Post X.K W g H σ (RD X.K) (dspTF ds t2) Q := p
  unfold dspTF at p
  obtain ⟨kd, vd, ed⟩ : ∃ kd vd, ds = [kd, vd] := by
    split at p
    · exact ⟨_, _, rfl⟩
    · exact p.elim
  subst ed
  simp only at p
  cases ek : keyT kd with
  | none => rw [ek] at p; exact p.elim
  | some ks =>
    rw [ek] at p
    simp only at p
    obtain ⟨x, as, ea, r3, y, bs, eb, r4, r5⟩ := r2
    cases ps with
    | nil => cases ea
    | cons pp ps =>
      cases ea; cases eb
      cases ps with
      | cons _ _ => cases r5
      | nil =>
        cases rel with
        | @cons _ wv _ _ hw t0 =>
          cases t0
          have ht : ∃ a, pp.1 = .ref a ∧ H2 a = some (.tup (ks.map kV)) := by
            cases kd with
            | tup ks' =>
              obtain ⟨a, vs, e1, e2, e3⟩ := r3
              exact ⟨a, e1, by rw [e2, keysOf_ok e3 ek]⟩
            | _ => cases ek
          obtain ⟨a, e1, e2⟩ := ht
          obtain ⟨k1, k2, k3, k4, k5⟩ := turn_end (ob := .dT [(ks, pp.2)]) st2 R2 O (fun xs e => by rw [upd_same] at e; cases e) (fun o u e => by rw [upd_same] at e; cases e)
          have e : H2 s.heap.objs.size = some (.dT []) := k1.trans upd_same
          obtain ⟨z, hd, xs0, r0, dd⟩ := dt_of I2.hok e
          cases r0
          have hw1 : wv.1 = Value.ref a := by have := hw.1; rw [e1] at this; exact this
          have ne : a ≠ s.heap.objs.size := fun z => by rw [z, e] at e2; cases e2
          refine ⟨[(ks, a, wv.2)], ⟨hw1, rfl, key_of I2.hok e2, trivial⟩, dd, fun h' tk dd' hs => ⟨.ref s.heap.objs.size, upd H2 s.heap.objs.size (.dT [(ks, pp.2)]), ?_, rfl, ?_⟩⟩
          · obtain ⟨q, es, ep, hq, h2, h3, h4, _, h5⟩ := dd'
            refine d_write I2 (by rw [e]; exact True.intro) hs ⟨q, hq⟩ ⟨by rw [List.length_singleton, sizeLine_eq]; omega, hd, [(ks, a, wv.2)], .cons ⟨rfl, by rw [upd_ne ne]; exact e2, hw.2⟩ .nil, q, es, ep, hq, h2, h3, h4, h5⟩
          · have rf : RDs X.K (g2.unprot s.heap.objs.size) (upd H2 s.heap.objs.size (.dT [(ks, pp.2)])) [vd] [pp.2] := .cons (RD.mono k5 _ _ r4) rfl
            have sA := stp_add0 (p := s.heap.objs.size) k3
            exact Post.later (st0.trans k2) p ((g2.unprot s.heap.objs.size).add t2.next s.heap.objs.size) _ _ sA (k3.addOwn k4 ⟨[(ks, pp.2)], upd_same, rfl, RDs.mono sA.toStp0 _ _ rf⟩) ⟨s.heap.objs.size, rfl, if_pos rfl⟩
end
end Co
namespace Co
open PySem PySem.Spec PyProof.Rows L2
/-! ### a < b < c -/
section
variable {X : Cx} {W : WX} {a b c : Expr} {ma mb mc : ME D} {pos : Pos}
theorem chain_of {r r' : R2} {f f' : D → D → S → R D} (hf : Op2 X.K r f) (hf' : Op2 X.K r' f') (σ : L2.St) (H : Hp) (Q : VK) (h : TE' X.K W (chainM f f' ma mb mc) σ H Q) : tChain r r' (TE' X.K W ma) (TE' X.K W mb) (TE' X.K W mc) σ H Q := by
  refine (TX.bind (rel := RD X.K) h).imp fun v H1 ⟨g1, x, s1, env, R1, E1, r1, p1⟩ => ?_
  refine TX.mk (g := g1) (s := s1) (env := env) R1 E1 ((Post.bind (rel := RD X.K) p1).imp fun w H2 ⟨g2, y, s2, st, R2, r2, _, p2⟩ => ?_)
  refine hf W g2 s2 H2 σ x y v w _ R2 (RD.mono st.toStp0 x v r1) r2 ((Post.bind (rel := RD X.K) p2).imp fun u H3 ⟨g3, z, s3, st3, R3, r3, _, p3⟩ => ?_)
  cases z with
  | bl k =>
    refine ⟨k, r3, ?_⟩
    cases k with
    | false =>
      rw [if_neg Bool.false_ne_true]
      exact p3 g3 H3 _ (.refl _ _) R3 rfl
    | true =>
      rw [if_pos rfl]
      have p4 : Post X.K W g3 H3 σ (RD X.K) (bd (mc env s3) fun w s4 => f' y w s4) Q := p3
      refine TX.mk (g := g3) (s := s3) (env := env) R3 (E1.mono (st.trans st3).toStp0) ((Post.bind (rel := RD X.K) p4).imp fun u H4 ⟨g4, z, s4, st4, R4, r4, _, p4⟩ => ?_)
      exact hf' W g4 s4 H4 σ y z w u Q R4 (RD.mono (st3.trans st4).toStp0 y w r2) r4 p4
  | _ => exact p3.elim
theorem px_chn {op op' : CmpOp} {r r' : R2} {f f' : D → D → S → R D} (ho : OpR X (compareOp op) r) (ho' : OpR X (compareOp op') r') (hf : Op2 X.K r f) (hf' : Op2 X.K r' f') (hm : behindInMarks op' c = false) (ha : PX X W a ma) (hb : PX X W b mb) (hc : PX X W c mc) :
    PX X W (.Compare a [op, op'] [b, c] pos) (chainM f f' ma mb mc) := PE.imp (pe_chain ho ho' ha hb hc hm) (chain_of hf hf')
theorem pb_chn {op op' : CmpOp} {r r' : R2} {f f' : D → D → S → R D} (ho : OpR X (compareOp op) r) (ho' : OpR X (compareOp op') r') (hf : Op2 X.K r f) (hf' : Op2 X.K r' f') (hm : behindInMarks op' c = false) (ha : PX X W a ma) (hb : PX X W b mb) (hc : PX X W c mc) :
    PB X W (.Compare a [op, op'] [b, c] pos) (boolM (chainM f f' ma mb mc)) := PT.imp (pt_chain ho ho' ha hb hc hm) (tTest_of (chain_of hf hf'))
end
/-! ### enumerate -/
def enD (ds : List D) : List D := ds.zipIdx.map fun p => .tup [.int (p.2 : Nat), p.1]
def enIt (x : D) (s : S) : R Itm := match lstOf x s with
  | some ds => .ok (enD ds, gdOf x s) s
  | none => .bad
def enItM (m : ME D) : ME Itm := fun env s => bd (m env s) enIt
theorem lst_now {K : Frag} {g g1 : Gh} {s s1 : S} {H H1 : Hp} {x : D} {ds : List D} {q : Addr} (r : RD K g H x (.ref q)) (e : lstOf x s = some ds) (st : Stp g H g1 H1) (R1 : Rel K g1 s1 H1) (gd : GdOk (gdOf x s) s1) : ∃ vs, SqL K H1 q vs ∧ RDs K g1 H1 ds vs := by
  cases x with
  | lv xs =>
    cases e
    obtain ⟨p, us, ep, z, h1, h2⟩ := r
    cases ep
    exact ⟨us, .of ((st.z q z).2.trans h1), RDs.mono st.toStp0 _ _ h2⟩
  | sc xs =>
    cases e
    obtain ⟨p, us, ep, h1, h2⟩ := r
    cases ep
    exact ⟨us, (st.toStp0.sqS h1).seq, RDs.mono st.toStp0 _ _ h2⟩
  | ref a =>
    obtain ⟨p, ep, hm⟩ := r
    cases ep
    have e' : (match s.heap a with | some (.lst ds) => some ds | _ => none) = some ds := e
    split at e'
    · rename_i xs ha
      cases e'
      have gd' : s1.heap a = some (.lst ds) := by
        have : gdOf (.ref a) s = some (a, .lst ds) := by
          show (match s.heap a with | some o => some (a, o) | none => none) = _
          rw [ha]
        rw [this] at gd
        exact gd
      obtain ⟨q', h1, _, us, h3, h4⟩ := R1.obj a _ gd'
      rw [st.mu a q hm] at h1; cases h1
      exact ⟨us, .of h3, h4⟩
    · cases e'
  | _ => cases e
theorem itOk_enum {K : Frag} {g : Gh} {s : S} {H : Hp} {x : D} {ds : List D} {q : Addr} (r : RD K g H x (.ref q)) (e : lstOf x s = some ds) : ItOk K g H (Ite K q) (enD ds, gdOf x s) := by
  intro g1 H1 s1 st R1 gd
  obtain ⟨us, n1, n2⟩ := lst_now r e st R1 gd
  refine ⟨⟨us, n1, by show us.length ≤ (enD ds).length; unfold enD; rw [List.length_map, List.length_zipIdx, n2.length]; exact Nat.le_refl _⟩, fun i d ei => ?_⟩
  have ei : (enD ds)[i]? = some d := ei
  unfold enD at ei
  rw [List.getElem?_map, List.getElem?_zipIdx] at ei
  obtain ⟨pr, hp, rfl⟩ := Option.map_eq_some_iff.mp ei
  obtain ⟨d', hd, rfl⟩ := Option.map_eq_some_iff.mp hp
  obtain ⟨v, hv, rv⟩ := n2.get hd
  refine ⟨⟨us, v, n1, hv⟩, fun x H2 y => ?_⟩
  obtain ⟨T, x', rfl, hT, rfl, y⟩ := y
  have ev := y us n1
  rw [hv] at ev
  cases ev
  have st2 := stp_new (o := .tup [.int (i : Nat), v]) R1 hT
  refine ⟨g1, st2, R1.new hT, T, _, rfl, upd_same, .cons ?_ (.cons (RD.mono st2.toStp0 _ _ rv) .nil)⟩
  show V.int _ = V.int _
  simp
section
variable {X : Cx} {W : WX} {a : Expr} {ma : ME D}
theorem pi_en {p pos tpos : Pos} {elts : List Expr} {kk : Nat} (hg : Gl X "enumerate") (hm : X.mg "enumerate" = none) (hs : starEach [a] X.env = (false, eval a X.env) :: starEach [] X.env) (ha : PX X W a ma) :
    PIX X W (.Tuple elts kk tpos) (.Call (.Name "enumerate" p) [a] [] pos) (enItM ma) := by
  have hpl : PL X W [a] (consM ma nilM) := pl_cons hs ha pl_nil
  refine PI.imp (pi_enum hg hm hpl hs) fun σ H Q h => ?_
  have h' : TX X.K W (RDs X.K) (consM ma nilM) σ H (fun vs H1 => ∃ a xs, vs = [.ref a] ∧ SqL X.K H1 a xs ∧ Q (Ite X.K a) H1) := by
    obtain ⟨g, s, env, R, E, q⟩ := h
    refine ⟨g, s, env, R, E, ?_⟩
    have q : Post X.K W g H σ (fun g H im J => ItOk X.K g H J im) (bd (ma env s) enIt) Q := q
    unfold consM nilM
    cases hm : ma env s with
    | ok x s1 =>
      rw [hm] at q
      intro g1 H1 vs st R1 r
      obtain ⟨v, us, rfl, r1, r2⟩ := r
      cases r2
      have q : Post X.K W g H σ (fun g H im J => ItOk X.K g H J im) (enIt x s1) Q := q
      unfold enIt at q
      cases e : lstOf x s1 with
      | none => rw [e] at q; exact q.elim
      | some ds =>
        rw [e] at q
        obtain ⟨p, vs, rfl, e2, e3⟩ := lst_ok R1 r1 e
        exact ⟨p, vs, rfl, e2, q g1 H1 _ st R1 (itOk_enum r1 e)⟩
    | exc c fs s1 => rw [hm] at q; exact q
    | bad => rw [hm] at q; exact q
  exact h'
end
/-! ### a tuple that is known to hold no dict -/
def tTupN (t : TA) : TE := fun σ H Q => t σ H fun xs H1 => xs.length ≤ sizeLine ∧ ∀ p o, H1 p = none → o.dict = none → Q (.ref p) (upd H1 p (.frz o (.tup xs)))
theorem pe_tupN {X : Cx} {es : List Expr} {k : Nat} {pos : Pos} {t : TA} (h : PA X es t) : PE X (.Tuple es k pos) (tTupN t) := by
  refine ⟨fun pins s σ H Q I hq => ?_⟩
  refine wpAny_Tuple_spliced (thn (h.run pos pins s σ H _ I hq) fun us s1 ⟨xs, H1, I1, r, z, q⟩ => ⟨by rw [← r.length]; exact z, ?_⟩)
  have hf : H1 s1.heap.objs.size = none := I1.hok.fresh (Nat.le_refl _)
  exact ⟨.ref s1.heap.objs.size, upd H1 s1.heap.objs.size (.frz _ (.tup xs)), I1.laid (t' := s1.toks) (fun b u e => Heap.get?_push_of_some _ e) (Nat.le_refl _) ⟨Heap.get?_push_size _ rfl, z, us, r, ⟨_, Heap.get?_push_size _ rfl, rfl, _, rfl⟩⟩, rfl, q _ _ hf rfl⟩
theorem px_ctup {X : Cx} {W : WX} {es : List Expr} {k : Nat} {pos : Pos} {mes : ME (List D)} (h : PL X W es mes) : PX X W (.Tuple es k pos) (argM (mkC true) mes) :=
  PE.imp (pe_tupN h) fun σ H Q hq => (TX.bind (rel := RDs X.K) hq).imp fun vs H1 ⟨g1, ds, s1, env, R1, E1, r1, p1⟩ => ⟨by
    unfold mkC at p1
    rw [if_pos rfl] at p1
    by_cases hl : ds.length ≤ LINE
    · rw [← r1.length]; exact hl
    · rw [if_neg hl] at p1; exact p1.elim, fun p o hp ho => post_mkC R1 r1 p1 p o hp ho⟩
/-- x += e, ints -/
theorem op2_ipadd {K : Frag} : Op2 K (ipI fun i j => i + j) (intF CTrue fun i j => .int (i + j)) := by
  intro W g s H σ x y v w Q R rx ry h
  cases x with
  | int i =>
    cases y with
    | int j =>
      cases rx; cases ry
      have h' : Post K W g H σ (RD K) (if CTrue i j then .ok (.int (i + j)) s else .bad) Q := h
      rw [if_pos (show CTrue i j from trivial)] at h'
      exact ⟨i, j, rfl, rfl, h' g H _ (.refl _ _) R rfl⟩
    | _ => exact h.elim
  | _ => cases y <;> exact h.elim
end Co
namespace Co
open PySem PySem.Spec PyProof.Rows L2
/-! ### the core program -/
inductive Op where
  | add | sub | mul | mod | fdiv | pow
inductive Cm where
  | eq | ne | lt | le | gt | ge | is_ | isn | in_ | nin
inductive Bl where
  | len | int | str | tup | lst | dict | sort | max2 | min2 | repr
inductive Mt where
  | app | ext | ins | idx
def Op.py : Op → Operator
  | .add => .Add | .sub => .Sub | .mul => .Mult | .mod => .Mod | .fdiv => .FloorDiv | .pow => .Pow
def Cm.py : Cm → CmpOp
  | .eq => .Eq | .ne => .NotEq | .lt => .Lt | .le => .LtE | .gt => .Gt | .ge => .GtE | .is_ => .Is | .isn => .IsNot | .in_ => .In | .nin => .NotIn
noncomputable def opF : Op → Bool → D → D → S → R D
  | .add, m => addF m
  | .sub, _ => subF
  | .mul, _ => mulF
  | .mod, _ => modF
  | .fdiv, _ => fdivF
  | .pow, _ => powF
def cmF : Cm → D → D → S → R D
  | .eq => eqF false
  | .ne => eqF true
  | .lt => ltF
  | .le => leF
  | .gt => gtF
  | .ge => geF
  | .is_ => isNF false
  | .isn => isNF true
  | .in_ => inF false
  | .nin => inF true
noncomputable def blF : Bl → Bool → List D → S → R D
  | .len, _ => lenF
  | .int, _ => intB
  | .str, _ => strB
  | .tup, c => tupB c
  | .lst, m => lstB m
  | .dict, _ => dicF
  | .sort, m => sortB m
  | .max2, _ => max2F
  | .min2, _ => min2F
  | .repr, _ => reprF
noncomputable def mtF : Mt → D → List D → S → R D
  | .app => appF
  | .ext => extF
  | .ins => insF
  | .idx => idxF
/-- expressions, tests, rows of arguments, iterables, statements: one type -/
inductive C where
  | var (i : Nat) | int (i : Int) | str (x : Str) | bl (b : Bool) | non | gl (k : Nat)
  | bin (o : Op) (m : Bool) (a b : C) | cmp (o : Cm) (a b : C) | chn (o p : Cm) (a b c : C) | ix (a b : C) | neg (a : C)
  | nil | cons (a as : C) | tup (as : C) | lst (m : Bool) (as : C) | dnew | dnewT
  | vnot (a : C) | vand (a b : C) | vor (a b : C) | v1 (a : C) | ite (t a b : C)
  | tru (a : C) | tcmp (o : Cm) (a b : C) | tnot (t : C) | tand (t u : C) | tor (t u : C) | tand1 (t : C) | tor1 (t : C)
  | abs | sl (m : Bool) (a lo hi : C) | rev (m : Bool) (a : C) | fld (c f : Str) (a : C)
  | call (j : Nat) (as : C) | meth (c n : Str) (j : Nat) (o as : C) | mk (c : Str) (j : Nat) (as : C) | blt (b : Bl) (m : Bool) (as : C)
  | mt (k : Mt) (o as : C) | pop0 (o : C) | lvals (m : Bool) (o : C) | pop (o a : C) | get1 (o a : C) | get2 (o a b : C) | frz (a : C) | lk (i a : C)
  | lc (m : Bool) (t : Tg) (own : List Nat) (it tst e : C) | dc (t : Tg) (own : List Nat) (it tst k v : C) | yes
  | rng1 (a : C) | rng2 (a b : C) | it (a : C) | vals (a : C) | items (a : C) | keys (a : C)
  | nx | ret (a : C) | retN | set (i : Nat) (a : C) | setT (t : Tg) (a : C) | setI (o i v : C) | setF (c f : Str) (o v : C) | ex (a : C) | ifs (t a b : C) | whl (t b : C) | fors (t : Tg) (it b : C) | brk | cnt | skip | seq (a b : C)
  | tchn (o p : Cm) (a b c : C) | dpn | dpc (k v r : C) | dsp (r : C) | dspT (k v : C) | ctup (as : C) | aug (i : Nat) (a : C) | en (a : C)
  | lks (i s : C) | setC (i : Nat) (m : Bool) (t : Tg) (own : List Nat) (it tst e : C)
/-- the meanings, by what the piece is taken for -/
structure M where
  x : ME D := fun _ _ => .bad
  t : ME Bool := fun _ _ => .bad
  l : ME (List D) := fun _ _ => .bad
  i : ME Itm := fun _ _ => .bad
  s : MS := fun _ _ => .bad
/-- a list that nobody changes any more -/
def frzF (d : D) (s : S) : R D := match d with
  | .ref a => match s.heap a with
    | some (.lst ds) => .ok (.lv ds) (s.free a)
    | _ => .bad
  | d => .ok d s
def isAbs : C → Bool
  | .abs => true
  | _ => false
noncomputable def ev (F : Nat → List D → S → R D) (G : Nat → D) : C → M
  | .var i => { x := varM i }
  | .int i => { x := litM (.int i) }
  | .str y => { x := litM (.str y) }
  | .bl b => { x := litM (.bl b) }
  | .non => { x := litM .non }
  | .gl k => { x := litM (G k) }
  | .bin o m a b => { x := op2M (opF o m) (ev F G a).x (ev F G b).x }
  | .cmp o a b => { x := op2M (cmF o) (ev F G a).x (ev F G b).x }
  | .chn o p a b c => { x := chainM (cmF o) (cmF p) (ev F G a).x (ev F G b).x (ev F G c).x }
  | .ix a b => { x := op2M ixF (ev F G a).x (ev F G b).x }
  | .neg a => { x := op1M negF (ev F G a).x }
  | .nil => { l := nilM }
  | .cons a as => { l := consM (ev F G a).x (ev F G as).l }
  | .tup as => { x := argM mkT (ev F G as).l }
  | .lst m as => { x := argM (mkL m) (ev F G as).l }
  | .dnew => { x := dnewM true }
  | .dnewT => { x := dnewTM }
  | .tchn o p a b c => { t := boolM (chainM (cmF o) (cmF p) (ev F G a).x (ev F G b).x (ev F G c).x) }
  | .dpn => { l := nilM }
  | .dpc k v r => { l := consM (ev F G k).x (consM (ev F G v).x (ev F G r).l) }
  | .dsp r => { x := argM dspF (ev F G r).l }
  | .dspT k v => { x := argM dspTF (consM (ev F G k).x (consM (ev F G v).x nilM)) }
  | .ctup as => { x := argM (mkC true) (ev F G as).l }
  | .aug i a => { s := augM i (intF CTrue fun i j => .int (i + j)) (ev F G a).x }
  | .en a => { i := enItM (ev F G a).x }
  | .vnot a => { x := notV (ev F G a).x }
  | .vand a b => { x := andV (ev F G a).x (ev F G b).x }
  | .vor a b => { x := orV (ev F G a).x (ev F G b).x }
  | .v1 a => { x := (ev F G a).x }
  | .ite t a b => { x := ifM (ev F G t).t (ev F G a).x (ev F G b).x }
  | .tru a => { t := truM (ev F G a).x }
  | .tcmp o a b => { t := boolM (op2M (cmF o) (ev F G a).x (ev F G b).x) }
  | .tnot t => { t := notM (ev F G t).t }
  | .tand t u => { t := andM (ev F G t).t (ev F G u).t }
  | .tor t u => { t := orM (ev F G t).t (ev F G u).t }
  | .tand1 t => { t := (ev F G t).t }
  | .tor1 t => { t := (ev F G t).t }
  | .abs => {}
  | .sl m a lo hi => { x := slM m (ev F G a).x (if isAbs lo then none else some (ev F G lo).x) (if isAbs hi then none else some (ev F G hi).x) }
  | .rev m a => { x := op1M (revF m) (ev F G a).x }
  | .fld c f a => { x := op1M (fldF c f) (ev F G a).x }
  | .call j as => { x := argM (F j) (ev F G as).l }
  | .meth c n j o as => { x := methN c n (F j) (ev F G o).x (ev F G as).l }
  | .mk c j as => { x := mkM c (F j) (ev F G as).l }
  | .blt b m as => { x := argM (blF b m) (ev F G as).l }
  | .mt k o as => { x := mthM isLst (mtF k) (ev F G o).x (ev F G as).l }
  | .pop0 o => { x := mthM isLst pop0F (ev F G o).x nilM }
  | .lvals m o => { x := op1M (lvalF m) (ev F G o).x }
  | .pop o a => { x := popM (ev F G o).x (ev F G a).x }
  | .get1 o a => { x := get1M (ev F G o).x (ev F G a).x }
  | .get2 o a b => { x := get2M (ev F G o).x (ev F G a).x (ev F G b).x }
  | .frz a => { x := op1M frzF (ev F G a).x }
  | .lk i a => { x := lockM (ev F G i).x (ev F G a).x }
  | .lc m t own it tst e => { x := lcM m t (ev F G it).i own (ev F G tst).t (ev F G e).x }
  | .dc t own it tst k v => { x := dcM true t (ev F G it).i own (ev F G tst).t (ev F G k).x (ev F G v).x }
  | .yes => { t := yesM }
  | .rng1 a => { i := rng1M (ev F G a).x }
  | .rng2 a b => { i := rng2M (ev F G a).x (ev F G b).x }
  | .it a => { i := anyItM (ev F G a).x }
  | .vals a => { i := valItM (ev F G a).x }
  | .items a => { i := iteItM (ev F G a).x }
  | .keys a => { i := keyItM (ev F G a).x }
  | .nx => { s := nxM }
  | .ret a => { s := retM (ev F G a).x }
  | .retN => { s := flM (.rt .non) }
  | .set i a => { s := setM i (ev F G a).x }
  | .setT t a => { s := Co.setT t (ev F G a).x }
  | .setI o i v => { s := Co.setI (ev F G o).x (ev F G i).x (ev F G v).x }
  | .setF c f o v => { s := Co.setF c f (ev F G o).x (ev F G v).x }
  | .ex a => { s := exprM (ev F G a).x }
  | .ifs t a b => { s := ifS (ev F G t).t (ev F G a).s (ev F G b).s }
  | .whl t b => { s := whileM (ev F G t).t (ev F G b).s }
  | .fors t it b => { s := forM t (ev F G it).i (ev F G b).s }
  | .brk => { s := flM .bk }
  | .cnt => { s := flM .ct }
  | .skip => { s := nxM }
  | .seq a b => { s := seqM (ev F G a).s (ev F G b).s }
  | .lks i s => { s := lockS (ev F G i).x (ev F G s).s }
  | .setC i m t own it tst e => { s := setM i (lcM m t (ev F G it).i own (ev F G tst).t (ev F G e).x) }
end Co
namespace Co
open PySem PySem.Spec PyProof.Rows L2
/-! ### the check of a core program against the tree -/
inductive FK where
  | fn | meth (c : Str) | init (c : Str)
structure FnI where
  name : Str
  kind : FK
  dep : Nat
  ps : List Str
structure Pi where
  N : List Str
  fns : List FnI
  gls : List Str
  frees : List Str
  nats : List (Str × Str)
  dep : Nat
structure Ck where
  x : Expr → Bool := fun _ => false
  t : Expr → Bool := fun _ => false
  w : Expr → Bool := fun _ => false
  l : List Expr → Bool := fun _ => false
  i : Expr → Expr → Bool := fun _ _ => false
  s : Stmt → Bool := fun _ => false
  b : List Stmt → Bool := fun _ => false
  p : Option Expr → Bool := fun _ => false
  ts : List Expr → Bool := fun _ => false
  r : List (Option Expr) → List Expr → Bool := fun _ _ => false
def tsB (k : Ck) : List Expr → Bool
  | [] => k.ts []
  | [q] => k.t q
  | _ => false
def optB (a : Bool) (k : Ck) (o : Option Expr) : Bool := if a then o.isNone else match o with
  | some e => k.x e
  | none => false
def visB (sc : Scope) (x : Str) : Bool := match sc.names.lookup x with
  | some .local => true
  | some .cell => true
  | some .free => true
  | _ => false
def locB (sc : Scope) (x : Str) : Bool := match sc.names.lookup x with
  | some .local => true
  | some .cell => true
  | _ => false
def isLocal (sc : Scope) (x : Str) : Bool := sc.names.lookup x == some .local
def glB (sc : Scope) (x : Str) : Bool := sc.names.lookup x == some .globalImplicit
def fnb (bs : Option Scope) (x : Str) : Bool := match bs with
  | none => true
  | some s => s.names.lookup x == some .cell
def dbg (x : Str) : Bool := x == ("__debug__" : Str)
def okName (x : Str) : Bool := !dbg x && !(x == ("__classdict__" : Str))
def notStar : Expr → Bool
  | .Starred _ _ => false
  | _ => true
def notSlice : Expr → Bool
  | .Slice _ _ _ _ => false
  | _ => true
def notSet : Expr → Bool
  | .Set _ _ _ => false
  | _ => true
def notTup : Expr → Bool
  | .Tuple _ _ _ => false
  | _ => true
def notComp : Expr → Bool
  | .ListComp _ _ _ _ => false
  | .SetComp _ _ _ _ => false
  | .DictComp _ _ _ _ _ => false
  | _ => true
/-- no call of a bare name: super().x is read apart -/
def plainBase : Expr → Bool
  | .Call (.Name _ _) [] [] _ => false
  | _ => true
/-- expressions whose truth is asked of their value -/
def valTest : Expr → Bool
  | .Name _ _ => true
  | .Attribute _ _ _ => true
  | .Call _ _ _ _ => true
  | .Subscript _ _ _ => true
  | _ => false
def relabelS (scope sc : Scope) : Scope :=
  { scope with names := scope.names.map fun (n, k) => if (k == .free && sc.kind == .function && sc.names.lookup n == some .cell) then (n, .cell) else (n, k) }
def ownOf (N : List Str) (own : List Nat) : List (Str × Nat) := own.map fun i => (((N[i]?).getD ""), i)
def blkB (N : List Str) (sc scope : Scope) (own : List Nat) : Bool :=
  scope.kind == .function && own.all (fun i => decide (i < N.length)) && scope.names.all (fun y => scope.names.lookup y.1 == some y.2) &&
  scope.names.all (fun y => !(y.2 == .free) || (sc.names.lookup y.1 == some .cell || sc.names.lookup y.1 == some .free)) &&
  scope.names.all (fun y => !(y.2 == .local || y.2 == .cell) || ((ownOf N own).any (fun p => p.1 == y.1) || !(N.any fun z => z == y.1)))
def subB (is own : List Nat) : Bool := is.all fun i => own.any fun j => i == j
def namesB (N : List Str) (sc : Scope) (bs : Option Scope) : List Nat → List Expr → Bool
  | [], [] => true
  | i :: is, .Name x _ :: es => N[i]? == some x && locB sc x && (fnb bs x || isLocal sc x) && namesB N sc bs is es
  | _, _ => false
def tgB (N : List Str) (sc : Scope) (bs : Option Scope) : Tg → Expr → Bool
  | .name i, .Name x _ => N[i]? == some x && locB sc x && (fnb bs x || isLocal sc x)
  | .tup is, .Tuple es _ _ => namesB N sc bs is es
  | _, _ => false
def freeB (P : Pi) (sc : Scope) (x y : Str) : Bool := x == y && glB sc x && P.frees.any (fun z => z == x)
def blName : Bl → Str
  | .len => "len" | .int => "int" | .str => "str" | .tup => "tuple" | .lst => "list" | .dict => "dict" | .sort => "sorted" | .max2 => "max" | .min2 => "min" | .repr => "repr"
def mtName : Mt → Str
  | .app => "append" | .ext => "extend" | .ins => "insert" | .idx => "index"
def natB (P : Pi) (c f : Str) : Bool := P.nats.any fun q => q.1 == c && q.2 == f
def lineB (apos cpos : Pos) : Bool := apos.endLine == cpos.line
def fewB (es : List Expr) : Bool := decide (es.length < 30)
def isFn : FK → Bool
  | .fn => true
  | _ => false
def isMeth (c : Str) : FK → Bool
  | .meth d => c == d
  | _ => false
def isInit (c : Str) : FK → Bool
  | .init d => c == d
  | _ => false
/-- y = [..], on one line, y a local name that the comprehension does not bind -/
def swapB (sc scope : Scope) (y : Str) (py epos : Pos) : Bool :=
  sc.kind == .function && isLocal sc y && py.line == epos.line && !(scope.names.any fun p => p.1 == y && (p.2 == .local || p.2 == .cell))
/-- .. off that -/
def swapFree (sc : Scope) (e : Expr) (y : Str) (py : Pos) : Bool := notComp e || (sc.kind == .function && match e with
  | .ListComp _ _ scope epos => !swapB sc scope y py epos
  | .DictComp _ _ _ scope epos => !swapB sc scope y py epos
  | _ => false)
def chk (P : Pi) : C → Scope → Option Scope → Ck
  | .var i, sc, bs => { x := fun e => match e with
      | .Name y _ => P.N[i]? == some y && visB sc y && okName y
      | _ => false }
  | .int i, _, _ => { x := fun e => match e with
      | .Constant (.int j) _ _ => decide (i = j)
      | _ => false }
  | .str z, _, _ => { x := fun e => match e with
      | .Constant (.str y) _ _ => z == y
      | _ => false }
  | .bl b, _, _ => { x := fun e => match e with
      | .Constant (.bool c) _ _ => b == c
      | _ => false }
  | .non, _, _ => { x := fun e => match e with
      | .Constant .none _ _ => true
      | _ => false }
  | .gl k, sc, _ => { x := fun e => match e with
      | .Name y _ => P.gls[k]? == some y && glB sc y && !dbg y
      | _ => false }
  | .bin o _ a b, sc, bs => { x := fun e => match e with
      | .BinOp l p r _ => p == o.py && (chk P a sc bs).x l && (chk P b sc bs).x r
      | _ => false }
  | .cmp o a b, sc, bs => { x := fun e => match e with
      | .Compare l [p] [r] _ => p == o.py && notSet r && (chk P a sc bs).x l && (chk P b sc bs).x r
      | _ => false }
  | .chn o p a b c, sc, bs => { x := fun e => match e with
      | .Compare l [p1, p2] [r, q] _ => p1 == o.py && p2 == p.py && notSet q && (chk P a sc bs).x l && (chk P b sc bs).x r && (chk P c sc bs).x q
      | _ => false }
  | .tchn o p a b c, sc, bs => { t := fun e => match e with
      | .Compare l [p1, p2] [r, q] _ => p1 == o.py && p2 == p.py && notSet q && (chk P a sc bs).x l && (chk P b sc bs).x r && (chk P c sc bs).x q
      | _ => false }
  | .dpn, _, _ => { r := fun ks vs => match ks, vs with
      | [], [] => true
      | _, _ => false }
  | .dpc k v r, sc, bs => { r := fun ks vs => match ks, vs with
      | some a :: ks, b :: vs => (chk P k sc bs).x a && (chk P v sc bs).x b && (chk P r sc bs).r ks vs
      | _, _ => false }
  | .dsp r, sc, bs => { x := fun e => match e with
      | .Dict (k :: ks) vs _ => decide (ks.length < 15) && (chk P r sc bs).r (k :: ks) vs
      | _ => false }
  | .dspT k v, sc, bs => { x := fun e => match e with
      | .Dict [some a] [b] _ => (chk P k sc bs).x a && (chk P v sc bs).x b
      | _ => false }
  | .ctup as, sc, bs => { x := fun e => match e with
      | .Tuple es _ _ => (chk P as sc bs).l es
      | _ => false }
  | .aug i a, sc, bs => { s := fun s => match s with
      | .AugAssign (.Name y _) o e _ => o == .Add && P.N[i]? == some y && locB sc y && (fnb bs y || isLocal sc y) && (chk P a sc bs).x e
      | _ => false }
  | .en a, sc, bs => { i := fun tg e => match tg, e with
      | .Tuple _ _ _, .Call (.Name y _) [e] [] _ => freeB P sc y "enumerate" && notStar e && (chk P a sc bs).x e
      | _, _ => false }
  | .ix a b, sc, bs => { x := fun e => match e with
      | .Subscript l r _ => notSlice r && (chk P a sc bs).x l && (chk P b sc bs).x r
      | _ => false }
  | .neg a, sc, bs => { x := fun e => match e with
      | .UnaryOp .USub r _ => (chk P a sc bs).x r
      | _ => false }
  | .nil, _, _ => { l := fun es => match es with
      | [] => true
      | _ => false }
  | .cons a as, sc, bs => { l := fun es => match es with
      | e :: es => notStar e && (chk P a sc bs).x e && (chk P as sc bs).l es
      | _ => false }
  | .tup as, sc, bs => { x := fun e => match e with
      | .Tuple es _ _ => (chk P as sc bs).l es
      | _ => false }
  | .lst _ as, sc, bs => { x := fun e => match e with
      | .List es _ => (chk P as sc bs).l es
      | _ => false }
  | .dnew, _, _ => { x := fun e => match e with
      | .Dict [] [] _ => true
      | _ => false }
  | .dnewT, _, _ => { x := fun e => match e with
      | .Dict [] [] _ => true
      | _ => false }
  | .vnot a, sc, bs => { x := fun e => match e with
      | .UnaryOp .Not r _ => (chk P a sc bs).x r
      | _ => false }
  | .vand a b, sc, bs => { x := fun e => match e with
      | .BoolOp .And (l :: r :: es) pos => (chk P a sc bs).x l && (chk P b sc bs).x (.BoolOp .And (r :: es) pos)
      | _ => false }
  | .vor a b, sc, bs => { x := fun e => match e with
      | .BoolOp .Or (l :: r :: es) pos => (chk P a sc bs).x l && (chk P b sc bs).x (.BoolOp .Or (r :: es) pos)
      | _ => false }
  | .v1 a, sc, bs => { x := fun e => match e with
      | .BoolOp _ [l] _ => (chk P a sc bs).x l
      | _ => false }
  | .ite t a b, sc, bs => { x := fun e => match e with
      | .IfExp c l r _ => (chk P t sc bs).t c && (chk P a sc bs).x l && (chk P b sc bs).x r
      | _ => false }
  | .tru a, sc, bs => { t := fun e => valTest e && (chk P a sc bs).x e }
  | .tcmp o a b, sc, bs => { t := fun e => match e with
      | .Compare l [p] [r] _ => p == o.py && notSet r && (chk P a sc bs).x l && (chk P b sc bs).x r
      | _ => false }
  | .tnot t, sc, bs => { t := fun e => match e with
      | .UnaryOp .Not r _ => (chk P t sc bs).t r
      | _ => false }
  | .tand t u, sc, bs => let w := fun e => match e with
      | .BoolOp .And (l :: r :: es) pos => (chk P t sc bs).t l && (chk P u sc bs).w (.BoolOp .And (r :: es) pos)
      | _ => false
      { t := w, w := w }
  | .tor t u, sc, bs => let w := fun e => match e with
      | .BoolOp .Or (l :: r :: es) pos => (chk P t sc bs).t l && (chk P u sc bs).w (.BoolOp .Or (r :: es) pos)
      | _ => false
      { t := w, w := w }
  | .tand1 t, sc, bs => { w := fun e => match e with
      | .BoolOp .And [l] _ => (chk P t sc bs).t l
      | _ => false }
  | .tor1 t, sc, bs => { w := fun e => match e with
      | .BoolOp .Or [l] _ => (chk P t sc bs).t l
      | _ => false }
  | .abs, _, _ => { p := fun e => match e with
      | none => true
      | _ => false }
  | .sl _ a lo hi, sc, bs => { x := fun e => match e with
      | .Subscript l (.Slice lo' hi' none _) _ => (chk P a sc bs).x l && optB (isAbs lo) (chk P lo sc bs) lo' && optB (isAbs hi) (chk P hi sc bs) hi'
      | _ => false }
  | .rev _ a, sc, bs => { x := fun e => match e with
      | .Subscript l (.Slice none none (some (.UnaryOp .USub (.Constant (.int i) _ _) _)) _) _ => decide (i = 1) && (chk P a sc bs).x l
      | _ => false }
  | .fld c f a, sc, bs => { x := fun e => match e with
      | .Attribute o g _ => f == g && natB P c f && plainBase o && (chk P a sc bs).x o
      | _ => false }
  | .call j as, sc, bs => { x := fun e => match e with
      | .Call (.Name y _) es [] _ => (match P.fns[j]? with
          | some i => isFn i.kind && i.name == y && decide (i.dep < P.dep)
          | none => false) && glB sc y && !dbg y && (chk P as sc bs).l es
      | _ => false }
  | .meth c n j o as, sc, bs => { x := fun e => match e with
      | .Call (.Attribute r m apos) es [] pos => (match P.fns[j]? with
          | some i => isMeth c i.kind && i.name == m && n == m && decide (i.dep < P.dep)
          | none => false) && lineB apos pos && fewB es && plainBase r && (chk P o sc bs).x r && (chk P as sc bs).l es
      | _ => false }
  | .mk c j as, sc, bs => { x := fun e => match e with
      | .Call (.Name y _) es [] _ => (match P.fns[j]? with
          | some i => isInit c i.kind && decide (i.dep < P.dep)
          | none => false) && c == y && glB sc y && !dbg y && (chk P as sc bs).l es
      | _ => false }
  | .blt b _ as, sc, bs => { x := fun e => match e with
      | .Call (.Name y _) (e :: es) [] _ => freeB P sc y (blName b) && (chk P as sc bs).l (e :: es)
      | _ => false }
  | .mt k o as, sc, bs => { x := fun e => match e with
      | .Call (.Attribute r m apos) (e :: es) [] pos => m == mtName k && lineB apos pos && fewB (e :: es) && plainBase r && (chk P o sc bs).x r && (chk P as sc bs).l (e :: es)
      | _ => false }
  | .pop0 o, sc, bs => { x := fun e => match e with
      | .Call (.Attribute r m apos) [] [] pos => m == ("pop" : Str) && lineB apos pos && plainBase r && (chk P o sc bs).x r
      | _ => false }
  | .lvals _ o, sc, bs => { x := fun e => match e with
      | .Call (.Name y _) [.Call (.Attribute r m apos) [] [] mpos] [] _ => freeB P sc y "list" && m == ("values" : Str) && lineB apos mpos && plainBase r && (chk P o sc bs).x r
      | _ => false }
  | .pop o a, sc, bs => { x := fun e => match e with
      | .Call (.Attribute r m apos) [e] [] pos => m == ("pop" : Str) && lineB apos pos && plainBase r && notStar e && (chk P o sc bs).x r && (chk P a sc bs).x e
      | _ => false }
  | .get1 o a, sc, bs => { x := fun e => match e with
      | .Call (.Attribute r m apos) [e] [] pos => m == ("get" : Str) && lineB apos pos && plainBase r && notStar e && (chk P o sc bs).x r && (chk P a sc bs).x e
      | _ => false }
  | .get2 o a b, sc, bs => { x := fun e => match e with
      | .Call (.Attribute r m apos) [e, f] [] pos => m == ("get" : Str) && lineB apos pos && plainBase r && notStar e && notStar f && (chk P o sc bs).x r && (chk P a sc bs).x e && (chk P b sc bs).x f
      | _ => false }
  | .frz a, sc, bs => { x := fun e => (chk P a sc bs).x e }
  | .lk _ a, sc, bs => { x := fun e => (chk P a sc bs).x e }
  | .lc _ t own it tst el, sc, bs => { x := fun e => match e with
      | .ListComp elt [⟨tg, iter, ifs, n⟩] scope _ => decide (n = 0) && blkB P.N sc scope own && subB (slots t) own && notSet iter && (chk P it sc bs).i tg iter &&
          tgB P.N (relabelS scope sc) (some scope) t tg && tsB (chk P tst (relabelS scope sc) (some scope)) ifs && (chk P el (relabelS scope sc) (some scope)).x elt
      | _ => false }
  | .dc t own it tst k v, sc, bs => { x := fun e => match e with
      | .DictComp kx vx [⟨tg, iter, ifs, n⟩] scope _ => decide (n = 0) && blkB P.N sc scope own && subB (slots t) own && notSet iter && (chk P it sc bs).i tg iter &&
          tgB P.N (relabelS scope sc) (some scope) t tg && tsB (chk P tst (relabelS scope sc) (some scope)) ifs && (chk P k (relabelS scope sc) (some scope)).x kx && (chk P v (relabelS scope sc) (some scope)).x vx
      | _ => false }
  | .yes, _, _ => { ts := fun es => match es with
      | [] => true
      | _ => false }
  | .rng1 a, sc, bs => { i := fun _ e => match e with
      | .Call (.Name y _) [e] [] _ => freeB P sc y "range" && notStar e && (chk P a sc bs).x e
      | _ => false }
  | .rng2 a b, sc, bs => { i := fun _ e => match e with
      | .Call (.Name y _) [e, f] [] _ => freeB P sc y "range" && notStar e && notStar f && (chk P a sc bs).x e && (chk P b sc bs).x f
      | _ => false }
  | .it a, sc, bs => { i := fun _ e => (chk P a sc bs).x e }
  | .vals a, sc, bs => { i := fun _ e => match e with
      | .Call (.Attribute r m apos) [] [] pos => m == ("values" : Str) && lineB apos pos && plainBase r && (chk P a sc bs).x r
      | _ => false }
  | .items a, sc, bs => { i := fun tg e => match tg, e with
      | .Tuple _ _ _, .Call (.Attribute r m apos) [] [] pos => m == ("items" : Str) && lineB apos pos && plainBase r && (chk P a sc bs).x r
      | _, _ => false }
  | .keys a, sc, bs => { i := fun _ e => match e with
      | .Call (.Attribute r m apos) [] [] pos => m == ("keys" : Str) && lineB apos pos && plainBase r && (chk P a sc bs).x r
      | _ => false }
  | .nx, _, _ => { s := fun s => match s with
      | .Pass _ => true
      | .Expr (.Constant (.str _) _ _) _ => true
      | _ => false }
  | .ret a, sc, bs => { s := fun s => match s with
      | .Return (some e) _ => (chk P a sc bs).x e
      | _ => false }
  | .retN, _, _ => { s := fun s => match s with
      | .Return none _ => true
      | _ => false }
  | .set i a, sc, bs => { s := fun s => match s with
      | .Assign [.Name y py] e _ => P.N[i]? == some y && locB sc y && (fnb bs y || isLocal sc y) && swapFree sc e y py && (chk P a sc bs).x e
      | _ => false }
  | .setT t a, sc, bs => { s := fun s => match s with
      | .Assign [.Tuple es k p] e _ => notTup e && tgB P.N sc bs t (.Tuple es k p) && (chk P a sc bs).x e
      | _ => false }
  | .setI o i v, sc, bs => { s := fun s => match s with
      | .Assign [.Subscript r q _] e _ => notSlice q && (chk P o sc bs).x r && (chk P i sc bs).x q && (chk P v sc bs).x e
      | _ => false }
  | .setF c f o v, sc, bs => { s := fun s => match s with
      | .Assign [.Attribute r g _] e _ => f == g && natB P c f && (chk P o sc bs).x r && (chk P v sc bs).x e
      | _ => false }
  | .ex a, sc, bs => { s := fun s => match s with
      | .Expr e _ => notComp e && (chk P a sc bs).x e
      | _ => false }
  | .ifs t a b, sc, bs => { s := fun s => match s with
      | .If e p q _ => (chk P t sc bs).t e && (chk P a sc bs).b p && (chk P b sc bs).b q
      | _ => false }
  | .whl t b, sc, bs => { s := fun s => match s with
      | .While e p [] _ => bs.isNone && (chk P t sc bs).t e && (chk P b sc bs).b p
      | _ => false }
  | .fors t it b, sc, bs => { s := fun s => match s with
      | .For tg iter body [] _ => bs.isNone && notSet iter && (chk P it sc bs).i tg iter && tgB P.N sc bs t tg && (chk P b sc bs).b body
      | _ => false }
  | .brk, _, _ => { s := fun s => match s with
      | .Break _ => true
      | _ => false }
  | .cnt, _, _ => { s := fun s => match s with
      | .Continue _ => true
      | _ => false }
  | .skip, _, _ => { b := fun s => match s with
      | [] => true
      | _ => false }
  | .seq a b, sc, bs => { b := fun s => match s with
      | st :: rest => (chk P a sc bs).s st && (chk P b sc bs).b rest
      | _ => false }
  | .lks _ s, sc, bs => { s := fun st => (chk P s sc bs).s st }
  | .setC i _ t own it tst el, sc, bs => { s := fun s => match s with
      | .Assign [.Name y py] (.ListComp elt [⟨tg, iter, ifs, n⟩] scope epos) _ => bs.isNone && P.N[i]? == some y && swapB sc scope y py epos && decide (n = 0) && blkB P.N sc scope own && subB (slots t) own && notSet iter && (chk P it sc bs).i tg iter &&
          tgB P.N (relabelS scope sc) (some scope) t tg && tsB (chk P tst (relabelS scope sc) (some scope)) ifs && (chk P el (relabelS scope sc) (some scope)).x elt
      | _ => false }
end Co
namespace Co
open PySem PySem.Spec PyProof.Rows L2
/-! ### the check is right -/
theorem and2 {a b : Bool} (h : (a && b) = true) : a = true ∧ b = true := by rw [Bool.and_eq_true] at h; exact h
theorem and3 {a b c : Bool} (h : (a && b && c) = true) : a = true ∧ b = true ∧ c = true := ⟨(and2 (and2 h).1).1, (and2 (and2 h).1).2, (and2 h).2⟩
theorem and4 {a b c d : Bool} (h : (a && b && c && d) = true) : a = true ∧ b = true ∧ c = true ∧ d = true := ⟨(and3 (and2 h).1).1, (and3 (and2 h).1).2.1, (and3 (and2 h).1).2.2, (and2 h).2⟩
theorem and5 {a b c d e : Bool} (h : (a && b && c && d && e) = true) : a = true ∧ b = true ∧ c = true ∧ d = true ∧ e = true := ⟨(and4 (and2 h).1).1, (and4 (and2 h).1).2.1, (and4 (and2 h).1).2.2.1, (and4 (and2 h).1).2.2.2, (and2 h).2⟩
theorem and6 {a b c d e f : Bool} (h : (a && b && c && d && e && f) = true) : a = true ∧ b = true ∧ c = true ∧ d = true ∧ e = true ∧ f = true := ⟨(and5 (and2 h).1).1, (and5 (and2 h).1).2.1, (and5 (and2 h).1).2.2.1, (and5 (and2 h).1).2.2.2.1, (and5 (and2 h).1).2.2.2.2, (and2 h).2⟩
theorem and7 {a b c d e f g : Bool} (h : (a && b && c && d && e && f && g) = true) : a = true ∧ b = true ∧ c = true ∧ d = true ∧ e = true ∧ f = true ∧ g = true := ⟨(and6 (and2 h).1).1, (and6 (and2 h).1).2.1, (and6 (and2 h).1).2.2.1, (and6 (and2 h).1).2.2.2.1, (and6 (and2 h).1).2.2.2.2.1, (and6 (and2 h).1).2.2.2.2.2, (and2 h).2⟩
theorem and8 {a b c d e f g i : Bool} (h : (a && b && c && d && e && f && g && i) = true) : a = true ∧ b = true ∧ c = true ∧ d = true ∧ e = true ∧ f = true ∧ g = true ∧ i = true := ⟨(and7 (and2 h).1).1, (and7 (and2 h).1).2.1, (and7 (and2 h).1).2.2.1, (and7 (and2 h).1).2.2.2.1, (and7 (and2 h).1).2.2.2.2.1, (and7 (and2 h).1).2.2.2.2.2.1, (and7 (and2 h).1).2.2.2.2.2.2, (and2 h).2⟩
/-- what is known of a def -/
structure FnFact (P : Program) (w : World) (K : Frag) (mg : Str → Option Value) (base : Heap) (i : FnI) (m : List D → S → R D) : Prop where
  ex : ∃ (f : Addr) (fd : FuncData), FnG P w K mg base (2 * i.dep + 2) f fd i.ps (spF K i.ps.length m) ∧ Binds K fd i.ps [] ∧ PySem.W.keepIn K (.ref f) = true ∧ (match i.kind with
    | .fn => mg i.name = some (.ref f)
    | .meth c => Cls K (He.ga K c) ∧ Meth K (He.ga K c) i.name f
    | .init c => Mk K (He.ga K c) f ∧ mg c = some (.ref (He.ga K c)))
  len : ∀ ds s, ds.length ≠ i.ps.length → m ds s = .bad
structure Facts (P : Pi) (F : Nat → List D → S → R D) (G : Nat → D) (pr : Program) (w : World) (K : Frag) (mg : Str → Option Value) (base : Heap) : Prop where
  fns : ∀ j i, P.fns[j]? = some i → i.dep < P.dep → FnFact pr w K mg base i (F j)
  gls : ∀ k x, P.gls[k]? = some x → ∃ u v, mg x = some u ∧ RelV v u ∧ ∀ g H, RD K g H (G k) v
  frees : ∀ x ∈ P.frees, mg x = none
  nats : ∀ q ∈ P.nats, Cls K (He.ga K q.1) ∧ NoAttr K (He.ga K q.1) q.2
structure Ctx (P : Pi) (F : Nat → List D → S → R D) (G : Nat → D) (X : Cx) (W : WX) (sc : Scope) (bs : Option Scope) : Prop where
  N : X.N = P.N
  nd : P.N.Nodup
  sc : X.env.scope = sc
  fn : ∀ x, fnb bs x = true → X.fn x = true
  calm : X.calm = true
  gd : X.A.guards = some []
  room : Room (2 * P.dep + 1) X.A
  pass : bs = none → PassesOwn (model X.prog X.w) X.A X.env X.xe
  tk : Takes X W
  facts : Facts P F G X.prog X.w X.K X.mg X.base
section
variable {P : Pi} {F : Nat → List D → S → R D} {G : Nat → D} {X : Cx} {W : WX} {sc : Scope} {bs : Option Scope}
theorem Ctx.units (h : Ctx P F G X W sc bs) : X.A.units + 65 < cLine := by have := h.room.un; omega
theorem vis_of {sc : Scope} {x : Str} (h : visB sc x = true) : Vis sc x := by
  unfold visB at h
  unfold Vis
  split at h
  · exact .inl (by assumption)
  · exact .inr (.inl (by assumption))
  · exact .inr (.inr (by assumption))
  · cases h
theorem loc_of {sc : Scope} {x : Str} (h : locB sc x = true) : L2.Loc sc x := by
  unfold locB at h
  unfold L2.Loc
  split at h
  · exact .inl (by assumption)
  · exact .inr (by assumption)
  · cases h
theorem Ctx.at (h : Ctx P F G X W sc bs) {i : Nat} {x : Str} (e : (P.N[i]? == some x) = true) : X.N[i]? = some x := by rw [h.N]; exact beq_iff_eq.mp e
theorem Ctx.gl (h : Ctx P F G X W sc bs) {x : Str} (e : glB sc x = true) : Gl X x := by
  show X.env.scope.names.lookup x = _
  rw [h.sc]
  exact beq_iff_eq.mp e
theorem Ctx.loc (h : Ctx P F G X W sc bs) {x : Str} (e : locB sc x = true) : L2.Loc X.env.scope x := by rw [h.sc]; exact loc_of e
theorem Ctx.fnl (h : Ctx P F G X W sc bs) {x : Str} (e : (fnb bs x || isLocal sc x) = true) : X.fn x = true ∨ X.env.scope.names.lookup x = some .local := by
  rw [Bool.or_eq_true] at e
  rcases e with e | e
  · exact .inl (h.fn x e)
  · rw [h.sc]; exact .inr (beq_iff_eq.mp e)
theorem Ctx.free (h : Ctx P F G X W sc bs) {x y : Str} (e : freeB P sc x y = true) : x = y ∧ Gl X x ∧ X.mg x = none := by
  obtain ⟨h1, h2, h3⟩ := and3 e
  obtain ⟨z, hz, e'⟩ := List.any_eq_true.mp h3
  exact ⟨beq_iff_eq.mp h1, h.gl h2, h.facts.frees x (by rw [← beq_iff_eq.mp e']; exact hz)⟩
theorem l_star {P : Pi} {sc : Scope} {bs : Option Scope} : ∀ {es : List Expr} {c : C}, (chk P c sc bs).l es = true → es.all notStar = true
  | [], _, _ => rfl
  | e :: es, c, h => by
    cases c with
    | cons a as =>
      obtain ⟨h1, _, h3⟩ := and3 (show (notStar e && (chk P a sc bs).x e && (chk P as sc bs).l es) = true from h)
      rw [List.all_cons, h1, l_star h3]
      rfl
    | _ => exact absurd h Bool.false_ne_true
theorem star_all {es : List Expr} (h : es.all notStar = true) (env : PySem.Env) : (starEach es env).all (fun x => !x.1) = true := by
  induction es with
  | nil => rfl
  | cons e es ih =>
    rw [List.all_cons] at h
    rw [star_of (and2 h).1, List.all_cons, ih (and2 h).2]
    rfl
theorem back_all {pos : Pos} {l : List (Bool × Sem Value)} (h : l.all (fun x => !x.1) = true) : (backTo pos l).all (fun x => !x.1) = true := by
  unfold backTo
  rw [List.all_map]
  exact h
theorem back_any {pos : Pos} {l : List (Bool × Sem Value)} (h : l.all (fun x => !x.1) = true) : (backTo pos l).any (·.1) = false := by
  have h' := back_all (pos := pos) h
  rw [List.any_eq_false]
  intro x hx
  have := List.all_eq_true.mp h' x hx
  simpa using this
theorem hpl_of {es : List Expr} (h : es.all notStar = true) (pos : Pos) (env : PySem.Env) : (backTo pos (starEach es env)).any (·.1) = false := back_any (star_all h env)
theorem few_of {es : List Expr} (h : es.all notStar = true) (hf : fewB es = true) (pos : Pos) (env : PySem.Env) : ((backTo pos (starEach es env)).all (fun x => !x.1) && (backToKw pos (keywordEach [] env)).all (fun x => x.1.isSome)
    && decide (es.length + ([] : List Keyword).length + (if ([] : List Keyword).isEmpty then 0 else 1) < 30)) = true := by
  rw [back_all (star_all h env)]
  show (true && true && decide (es.length + 0 + 0 < 30)) = true
  simpa [fewB] using hf
theorem base_of {o : Expr} {f : Str} {env : PySem.Env} (h : plainBase o = true) : attributeBase o f env (eval o env) = eval o env := by
  cases o with
  | Call fn as ks pos =>
    cases fn with
    | Name id p =>
      cases as with
      | nil =>
        cases ks with
        | nil => cases h
        | cons k ks => rfl
      | cons a as => rfl
    | _ => rfl
  | _ => rfl
theorem m1_of {X : Cx} {o e : Expr} {m : Str} {apos cpos : Pos} (h1 : plainBase o = true) (h2 : lineB apos cpos = true) (h3 : notStar e = true) : M1 X o m apos e cpos :=
  ⟨base_of h1, few_of (es := [e]) (by simp [h3]) rfl cpos X.env, h2, by rw [star_of h3]; rfl⟩
theorem m2_of {X : Cx} {o e f : Expr} {m : Str} {apos cpos : Pos} (h1 : plainBase o = true) (h2 : lineB apos cpos = true) (h3 : notStar e = true) (h4 : notStar f = true) : M2 X o m apos e f cpos :=
  ⟨base_of h1, few_of (es := [e, f]) (by simp [h3, h4]) rfl cpos X.env, h2, by rw [star_of h3, star_of h4]; rfl⟩
theorem meth_eval {o : Expr} {m : Str} {apos pos : Pos} {es : List Expr} {env : PySem.Env} (h1 : plainBase o = true) (h2 : lineB apos pos = true) (h3 : es.all notStar = true) (h4 : fewB es = true) :
    eval (.Call (.Attribute o m apos) es [] pos) env = (do
      let ov ← eval o env
      standAt apos.atName
      let (f, first) ← holding [ov] (getMethod ov m (plainOf o env))
      callWith pos f first (backTo pos (starEach es env)) (backToKw pos (keywordEach [] env))) := by
  have e1 : ∀ ov, methodCall o m apos pos env ov (es.length + ([] : List Keyword).length) (backTo pos (starEach es env)) (backToKw pos (keywordEach [] env)) = (do
      let (f, first) ← holding [ov] (getMethod ov m (plainOf o env))
      callWith pos f first (backTo pos (starEach es env)) (backToKw pos (keywordEach [] env))) := fun ov => mcall_line (few_of h3 h4 pos env) h2
  have e2 : eval (.Call (.Attribute o m apos) es [] pos) env = (do
      let ov ← attributeBase o m env (eval o env)
      standAt apos.atName
      methodCall o m apos pos env ov (es.length + ([] : List Keyword).length) (backTo pos (starEach es env)) (backToKw pos (keywordEach [] env))) := by rfl
  rw [e2, base_of h1]
  simp only [e1]
theorem ix_of {b : Expr} (h : notSlice b = true) : PlainIx b := by
  intro o i
  cases b with
  | Slice l u s p => cases h
  | _ => rfl
theorem fold_of {iter : Expr} {env : PySem.Env} (h : notSet iter = true) : ∀ x, foldedSetIterable iter env x = pure x := by
  intro x
  cases iter with
  | Set es k p => cases h
  | _ => rfl
theorem mark_of {op : CmpOp} {b : Expr} (h : notSet b = true) : behindInMarks op b = false := by
  cases b with
  | Set es k p => cases h
  | _ => rfl
theorem truth_of {e : Expr} {env : PySem.Env} (h : valTest e = true) : ∀ whole, isTrue e env whole = (do let v ← whole; standAt e.pos; holding [v] (truthy v)) := by
  intro whole
  cases e with
  | Name id p => rfl
  | Attribute a b c => rfl
  | Call a b c d => rfl
  | Subscript a b c => rfl
  | _ => cases h
end
end Co
namespace Co
open PySem PySem.Spec PyProof.Rows L2
section
variable {X : Cx}
theorem bin_op (o : Op) (m : Bool) : ∃ r, OpR X (binaryOp o.py) r ∧ Op2 X.K r (opF o m) := by
  cases o with
  | add => exact ⟨_, or_add, op2_add⟩
  | sub => exact ⟨_, OpR.ci op_sub, op2_int fun _ _ _ _ => rfl⟩
  | mul => exact ⟨_, op_mul, op2_int fun _ _ _ _ => rfl⟩
  | mod => exact ⟨_, op_mod, op2_int fun _ _ _ _ => rfl⟩
  | fdiv => exact ⟨_, op_fdiv, op2_int fun _ _ _ _ => rfl⟩
  | pow => exact ⟨_, op_pow, op2_int fun _ _ _ _ => rfl⟩
theorem cm_op (hu : X.A.units + 65 < cLine) (o : Cm) : ∃ r, OpR X (compareOp o.py) r ∧ Op2 X.K r (cmF o) := by
  cases o with
  | eq => exact ⟨_, or_eq (by omega), op2_eq⟩
  | ne => exact ⟨_, or_ne (by omega), op2_eq⟩
  | lt => exact ⟨_, OpR.ci op_lt, op2_int fun _ _ _ _ => rfl⟩
  | le => exact ⟨_, OpR.ci op_le, op2_int fun _ _ _ _ => rfl⟩
  | gt => exact ⟨_, OpR.ci op_gt, op2_int fun _ _ _ _ => rfl⟩
  | ge => exact ⟨_, OpR.ci op_ge, op2_int fun _ _ _ _ => rfl⟩
  | is_ => exact ⟨_, op_isN, op2_is⟩
  | isn => exact ⟨_, op_notN, op2_isnot⟩
  | in_ => exact ⟨_, or_in hu, op2_in⟩
  | nin => exact ⟨_, or_notin hu, op2_in⟩
theorem frz_ok {K : Frag} {W : WX} {g : Gh} {s : S} {H : Hp} {σ : L2.St} {d : D} {v : V} {Q : VK} (R : Rel K g s H) (r : RD K g H d v) (h : Post K W g H σ (RD K) (frzF d s) Q) : Q v H := by
  cases d with
  | ref a =>
    replace h : Post K W g H σ (RD K) (match s.heap a with
      | some (.lst ds) => .ok (.lv ds) (s.free a)
      | _ => .bad) Q := h
    split at h
    · rename_i ds ha
      obtain ⟨p, rfl, hm⟩ := r
      obtain ⟨vs, h3, h4⟩ := hl_at R ha hm
      exact h (g.frz p) H _ stp_freeze (R.freeze ha hm) ⟨p, vs, rfl, .inr rfl, h3, RDs.mono stp_freeze.toStp0 _ _ h4⟩
    · exact h.elim
  | _ => exact post_ok R r h
theorem px_frz {W : WX} {e : Expr} {m : ME D} (h : PX X W e m) : PX X W e (op1M frzF m) :=
  PE.imp h fun σ H Q hq => (TX.bind (rel := RD X.K) hq).imp fun v H1 ⟨g1, x, s1, env, R1, E1, r1, p1⟩ => frz_ok R1 r1 p1
end
theorem opn_bl {X : Cx} (hu : X.A.units + 65 < cLine) (hc : X.calm = true) (hg : X.A.guards = some []) (b : Bl) (m : Bool) {W : WX} {e : Expr} {es : List Expr} {pos p : Pos} {mes : ME (List D)} (hgl : Gl X (blName b)) (hm : X.mg (blName b) = none)
    (he : starEach (e :: es) X.env = (false, eval e X.env) :: starEach es X.env) (hpl : (backTo pos (starEach es X.env)).any (·.1) = false) (ha : PL X W (e :: es) mes) : PX X W (.Call (.Name (blName b) p) (e :: es) [] pos) (argM (blF b m) mes) := by
  cases b with
  | len => exact px_blt cr_len opn_len hgl hm boot_len (by decide) (by decide) he hpl ha
  | int => exact px_bty call_int1 opn_int hgl hm boot_int (by decide) (by decide) he hpl ha
  | str => exact px_bty call_str_int opn_str hgl hm boot_str (by decide) (by decide) he hpl ha
  | tup => exact px_bty cr_tup opn_tup hgl hm boot_tuple (by decide) (by decide) he hpl ha
  | lst => exact px_bty (cr_list hc) opn_lst hgl hm boot_list (by decide) (by decide) he hpl ha
  | dict => exact px_bty (cr_dict hc) opn_dict hgl hm boot_dict (by decide) (by decide) he hpl ha
  | sort => exact px_blt (cr_sort (by omega) hc) opn_sort hgl hm boot_sorted (by decide) (by decide) he hpl ha
  | max2 => exact px_blt (call_max2 hc) opn_max2 hgl hm boot_max (by decide) (by decide) he hpl ha
  | min2 => exact px_blt (call_min2 hc) opn_min2 hgl hm boot_min (by decide) (by decide) he hpl ha
  | repr => exact px_blt (cr_repr hg (by omega)) opn_repr hgl hm boot_repr (by decide) (by decide) he hpl ha
theorem px_mts {X : Cx} {W : WX} (k : Mt) {o e : Expr} {es : List Expr} {apos cpos : Pos} {mo : ME D} {mes : ME (List D)} (ho : PX X W o mo) (ha : PL X W (e :: es) mes) (hbase : plainBase o = true) (hl : lineB apos cpos = true) (hf : fewB (e :: es) = true) (hst : (e :: es).all notStar = true) :
    PX X W (.Call (.Attribute o (mtName k) apos) (e :: es) [] cpos) (mthM isLst (mtF k) mo mes) := by
  have h1 : notStar e = true ∧ es.all notStar = true := by rw [List.all_cons] at hst; exact and2 hst
  cases k with
  | app => exact px_mt PySem.F.plainAttrs_list PySem.F.slot_list_append PySem.F.type_list_append mt_append opm_app ty_lst ho ha (base_of hbase) (few_of hst hf _ _) hl (star_of h1.1 _) (hpl_of h1.2 _ _)
  | ext => exact px_mt PySem.F.plainAttrs_list PySem.F.slot_list_extend PySem.F.type_list_extend mt_extend opm_ext ty_lst ho ha (base_of hbase) (few_of hst hf _ _) hl (star_of h1.1 _) (hpl_of h1.2 _ _)
  | ins => exact px_mt PySem.F.plainAttrs_list PySem.F.slot_list_insert PySem.F.type_list_insert mt_insert opm_ins ty_lst ho ha (base_of hbase) (few_of hst hf _ _) hl (star_of h1.1 _) (hpl_of h1.2 _ _)
  | idx => exact px_mt PySem.F.plainAttrs_list PySem.F.slot_list_index PySem.F.type_list_index mt_index opm_idx ty_lst ho ha (base_of hbase) (few_of hst hf _ _) hl (star_of h1.1 _) (hpl_of h1.2 _ _)
theorem blk_of {N : List Str} {sc scope : Scope} {own : List Nat} (h : blkB N sc scope own = true) : BlkOk N sc scope (ownOf N own) ∧ (ownOf N own).map (·.2) = own := by
  obtain ⟨h1, h2, h3, h4, h5⟩ := and5 h
  have e2 : (ownOf N own).map (·.2) = own := by
    unfold ownOf
    rw [List.map_map]
    exact List.map_id' own
  refine ⟨⟨beq_iff_eq.mp h1, fun y hy => beq_iff_eq.mp (List.all_eq_true.mp h3 y hy), fun p hp => ?_, fun y hy e => ?_, fun y hy e => ?_⟩, e2⟩
  · obtain ⟨i, hi, rfl⟩ := List.mem_map.mp hp
    have hl : i < N.length := by simpa using List.all_eq_true.mp h2 i hi
    show N[i]? = some ((N[i]?).getD "")
    rw [List.getElem?_eq_getElem hl]
    rfl
  · have := List.all_eq_true.mp h4 y hy
    rw [e] at this
    simpa using this
  · have := List.all_eq_true.mp h5 y hy
    have e' : (y.2 == NameKind.local || y.2 == NameKind.cell) = true := by
      rcases e with e | e <;> rw [e] <;> rfl
    rw [e'] at this
    rw [Bool.not_true, Bool.false_or, Bool.or_eq_true] at this
    rcases this with t | t
    · left
      obtain ⟨p, hp, e⟩ := List.any_eq_true.mp t
      exact List.mem_map.mpr ⟨p, hp, beq_iff_eq.mp e⟩
    · right
      intro hm
      rw [Bool.not_eq_true', List.any_eq_false] at t
      exact t y.1 hm (by simp)
theorem sub_of {is own : List Nat} (h : subB is own = true) : ∀ i ∈ is, i ∈ own := fun i hi => by
  obtain ⟨j, hj, e⟩ := List.any_eq_true.mp (List.all_eq_true.mp h i hi)
  rw [beq_iff_eq.mp e]
  exact hj
section
variable {P : Pi} {F : Nat → List D → S → R D} {G : Nat → D} {X : Cx} {W : WX} {sc : Scope} {bs : Option Scope}
theorem names_of (h : Ctx P F G X W sc bs) : ∀ {is : List Nat} {es : List Expr}, namesB P.N sc bs is es = true → PGsX X es is ∧ (assignEach es X.env).findIdx? (·.1) = none ∧ (assignEach es X.env).length = is.length
  | [], [], _ => ⟨pgsx_nil, rfl, rfl⟩
  | [], _ :: _, e => by cases e
  | _ :: _, [], e => by cases e
  | i :: is, e :: es, he => by
    cases e with
    | Name x p =>
      obtain ⟨h1, h2, h3, h4⟩ := and4 (show (P.N[i]? == some x && locB sc x && (fnb bs x || isLocal sc x) && namesB P.N sc bs is es) = true from he)
      obtain ⟨k1, k2, k3⟩ := names_of h h4
      refine ⟨pgsx_cons (by rw [h.N]; exact h.nd) (h.at h1) (h.loc h2) (h.fnl h3) k1, ?_, ?_⟩
      · show ((false, assign (.Name x p) X.env) :: assignEach es X.env).findIdx? (·.1) = none
        rw [List.findIdx?_cons]
        simp [k2]
      · show ((false, assign (.Name x p) X.env) :: assignEach es X.env).length = _
        rw [List.length_cons, k3]
        rfl
    | _ => cases he
theorem tg_of (h : Ctx P F G X W sc bs) {t : Tg} {e : Expr} (he : tgB P.N sc bs t e = true) : PGX X e t := by
  cases t with
  | name i =>
    cases e with
    | Name x p =>
      obtain ⟨h1, h2, h3⟩ := and3 (show (P.N[i]? == some x && locB sc x && (fnb bs x || isLocal sc x)) = true from he)
      exact pgx_name (by rw [h.N]; exact h.nd) (h.at h1) (h.loc h2) (h.fnl h3)
    | _ => cases he
  | tup is =>
    cases e with
    | Tuple es k p =>
      obtain ⟨k1, k2, k3⟩ := names_of h (show namesB P.N sc bs is es = true from he)
      exact pgx_tup h.calm k2 k3 k1
    | _ => cases he
theorem relabel_is (h : Ctx P F G X W sc bs) (scope : Scope) : relabel scope X.env = relabelS scope sc := by
  unfold relabel relabelS Env.kindOf
  rw [h.sc]
theorem Ctx.blk (h : Ctx P F G X W sc bs) (s : Shared) (H : Hp) (scope : Scope) (C : Addr) (cl : List (Str × Addr)) (fp : List Addr) : Ctx P F G (X.blk s H scope (compEnvC scope cl C X.env) fp) W0 (relabelS scope sc) (some scope) where
  N := h.N
  nd := h.nd
  sc := relabel_is h scope
  fn := fun x e => e
  calm := h.calm
  gd := h.gd
  room := h.room
  pass := fun e => nomatch e
  tk := fun u s' x => by
    obtain ⟨a, B, sI, pins, σ, H, cls, d, e, I, nb, up, sky, na, os, ag, w⟩ := x
    exact w.elim
  facts := h.facts

theorem swap_eq {env : PySem.Env} {sc sp : Scope} {y : Str} {py epos : Pos} (hs : env.scope = sc) (hk : (sc.kind == .function) = true) : (env.blockKind == ScopeKind.function && env.kindOf y == some NameKind.local && py.line == epos.line && !sp.names.any fun x => match x with
    | (n, k) => n == y && (k == NameKind.local || k == NameKind.cell)) = swapB sc sp y py epos := by
  have e1 : env.blockKind = ScopeKind.function := by
    unfold Env.blockKind
    rw [hs]
    split
    · rfl
    · exact beq_iff_eq.mp hk
  unfold swapB isLocal Env.kindOf
  rw [e1, hs, hk]
  rfl
theorem nof {p : Prop} (h : false = true) : p := nomatch h
/-- each piece means what its core piece means -/
structure OkC (P : Pi) (F : Nat → List D → S → R D) (G : Nat → D) (X : Cx) (W : WX) (sc : Scope) (bs : Option Scope) (c : C) : Prop where
  x : ∀ e, (chk P c sc bs).x e = true → PX X W e (ev F G c).x := by exact fun _ h => nof h
  t : ∀ e, (chk P c sc bs).t e = true → PB X W e (ev F G c).t := by exact fun _ h => nof h
  w : ∀ e, (chk P c sc bs).w e = true → PW X e (TT' X.K W (ev F G c).t) := by exact fun _ h => nof h
  l : ∀ es, (chk P c sc bs).l es = true → PL X W es (ev F G c).l := by exact fun _ h => nof h
  i : ∀ tg e, (chk P c sc bs).i tg e = true → PIX X W tg e (ev F G c).i := by exact fun _ _ h => nof h
  s : ∀ st, (chk P c sc bs).s st = true → PSX X W st (ev F G c).s := by exact fun _ h => nof h
  b : ∀ st, (chk P c sc bs).b st = true → PSB X W st (ev F G c).s := by exact fun _ h => nof h
  ts : ∀ es, (chk P c sc bs).ts es = true → W = W0 → PTX X es (ev F G c).t := by exact fun _ h => nof h
  r : ∀ ks vs, (chk P c sc bs).r ks vs = true → ∀ pos, PRs X W pos ks vs (ev F G c).l := by exact fun _ _ h => nof h
theorem Str.beq_of {a b : Str} (h : (a == b) = true) : a = b := beq_iff_eq.mp h
theorem PTX_of {P : Pi} {F : Nat → List D → S → R D} {G : Nat → D} {X : Cx} {sc : Scope} {bs : Option Scope} {tst : C} (o : OkC P F G X W0 sc bs tst) {ifs : List Expr}
    (h : tsB (chk P tst sc bs) ifs = true) : PTX X ifs (ev F G tst).t := by
  cases ifs with
  | nil => exact o.ts [] h rfl
  | cons q qs =>
    cases qs with
    | nil => exact pt_one (o.t q h)
    | cons _ _ => cases h
theorem main (P : Pi) (F : Nat → List D → S → R D) (G : Nat → D) (c : C) : ∀ (X : Cx) (W : WX) (sc : Scope) (bs : Option Scope), Ctx P F G X W sc bs → OkC P F G X W sc bs c := by
  induction c with
  | var i =>
    intro X W sc bs h
    refine { x := fun e he => ?_ }
    cases e with
    | Name y p =>
      obtain ⟨h1, h2, h3⟩ := and3 (show (P.N[i]? == some y && visB sc y && okName y) = true from he)
      obtain ⟨h4, h5⟩ := and2 (show (!dbg y && !(y == ("__classdict__" : Str))) = true from h3)
      exact px_var (h.at h1) (by rw [h.sc]; exact vis_of h2) (by simpa [dbg] using h4) (by simpa using h5)
    | _ => cases he
  | int i =>
    intro X W sc bs h
    refine { x := fun e he => ?_ }
    cases e with
    | Constant v j p =>
      cases v with
      | int k => cases of_decide_eq_true (show decide (i = k) = true from he); exact px_int
      | _ => cases he
    | _ => cases he
  | str z =>
    intro X W sc bs h
    refine { x := fun e he => ?_ }
    cases e with
    | Constant v j p =>
      cases v with
      | str y => cases Str.beq_of (show (z == y) = true from he); exact px_str
      | _ => cases he
    | _ => cases he
  | bl b =>
    intro X W sc bs h
    refine { x := fun e he => ?_ }
    cases e with
    | Constant v j p =>
      cases v with
      | bool y => cases (beq_iff_eq.mp (show (b == y) = true from he)); exact px_bl
      | _ => cases he
    | _ => cases he
  | non =>
    intro X W sc bs h
    refine { x := fun e he => ?_ }
    cases e with
    | Constant v j p =>
      cases v with
      | none => exact px_non
      | _ => cases he
    | _ => cases he
  | gl k =>
    intro X W sc bs h
    refine { x := fun e he => ?_ }
    cases e with
    | Name y p =>
      obtain ⟨h1, h2, h3⟩ := and3 (show (P.gls[k]? == some y && glB sc y && !dbg y) = true from he)
      obtain ⟨u, v, g1, g2, g3⟩ := h.facts.gls k y (beq_iff_eq.mp h1)
      exact px_glob (h.gl h2) g1 g2 g3 (by simpa [dbg] using h3)
    | _ => cases he
  | bin o m a b iha ihb =>
    intro X W sc bs h
    refine { x := fun e he => ?_ }
    cases e with
    | BinOp l p r pos =>
      obtain ⟨h1, h2, h3⟩ := and3 (show (p == o.py && (chk P a sc bs).x l && (chk P b sc bs).x r) = true from he)
      cases beq_iff_eq.mp h1
      obtain ⟨r', q1, q2⟩ := bin_op (X := X) o m
      exact px_op q1 q2 ((iha X W sc bs h).x l h2) ((ihb X W sc bs h).x r h3)
    | _ => cases he
  | cmp o a b iha ihb =>
    intro X W sc bs h
    refine { x := fun e he => ?_ }
    cases e with
    | Compare l ps rs pos =>
      match ps, rs, he with
      | [p], [r], he =>
        obtain ⟨h1, h2, h3, h4⟩ := and4 (show (p == o.py && notSet r && (chk P a sc bs).x l && (chk P b sc bs).x r) = true from he)
        cases beq_iff_eq.mp h1
        obtain ⟨r', q1, q2⟩ := cm_op h.units o
        exact px_cmp q1 q2 (mark_of h2) ((iha X W sc bs h).x l h3) ((ihb X W sc bs h).x r h4)
    | _ => cases he
  | chn o p a b c iha ihb ihc =>
    intro X W sc bs h
    refine { x := fun e he => ?_ }
    cases e with
    | Compare l ps rs pos =>
      match ps, rs, he with
      | [p1, p2], [r, q], he =>
        obtain ⟨h1, h2, h3, h4, h5, h6⟩ := and6 (show (p1 == o.py && p2 == p.py && notSet q && (chk P a sc bs).x l && (chk P b sc bs).x r && (chk P c sc bs).x q) = true from he)
        cases beq_iff_eq.mp h1
        cases beq_iff_eq.mp h2
        obtain ⟨r1, q1, q2⟩ := cm_op h.units o
        obtain ⟨r2, q3, q4⟩ := cm_op h.units p
        exact px_chn q1 q3 q2 q4 (mark_of h3) ((iha X W sc bs h).x l h4) ((ihb X W sc bs h).x r h5) ((ihc X W sc bs h).x q h6)
    | _ => cases he
  | tchn o p a b c iha ihb ihc =>
    intro X W sc bs h
    refine { t := fun e he => ?_ }
    cases e with
    | Compare l ps rs pos =>
      match ps, rs, he with
      | [p1, p2], [r, q], he =>
        obtain ⟨h1, h2, h3, h4, h5, h6⟩ := and6 (show (p1 == o.py && p2 == p.py && notSet q && (chk P a sc bs).x l && (chk P b sc bs).x r && (chk P c sc bs).x q) = true from he)
        cases beq_iff_eq.mp h1
        cases beq_iff_eq.mp h2
        obtain ⟨r1, q1, q2⟩ := cm_op h.units o
        obtain ⟨r2, q3, q4⟩ := cm_op h.units p
        exact pb_chn q1 q3 q2 q4 (mark_of h3) ((iha X W sc bs h).x l h4) ((ihb X W sc bs h).x r h5) ((ihc X W sc bs h).x q h6)
    | _ => cases he
  | dpn =>
    intro X W sc bs h
    refine { r := fun ks vs he pos => ?_ }
    match ks, vs, he with
    | [], [], _ => exact prs_nil
  | dpc k v r ihk ihv ihr =>
    intro X W sc bs h
    refine { r := fun ks vs he pos => ?_ }
    match ks, vs, he with
    | some a :: ks, b :: vs, he =>
      obtain ⟨h1, h2, h3⟩ := and3 (show ((chk P k sc bs).x a && (chk P v sc bs).x b && (chk P r sc bs).r ks vs) = true from he)
      exact prs_cons ((ihk X W sc bs h).x a h1) ((ihv X W sc bs h).x b h2) ((ihr X W sc bs h).r ks vs h3 pos)
  | dsp r ihr =>
    intro X W sc bs h
    refine { x := fun e he => ?_ }
    cases e with
    | Dict ks vs pos =>
      match ks, he with
      | k :: ks, he =>
        obtain ⟨h1, h2⟩ := and2 (show (decide (ks.length < 15) && (chk P r sc bs).r (k :: ks) vs) = true from he)
        exact px_disp ((ihr X W sc bs h).r _ _ h2 pos) (by simp) (by have := of_decide_eq_true h1; rw [List.length_cons]; omega)
    | _ => cases he
  | dspT k v ihk ihv =>
    intro X W sc bs h
    refine { x := fun e he => ?_ }
    cases e with
    | Dict ks vs pos =>
      match ks, vs, he with
      | [some a], [b], he =>
        obtain ⟨h1, h2⟩ := and2 (show ((chk P k sc bs).x a && (chk P v sc bs).x b) = true from he)
        exact px_dispT (by have := h.units; omega) ((ihk X W sc bs h).x a h1) ((ihv X W sc bs h).x b h2)
    | _ => cases he
  | ctup as ihs =>
    intro X W sc bs h
    refine { x := fun e he => ?_ }
    cases e with
    | Tuple es k pos => exact px_ctup ((ihs X W sc bs h).l es he)
    | _ => cases he
  | aug i a iha =>
    intro X W sc bs h
    refine { s := fun st he => ?_ }
    cases st with
    | AugAssign t o e p =>
      match t, he with
      | .Name y p', he =>
        obtain ⟨h1, h2, h3, h4, h5⟩ := and5 (show (o == .Add && P.N[i]? == some y && locB sc y && (fnb bs y || isLocal sc y) && (chk P a sc bs).x e) = true from he)
        cases beq_iff_eq.mp h1
        exact ps_aug' (by rw [h.N]; exact h.nd) (h.at h2) (h.loc h3) (h.fnl h4) ip_add op2_ipadd ((iha X W sc bs h).x e h5)
    | _ => cases he
  | en a iha =>
    intro X W sc bs h
    refine { i := fun tg e he => ?_ }
    cases tg with
    | Tuple elts kk tpos =>
      cases e with
      | Call fn es ks pos =>
        match fn, es, ks, he with
        | .Name y p, [e], [], he =>
          obtain ⟨h1, h2, h3⟩ := and3 (show (freeB P sc y "enumerate" && notStar e && (chk P a sc bs).x e) = true from he)
          obtain ⟨e1, e2, e3⟩ := h.free h1
          subst e1
          exact pi_en e2 e3 (star_of h2 _) ((iha X W sc bs h).x e h3)
      | _ => cases he
    | _ => cases he
  | ix a b iha ihb =>
    intro X W sc bs h
    refine { x := fun e he => ?_ }
    cases e with
    | Subscript l r pos =>
      obtain ⟨h1, h2, h3⟩ := and3 (show (notSlice r && (chk P a sc bs).x l && (chk P b sc bs).x r) = true from he)
      exact px_ix (or_ix (by have := h.units; omega)) op2_ix (ix_of h1) ((iha X W sc bs h).x l h2) ((ihb X W sc bs h).x r h3)
    | _ => cases he
  | neg a iha =>
    intro X W sc bs h
    refine { x := fun e he => ?_ }
    cases e with
    | UnaryOp o r pos =>
      cases o with
      | USub => exact px_neg ((iha X W sc bs h).x r he)
      | _ => cases he
    | _ => cases he
  | nil =>
    intro X W sc bs h
    refine { l := fun es he => ?_ }
    cases es with
    | nil => exact pl_nil
    | cons _ _ => cases he
  | cons a as iha ihs =>
    intro X W sc bs h
    refine { l := fun es he => ?_ }
    cases es with
    | nil => cases he
    | cons e es =>
      obtain ⟨h1, h2, h3⟩ := and3 (show (notStar e && (chk P a sc bs).x e && (chk P as sc bs).l es) = true from he)
      exact pl_cons (star_of h1 _) ((iha X W sc bs h).x e h2) ((ihs X W sc bs h).l es h3)
  | tup as ihs =>
    intro X W sc bs h
    refine { x := fun e he => ?_ }
    cases e with
    | Tuple es k pos => exact px_tup ((ihs X W sc bs h).l es he)
    | _ => cases he
  | lst m as ihs =>
    intro X W sc bs h
    refine { x := fun e he => ?_ }
    cases e with
    | List es pos => exact px_lst ((ihs X W sc bs h).l es he)
    | _ => cases he
  | dnew =>
    intro X W sc bs h
    refine { x := fun e he => ?_ }
    cases e with
    | Dict ks vs pos =>
      match ks, vs, he with
      | [], [], _ => exact px_dnew (m := true)
    | _ => cases he
  | dnewT =>
    intro X W sc bs h
    refine { x := fun e he => ?_ }
    cases e with
    | Dict ks vs pos =>
      match ks, vs, he with
      | [], [], _ => exact px_dnewT
    | _ => cases he
  | vnot a iha =>
    intro X W sc bs h
    refine { x := fun e he => ?_ }
    cases e with
    | UnaryOp o r pos =>
      cases o with
      | Not => exact px_not ((iha X W sc bs h).x r he)
      | _ => cases he
    | _ => cases he
  | vand a b iha ihb =>
    intro X W sc bs h
    refine { x := fun e he => ?_ }
    cases e with
    | BoolOp o es pos =>
      match o, es, he with
      | .And, l :: r :: es, he =>
        obtain ⟨h1, h2⟩ := and2 (show ((chk P a sc bs).x l && (chk P b sc bs).x (.BoolOp .And (r :: es) pos)) = true from he)
        exact px_and ((iha X W sc bs h).x l h1) ((ihb X W sc bs h).x _ h2)
    | _ => cases he
  | vor a b iha ihb =>
    intro X W sc bs h
    refine { x := fun e he => ?_ }
    cases e with
    | BoolOp o es pos =>
      match o, es, he with
      | .Or, l :: r :: es, he =>
        obtain ⟨h1, h2⟩ := and2 (show ((chk P a sc bs).x l && (chk P b sc bs).x (.BoolOp .Or (r :: es) pos)) = true from he)
        exact px_or ((iha X W sc bs h).x l h1) ((ihb X W sc bs h).x _ h2)
    | _ => cases he
  | v1 a iha =>
    intro X W sc bs h
    refine { x := fun e he => ?_ }
    cases e with
    | BoolOp o es pos =>
      match es, he with
      | [l], he => exact px_one ((iha X W sc bs h).x l he)
    | _ => cases he
  | ite t a b iht iha ihb =>
    intro X W sc bs h
    refine { x := fun e he => ?_ }
    cases e with
    | IfExp q l r pos =>
      obtain ⟨h1, h2, h3⟩ := and3 (show ((chk P t sc bs).t q && (chk P a sc bs).x l && (chk P b sc bs).x r) = true from he)
      exact px_if ((iht X W sc bs h).t q h1) ((iha X W sc bs h).x l h2) ((ihb X W sc bs h).x r h3)
    | _ => cases he
  | tru a iha =>
    intro X W sc bs h
    refine { t := fun e he => ?_ }
    obtain ⟨h1, h2⟩ := and2 (show (valTest e && (chk P a sc bs).x e) = true from he)
    exact pb_truth (truth_of h1) ((iha X W sc bs h).x e h2)
  | tcmp o a b iha ihb =>
    intro X W sc bs h
    refine { t := fun e he => ?_ }
    cases e with
    | Compare l ps rs pos =>
      match ps, rs, he with
      | [p], [r], he =>
        obtain ⟨h1, h2, h3, h4⟩ := and4 (show (p == o.py && notSet r && (chk P a sc bs).x l && (chk P b sc bs).x r) = true from he)
        cases beq_iff_eq.mp h1
        obtain ⟨r', q1, q2⟩ := cm_op h.units o
        exact pb_cmp q1 q2 (mark_of h2) ((iha X W sc bs h).x l h3) ((ihb X W sc bs h).x r h4)
    | _ => cases he
  | tnot t iht =>
    intro X W sc bs h
    refine { t := fun e he => ?_ }
    cases e with
    | UnaryOp o r pos =>
      cases o with
      | Not => exact pb_not ((iht X W sc bs h).t r he)
      | _ => cases he
    | _ => cases he
  | tand t u iht ihu =>
    intro X W sc bs h
    have hw : ∀ e, (chk P (.tand t u) sc bs).w e = true → PW X e (TT' X.K W (ev F G (.tand t u)).t) := by
      intro e he
      cases e with
      | BoolOp o es pos =>
        match o, es, he with
        | .And, l :: r :: es, he =>
          obtain ⟨h1, h2⟩ := and2 (show ((chk P t sc bs).t l && (chk P u sc bs).w (.BoolOp .And (r :: es) pos)) = true from he)
          exact PW.imp (pw_and ((iht X W sc bs h).t l h1) ((ihu X W sc bs h).w _ h2)) tAnd_of
      | _ => cases he
    exact { t := fun e he => (hw e he).pt, w := hw }
  | tor t u iht ihu =>
    intro X W sc bs h
    have hw : ∀ e, (chk P (.tor t u) sc bs).w e = true → PW X e (TT' X.K W (ev F G (.tor t u)).t) := by
      intro e he
      cases e with
      | BoolOp o es pos =>
        match o, es, he with
        | .Or, l :: r :: es, he =>
          obtain ⟨h1, h2⟩ := and2 (show ((chk P t sc bs).t l && (chk P u sc bs).w (.BoolOp .Or (r :: es) pos)) = true from he)
          exact PW.imp (pw_or ((iht X W sc bs h).t l h1) ((ihu X W sc bs h).w _ h2)) tOr_of
      | _ => cases he
    exact { t := fun e he => (hw e he).pt, w := hw }
  | tand1 t iht =>
    intro X W sc bs h
    refine { w := fun e he => ?_ }
    cases e with
    | BoolOp o es pos =>
      match o, es, he with
      | .And, [l], he => exact pw_and1 ((iht X W sc bs h).t l he)
    | _ => cases he
  | tor1 t iht =>
    intro X W sc bs h
    refine { w := fun e he => ?_ }
    cases e with
    | BoolOp o es pos =>
      match o, es, he with
      | .Or, [l], he => exact pw_or1 ((iht X W sc bs h).t l he)
    | _ => cases he
  | abs => intro X W sc bs h; exact {}
  | sl m a lo hi iha ihl ihh =>
    intro X W sc bs h
    refine { x := fun e he => ?_ }
    cases e with
    | Subscript l r pos =>
      cases r with
      | Slice lo' hi' st p2 =>
        cases st with
        | some _ => cases he
        | none =>
          obtain ⟨h1, h2, h3⟩ := and3 (show ((chk P a sc bs).x l && optB (isAbs lo) (chk P lo sc bs) lo' && optB (isAbs hi) (chk P hi sc bs) hi') = true from he)
          have part : ∀ (q : C) (ih : OkC P F G X W sc bs q) (q' : Option Expr), optB (isAbs q) (chk P q sc bs) q' = true → PP X W q' (if isAbs q then none else some (ev F G q).x) := by
            intro q ih q' hq
            unfold optB at hq
            by_cases ha : isAbs q = true
            · rw [if_pos ha] at hq ⊢
              cases q' with
              | none => exact pp_none
              | some _ => cases hq
            · rw [if_neg ha] at hq ⊢
              cases q' with
              | none => cases hq
              | some e => exact pp_some (ih.x e hq)
          exact px_sl ((iha X W sc bs h).x l h1) (part lo (ihl X W sc bs h) lo' h2) (part hi (ihh X W sc bs h) hi' h3)
      | _ => cases he
    | _ => cases he
  | rev m a iha =>
    intro X W sc bs h
    refine { x := fun e he => ?_ }
    revert he
    show (match e with
      | .Subscript l (.Slice none none (some (.UnaryOp .USub (.Constant (.int i) _ _) _)) _) _ => decide (i = 1) && (chk P a sc bs).x l
      | _ => false) = true → _
    split
    · intro he
      obtain ⟨h1, h2⟩ := and2 he
      cases of_decide_eq_true h1
      exact px_rev ((iha X W sc bs h).x _ h2)
    · intro he; cases he
  | fld c f a iha =>
    intro X W sc bs h
    refine { x := fun e he => ?_ }
    cases e with
    | Attribute o g pos =>
      obtain ⟨h1, h2, h3, h4⟩ := and4 (show (f == g && natB P c f && plainBase o && (chk P a sc bs).x o) = true from he)
      cases Str.beq_of h1
      obtain ⟨q, hq, e⟩ := List.any_eq_true.mp h2
      obtain ⟨e1, e2⟩ := and2 e
      obtain ⟨f1, f2⟩ := h.facts.nats q hq
      rw [beq_iff_eq.mp e1] at f1 f2
      rw [beq_iff_eq.mp e2] at f2
      exact px_fld (base_of h3) f1 f2 ((iha X W sc bs h).x o h4)
    | _ => cases he
  | call j as ihs =>
    intro X W sc bs h
    refine { x := fun e he => ?_ }
    cases e with
    | Call fn es ks pos =>
      cases fn with
      | Name y p =>
        cases ks with
        | cons _ _ => cases he
        | nil =>
          obtain ⟨h1, h2, h3, h4⟩ := and4 (show ((match P.fns[j]? with
            | some i => isFn i.kind && i.name == y && decide (i.dep < P.dep)
            | none => false) && glB sc y && !dbg y && (chk P as sc bs).l es) = true from he)
          cases hj : P.fns[j]? with
          | none => rw [hj] at h1; cases h1
          | some i =>
            rw [hj] at h1
            obtain ⟨k1, k2, k3⟩ := and3 h1
            have hd : i.dep < P.dep := of_decide_eq_true k3
            obtain ⟨⟨f, fd, f1, f2, f3, f4⟩, f5⟩ := h.facts.fns j i hj hd
            have ek : i.kind = .fn := by
              cases hk : i.kind with
              | fn => rfl
              | meth c => rw [hk] at k1; cases k1
              | init c => rw [hk] at k1; cases k1
            rw [ek] at f4
            have ey := beq_iff_eq.mp k2
            subst ey
            have hr : Room (2 * i.dep + 2) X.A := h.room.mono (by omega)
            have hl := (ihs X W sc bs h).l es h4
            have hst := l_star h4
            cases es with
            | nil =>
              cases as with
              | nil => exact px_call0 f5 h.tk f1 hr h.gd (h.gl h2) f4 f3 f2 (by simpa [dbg] using h3)
              | cons a b => exact nof (show false = true from h4)
              | _ => exact absurd h4 Bool.false_ne_true
            | cons e es =>
              rw [List.all_cons] at hst
              exact px_call f5 h.tk f1 hr h.gd (h.gl h2) f4 f3 f2 (by simpa [dbg] using h3) (star_of (and2 hst).1 _) (hpl_of (and2 hst).2 _ _) hl
      | _ => cases he
    | _ => cases he
  | meth c n j o as iho ihs =>
    intro X W sc bs h
    refine { x := fun e he => ?_ }
    cases e with
    | Call fn es ks pos =>
      cases fn with
      | Attribute r m apos =>
        cases ks with
        | cons _ _ => cases he
        | nil =>
          obtain ⟨h1, h2, h3, h4, h5, h6⟩ := and6 (show ((match P.fns[j]? with
            | some i => isMeth c i.kind && i.name == m && n == m && decide (i.dep < P.dep)
            | none => false) && lineB apos pos && fewB es && plainBase r && (chk P o sc bs).x r && (chk P as sc bs).l es) = true from he)
          cases hj : P.fns[j]? with
          | none => rw [hj] at h1; cases h1
          | some i =>
            rw [hj] at h1
            obtain ⟨k1, k2, k4, k3⟩ := and4 h1
            have hd : i.dep < P.dep := of_decide_eq_true k3
            obtain ⟨⟨f, fd, f1, f2, f3, f4⟩, f5⟩ := h.facts.fns j i hj hd
            have ek : i.kind = .meth c := by
              cases hk : i.kind with
              | fn => rw [hk] at k1; cases k1
              | meth d => rw [hk] at k1; rw [beq_iff_eq.mp (show (c == d) = true from k1)]
              | init d => rw [hk] at k1; cases k1
            rw [ek] at f4
            obtain ⟨cl, hme⟩ := f4
            have ey := beq_iff_eq.mp k2
            have en := beq_iff_eq.mp k4
            subst en
            rw [ey] at hme
            have hr : Room (2 * i.dep + 2) X.A := h.room.mono (by omega)
            have hl := (ihs X W sc bs h).l es h6
            have hst := l_star h6
            have ht := meth_eval (m := n) (env := X.env) h4 h2 hst h3
            cases es with
            | nil =>
              cases as with
              | nil => exact px_meth0 f5 h.tk cl hme f1 hr h.gd f2 ht ((iho X W sc bs h).x r h5)
              | cons a b => exact nof (show false = true from h6)
              | _ => exact absurd h6 Bool.false_ne_true
            | cons e es =>
              have hst' := hst
              rw [List.all_cons] at hst'
              exact px_meth f5 h.tk cl hme f1 hr h.gd f2 (star_of (and2 hst').1 _) (hpl_of (and2 hst').2 _ _) ht ((iho X W sc bs h).x r h5) hl
      | _ => cases he
    | _ => cases he
  | mk c j as ihs =>
    intro X W sc bs h
    refine { x := fun e he => ?_ }
    cases e with
    | Call fn es ks pos =>
      cases fn with
      | Name y p =>
        cases ks with
        | cons _ _ => cases he
        | nil =>
          obtain ⟨h1, h0, h2, h3, h4⟩ := and5 (show ((match P.fns[j]? with
            | some i => isInit c i.kind && decide (i.dep < P.dep)
            | none => false) && c == y && glB sc y && !dbg y && (chk P as sc bs).l es) = true from he)
          have ec := beq_iff_eq.mp h0
          subst ec
          cases hj : P.fns[j]? with
          | none => rw [hj] at h1; cases h1
          | some i =>
            rw [hj] at h1
            obtain ⟨k1, k3⟩ := and2 h1
            have hd : i.dep < P.dep := of_decide_eq_true k3
            obtain ⟨⟨f, fd, f1, f2, f3, f4⟩, f5⟩ := h.facts.fns j i hj hd
            have ek : i.kind = .init c := by
              cases hk : i.kind with
              | fn => rw [hk] at k1; cases k1
              | meth d => rw [hk] at k1; cases k1
              | init d => rw [hk] at k1; rw [beq_iff_eq.mp (show (c == d) = true from k1)]
            rw [ek] at f4
            obtain ⟨mk, hmg⟩ := f4
            have hr : Room (2 * i.dep + 2 + 1) X.A := h.room.mono (by omega)
            have hl := (ihs X W sc bs h).l es h4
            have hst := l_star h4
            cases es with
            | nil =>
              cases as with
              | nil => exact px_mk0 f5 h.tk mk f1 hr h.gd (h.gl h2) hmg f2 (by simpa [dbg] using h3)
              | cons a b => exact nof (show false = true from h4)
              | _ => exact absurd h4 Bool.false_ne_true
            | cons e es =>
              rw [List.all_cons] at hst
              exact px_mk f5 h.tk mk f1 hr h.gd (h.gl h2) hmg f2 (by simpa [dbg] using h3) (star_of (and2 hst).1 _) (hpl_of (and2 hst).2 _ _) hl
      | _ => cases he
    | _ => cases he
  | blt b m as ihs =>
    intro X W sc bs h
    refine { x := fun e he => ?_ }
    cases e with
    | Call fn es ks pos =>
      match fn, es, ks, he with
      | .Name y p, e :: es, [], he =>
        obtain ⟨h1, h2⟩ := and2 (show (freeB P sc y (blName b) && (chk P as sc bs).l (e :: es)) = true from he)
        obtain ⟨e1, e2, e3⟩ := h.free h1
        subst e1
        have hst := l_star h2
        rw [List.all_cons] at hst
        exact opn_bl h.units h.calm h.gd b m e2 e3 (star_of (and2 hst).1 _) (hpl_of (and2 hst).2 _ _) ((ihs X W sc bs h).l _ h2)
    | _ => cases he
  | mt k o as iho ihs =>
    intro X W sc bs h
    refine { x := fun e he => ?_ }
    cases e with
    | Call fn es ks pos =>
      match fn, es, ks, he with
      | .Attribute r m apos, e :: es, [], he =>
        obtain ⟨h1, h2, h3, h4, h5, h6⟩ := and6 (show (m == mtName k && lineB apos pos && fewB (e :: es) && plainBase r && (chk P o sc bs).x r && (chk P as sc bs).l (e :: es)) = true from he)
        have e1 := beq_iff_eq.mp h1
        subst e1
        exact px_mts k ((iho X W sc bs h).x r h5) ((ihs X W sc bs h).l _ h6) h4 h2 h3 (l_star h6)
    | _ => cases he
  | pop0 o iho =>
    intro X W sc bs h
    refine { x := fun e he => ?_ }
    cases e with
    | Call fn es ks pos =>
      match fn, es, ks, he with
      | .Attribute r m apos, [], [], he =>
        obtain ⟨h1, h2, h3, h4⟩ := and4 (show (m == ("pop" : Str) && lineB apos pos && plainBase r && (chk P o sc bs).x r) = true from he)
        have e1 := beq_iff_eq.mp h1
        subst e1
        exact px_mt0 PySem.F.plainAttrs_list PySem.F.slot_list_pop PySem.F.type_list_pop mt_pop opm_pop0 ty_lst ((iho X W sc bs h).x r h4) (base_of h3) h2
    | _ => cases he
  | lvals m o iho =>
    intro X W sc bs h
    refine { x := fun e he => ?_ }
    cases e with
    | Call fn es ks pos =>
      match fn, es, ks, he with
      | .Name y p, [.Call (.Attribute r mn apos) [] [] mpos], [], he =>
        obtain ⟨h1, h2, h3, h4, h5⟩ := and5 (show (freeB P sc y "list" && mn == ("values" : Str) && lineB apos mpos && plainBase r && (chk P o sc bs).x r) = true from he)
        obtain ⟨e1, e2, e3⟩ := h.free h1
        subst e1
        have e4 := beq_iff_eq.mp h2
        subst e4
        exact px_lvals h.calm e2 e3 ((iho X W sc bs h).x r h5) (base_of h4) h3 (star_of rfl _)
    | _ => cases he
  | pop o a iho iha =>
    intro X W sc bs h
    refine { x := fun e he => ?_ }
    cases e with
    | Call fn es ks pos =>
      match fn, es, ks, he with
      | .Attribute r m apos, [e], [], he =>
        obtain ⟨h1, h2, h3, h4, h5, h6⟩ := and6 (show (m == ("pop" : Str) && lineB apos pos && plainBase r && notStar e && (chk P o sc bs).x r && (chk P a sc bs).x e) = true from he)
        have e1 := beq_iff_eq.mp h1
        subst e1
        exact px_pop1 ((iho X W sc bs h).x r h5) ((iha X W sc bs h).x e h6) (star_of h4 _) (m1_of h3 h2 h4)
    | _ => cases he
  | get1 o a iho iha =>
    intro X W sc bs h
    refine { x := fun e he => ?_ }
    cases e with
    | Call fn es ks pos =>
      match fn, es, ks, he with
      | .Attribute r m apos, [e], [], he =>
        obtain ⟨h1, h2, h3, h4, h5, h6⟩ := and6 (show (m == ("get" : Str) && lineB apos pos && plainBase r && notStar e && (chk P o sc bs).x r && (chk P a sc bs).x e) = true from he)
        have e1 := beq_iff_eq.mp h1
        subst e1
        exact px_get1 (by have := h.units; omega) ((iho X W sc bs h).x r h5) ((iha X W sc bs h).x e h6) (m1_of h3 h2 h4)
    | _ => cases he
  | get2 o a b iho iha ihb =>
    intro X W sc bs h
    refine { x := fun e he => ?_ }
    cases e with
    | Call fn es ks pos =>
      match fn, es, ks, he with
      | .Attribute r m apos, [e, f], [], he =>
        obtain ⟨h1, h2, h3, h4, h5, h6, h7, h8⟩ := and8 (show (m == ("get" : Str) && lineB apos pos && plainBase r && notStar e && notStar f && (chk P o sc bs).x r && (chk P a sc bs).x e && (chk P b sc bs).x f) = true from he)
        have e1 := beq_iff_eq.mp h1
        subst e1
        exact px_get2 (by have := h.units; omega) ((iho X W sc bs h).x r h6) ((iha X W sc bs h).x e h7) ((ihb X W sc bs h).x f h8) (m2_of h3 h2 h4 h5)
    | _ => cases he
  | frz a iha =>
    intro X W sc bs h
    exact { x := fun e he => px_frz ((iha X W sc bs h).x e he) }
  | lk i a ihi iha =>
    intro X W sc bs h
    exact { x := fun e he => px_lock ((iha X W sc bs h).x e he) }
  | lc m t own it tst el ihi iht ihe =>
    intro X W sc bs h
    refine { x := fun e he => ?_ }
    cases e with
    | ListComp elt gens scope pos =>
      match gens, he with
      | [⟨tg, iter, ifs, n⟩], he =>
        obtain ⟨h1, h2, h3, h4, h5, h6, h7, h8⟩ := and8 (show (decide (n = 0) && blkB P.N sc scope own && subB (slots t) own && notSet iter && (chk P it sc bs).i tg iter &&
          tgB P.N (relabelS scope sc) (some scope) t tg && tsB (chk P tst (relabelS scope sc) (some scope)) ifs && (chk P el (relabelS scope sc) (some scope)).x elt) = true from he)
        cases of_decide_eq_true h1
        obtain ⟨ok, eo⟩ := blk_of h2
        have hsl : ∀ i ∈ slots t, i ∈ (ownOf P.N own).map (·.2) := by rw [eo]; exact sub_of h3
        have q := px_lc (X := X) (W := W) (m := m) (elt := elt) (pos := pos) h.calm (by rw [h.N]; exact h.nd) (own := ownOf P.N own) (by rw [h.N, h.sc]; exact ok) hsl (fold_of h4) ((ihi X W sc bs h).i tg iter h5)
          (fun s H C cl fp => tg_of (h.blk s H scope C cl fp) h6) (fun s H C cl fp => PTX_of (iht _ W0 _ _ (h.blk s H scope C cl fp)) h7) (fun s H C cl fp => (ihe _ W0 _ _ (h.blk s H scope C cl fp)).x elt h8)
        rw [eo] at q
        exact q
    | _ => cases he
  | dc t own it tst k v ihi iht ihk ihv =>
    intro X W sc bs h
    refine { x := fun e he => ?_ }
    cases e with
    | DictComp kx vx gens scope pos =>
      match gens, he with
      | [⟨tg, iter, ifs, n⟩], he =>
        obtain ⟨h0, h8'⟩ := and2 (show (decide (n = 0) && blkB P.N sc scope own && subB (slots t) own && notSet iter && (chk P it sc bs).i tg iter &&
          tgB P.N (relabelS scope sc) (some scope) t tg && tsB (chk P tst (relabelS scope sc) (some scope)) ifs && (chk P k (relabelS scope sc) (some scope)).x kx && (chk P v (relabelS scope sc) (some scope)).x vx) = true from he)
        obtain ⟨h1, h2, h3, h4, h5, h6, h7, h8⟩ := and8 h0
        cases of_decide_eq_true h1
        obtain ⟨ok, eo⟩ := blk_of h2
        have hsl : ∀ i ∈ slots t, i ∈ (ownOf P.N own).map (·.2) := by rw [eo]; exact sub_of h3
        have q := px_dc (X := X) (W := W) (m := true) (kx := kx) (vx := vx) (pos := pos) h.calm (by rw [h.N]; exact h.nd) (own := ownOf P.N own) (by rw [h.N, h.sc]; exact ok) hsl (fold_of h4) ((ihi X W sc bs h).i tg iter h5)
          (fun s H C cl fp => tg_of (h.blk s H scope C cl fp) h6) (fun s H C cl fp => PTX_of (iht _ W0 _ _ (h.blk s H scope C cl fp)) h7) (fun s H C cl fp => (ihk _ W0 _ _ (h.blk s H scope C cl fp)).x kx h8) (fun s H C cl fp => (ihv _ W0 _ _ (h.blk s H scope C cl fp)).x vx h8')
        rw [eo] at q
        exact q
    | _ => cases he
  | yes =>
    intro X W sc bs h
    refine { ts := fun es he _ => ?_ }
    cases es with
    | nil => exact pt_yes
    | cons _ _ => cases he
  | rng1 a iha =>
    intro X W sc bs h
    refine { i := fun tg e he => ?_ }
    cases e with
    | Call fn es ks pos =>
      match fn, es, ks, he with
      | .Name y p, [e], [], he =>
        obtain ⟨h1, h2, h3⟩ := and3 (show (freeB P sc y "range" && notStar e && (chk P a sc bs).x e) = true from he)
        obtain ⟨e1, e2, e3⟩ := h.free h1
        subst e1
        exact pi_rng1 e2 e3 (star_of h2 _) ((iha X W sc bs h).x e h3)
    | _ => cases he
  | rng2 a b iha ihb =>
    intro X W sc bs h
    refine { i := fun tg e he => ?_ }
    cases e with
    | Call fn es ks pos =>
      match fn, es, ks, he with
      | .Name y p, [e, f], [], he =>
        obtain ⟨h1, h2, h3, h4, h5⟩ := and5 (show (freeB P sc y "range" && notStar e && notStar f && (chk P a sc bs).x e && (chk P b sc bs).x f) = true from he)
        obtain ⟨e1, e2, e3⟩ := h.free h1
        subst e1
        exact pi_rng2 e2 e3 (star_of h2 _) (star_of h3 _) ((iha X W sc bs h).x e h4) ((ihb X W sc bs h).x f h5)
    | _ => cases he
  | it a iha =>
    intro X W sc bs h
    refine { i := fun tg e he => ?_ }
    have hx := (iha X W sc bs h).x e he
    exact pi_any (pi_str hx) (L2.pi_keys hx) hx
  | vals a iha =>
    intro X W sc bs h
    refine { i := fun tg e he => ?_ }
    cases e with
    | Call fn es ks pos =>
      match fn, es, ks, he with
      | .Attribute r m apos, [], [], he =>
        obtain ⟨h1, h2, h3, h4⟩ := and4 (show (m == ("values" : Str) && lineB apos pos && plainBase r && (chk P a sc bs).x r) = true from he)
        have e1 := beq_iff_eq.mp h1
        subst e1
        exact pi_vals' ((iha X W sc bs h).x r h4) (base_of h3) h2
    | _ => cases he
  | keys a iha =>
    intro X W sc bs h
    refine { i := fun tg e he => ?_ }
    cases e with
    | Call fn es ks pos =>
      match fn, es, ks, he with
      | .Attribute r m apos, [], [], he =>
        obtain ⟨h1, h2, h3, h4⟩ := and4 (show (m == ("keys" : Str) && lineB apos pos && plainBase r && (chk P a sc bs).x r) = true from he)
        have e1 := beq_iff_eq.mp h1
        subst e1
        exact pi_keysM' ((iha X W sc bs h).x r h4) (base_of h3) h2
    | _ => cases he
  | items a iha =>
    intro X W sc bs h
    refine { i := fun tg e he => ?_ }
    cases e with
    | Call fn es ks pos =>
      match tg, fn, es, ks, he with
      | .Tuple _ _ _, .Attribute r m apos, [], [], he =>
        obtain ⟨h1, h2, h3, h4⟩ := and4 (show (m == ("items" : Str) && lineB apos pos && plainBase r && (chk P a sc bs).x r) = true from he)
        have e1 := beq_iff_eq.mp h1
        subst e1
        exact pi_items' ((iha X W sc bs h).x r h4) (base_of h3) h2
    | _ => cases tg <;> cases he
  | nx =>
    intro X W sc bs h
    refine { s := fun st he => ?_ }
    cases st with
    | Pass p => exact ps_pass'
    | Expr e p =>
      match e, he with
      | .Constant (.str _) _ _, _ => exact ps_doc'
    | _ => cases he
  | ret a iha =>
    intro X W sc bs h
    refine { s := fun st he => ?_ }
    cases st with
    | Return v p =>
      match v, he with
      | some e, he => exact ps_ret' ((iha X W sc bs h).x e he)
    | _ => cases he
  | retN =>
    intro X W sc bs h
    refine { s := fun st he => ?_ }
    cases st with
    | Return v p =>
      match v, he with
      | none, he => exact ps_retN'
    | _ => cases he
  | set i a iha =>
    intro X W sc bs h
    refine { s := fun st he => ?_ }
    cases st with
    | Assign ts e p =>
      match ts, he with
      | [.Name y py], he =>
        obtain ⟨h1, h2, h3, h4, h5⟩ := and5 (show (P.N[i]? == some y && locB sc y && (fnb bs y || isLocal sc y) && swapFree sc e y py && (chk P a sc bs).x e) = true from he)
        refine ps_set' (by rw [h.N]; exact h.nd) (h.at h1) (h.loc h2) (h.fnl h3) ?_ ((iha X W sc bs h).x e h5)
        unfold swapFree at h4
        rw [Bool.or_eq_true] at h4
        cases e with
        | ListComp el gs sp epos =>
          rcases h4 with h4 | h4
          · cases h4
          · obtain ⟨k1, k2⟩ := and2 h4
            have k3 : swapB sc sp y py epos = false := by simpa using k2
            exact congrArg pure ((swap_eq h.sc k1).trans k3)
        | DictComp kx vx gs sp epos =>
          rcases h4 with h4 | h4
          · cases h4
          · obtain ⟨k1, k2⟩ := and2 h4
            have k3 : swapB sc sp y py epos = false := by simpa using k2
            exact congrArg pure ((swap_eq h.sc k1).trans k3)
        | SetComp el gs sp epos =>
          rcases h4 with h4 | h4
          · cases h4
          · exact nof (and2 h4).2
        | _ => rfl
    | _ => cases he
  | setT t a iha =>
    intro X W sc bs h
    refine { s := fun st he => ?_ }
    cases st with
    | Assign ts e p =>
      match ts, he with
      | [.Tuple es k q], he =>
        obtain ⟨h1, h2, h3⟩ := and3 (show (notTup e && tgB P.N sc bs t (.Tuple es k q) && (chk P a sc bs).x e) = true from he)
        refine ps_setT (tg_of h h2) ?_ ?_ rfl ((iha X W sc bs h).x e h3)
        · cases e <;> rfl
        · cases e with
          | Tuple _ _ _ => cases h1
          | _ => rfl
    | _ => cases he
  | setI o i v iho ihi ihv =>
    intro X W sc bs h
    refine { s := fun st he => ?_ }
    cases st with
    | Assign ts e p =>
      match ts, he with
      | [.Subscript r q p'], he =>
        obtain ⟨h1, h2, h3, h4⟩ := and4 (show (notSlice q && (chk P o sc bs).x r && (chk P i sc bs).x q && (chk P v sc bs).x e) = true from he)
        refine ps_setI (by have := h.units; omega) (fun v => ?_) ?_ ((iho X W sc bs h).x r h2) ((ihi X W sc bs h).x q h3) ((ihv X W sc bs h).x e h4)
        · cases q with
          | Slice _ _ _ _ => cases h1
          | _ => rfl
        · cases e <;> rfl
    | _ => cases he
  | setF c f o v iho ihv =>
    intro X W sc bs h
    refine { s := fun st he => ?_ }
    cases st with
    | Assign ts e p =>
      match ts, he with
      | [.Attribute r g p'], he =>
        obtain ⟨h1, h2, h3, h4⟩ := and4 (show (f == g && natB P c f && (chk P o sc bs).x r && (chk P v sc bs).x e) = true from he)
        cases Str.beq_of h1
        obtain ⟨q, hq, e0⟩ := List.any_eq_true.mp h2
        obtain ⟨e1, e2⟩ := and2 e0
        obtain ⟨f1, f2⟩ := h.facts.nats q hq
        rw [beq_iff_eq.mp e1] at f1 f2
        rw [beq_iff_eq.mp e2] at f2
        exact ps_setF f1 f2 ((iho X W sc bs h).x r h3) ((ihv X W sc bs h).x e h4)
    | _ => cases he
  | ex a iha =>
    intro X W sc bs h
    refine { s := fun st he => ?_ }
    cases st with
    | Expr e p =>
      obtain ⟨h1, h2⟩ := and2 (show (notComp e && (chk P a sc bs).x e) = true from he)
      refine ps_expr' ?_ ((iha X W sc bs h).x e h2)
      cases e with
      | ListComp _ _ _ _ => cases h1
      | SetComp _ _ _ _ => cases h1
      | DictComp _ _ _ _ _ => cases h1
      | _ => rfl
    | _ => cases he
  | ifs t a b iht iha ihb =>
    intro X W sc bs h
    refine { s := fun st he => ?_ }
    cases st with
    | If e p q pos =>
      obtain ⟨h1, h2, h3⟩ := and3 (show ((chk P t sc bs).t e && (chk P a sc bs).b p && (chk P b sc bs).b q) = true from he)
      exact ps_if' ((iht X W sc bs h).t e h1) ((iha X W sc bs h).b p h2) ((ihb X W sc bs h).b q h3)
    | _ => cases he
  | whl t b iht ihb =>
    intro X W sc bs h
    refine { s := fun st he => ?_ }
    cases st with
    | While e p q pos =>
      match q, he with
      | [], he =>
        obtain ⟨h1, h2, h3⟩ := and3 (show (bs.isNone && (chk P t sc bs).t e && (chk P b sc bs).b p) = true from he)
        exact ps_while' (h.pass (Option.isNone_iff_eq_none.mp h1)) ((iht X W sc bs h).t e h2) ((ihb X W sc bs h).b p h3)
    | _ => cases he
  | fors t it b ihi ihb =>
    intro X W sc bs h
    refine { s := fun st he => ?_ }
    cases st with
    | For tg iter body q pos =>
      match q, he with
      | [], he =>
        obtain ⟨h1, h2, h3, h4, h5⟩ := and5 (show (bs.isNone && notSet iter && (chk P it sc bs).i tg iter && tgB P.N sc bs t tg && (chk P b sc bs).b body) = true from he)
        exact ps_for' (h.pass (Option.isNone_iff_eq_none.mp h1)) h.calm ((ihi X W sc bs h).i tg iter h3) (tg_of h h4) ((ihb X W sc bs h).b body h5) (fold_of h2)
    | _ => cases he
  | brk =>
    intro X W sc bs h
    refine { s := fun st he => ?_ }
    cases st with
    | Break p => exact ps_break'
    | _ => cases he
  | cnt =>
    intro X W sc bs h
    refine { s := fun st he => ?_ }
    cases st with
    | Continue p => exact ps_continue'
    | _ => cases he
  | skip =>
    intro X W sc bs h
    refine { b := fun st he => ?_ }
    cases st with
    | nil => exact pss_nil'
    | cons _ _ => cases he
  | seq a b iha ihb =>
    intro X W sc bs h
    refine { b := fun st he => ?_ }
    cases st with
    | nil => cases he
    | cons s rest =>
      obtain ⟨h1, h2⟩ := and2 (show ((chk P a sc bs).s s && (chk P b sc bs).b rest) = true from he)
      exact pss_cons' ((iha X W sc bs h).s s h1) ((ihb X W sc bs h).b rest h2)
  | lks i s ihi ihs =>
    intro X W sc bs h
    exact { s := fun st he => ps_lock' ((ihs X W sc bs h).s st he) }
  | setC i m t own it tst el ihi iht ihe =>
    intro X W sc bs h
    refine { s := fun st he => ?_ }
    cases st with
    | Assign ts e p =>
      match ts, e, he with
      | [.Name y py], .ListComp elt [⟨tg, iter, ifs, n⟩] scope epos, he =>
        obtain ⟨h0, h8'⟩ := and2 (show (bs.isNone && P.N[i]? == some y && swapB sc scope y py epos && decide (n = 0) && blkB P.N sc scope own && subB (slots t) own && notSet iter && (chk P it sc bs).i tg iter &&
          tgB P.N (relabelS scope sc) (some scope) t tg && tsB (chk P tst (relabelS scope sc) (some scope)) ifs && (chk P el (relabelS scope sc) (some scope)).x elt) = true from he)
        obtain ⟨h00, h7'⟩ := and2 h0
        obtain ⟨h01, h6'⟩ := and2 h00
        obtain ⟨a1, a2, a3, h1, h2, h3, h4, h5⟩ := and8 h01
        cases of_decide_eq_true h1
        obtain ⟨ok, eo⟩ := blk_of h2
        obtain ⟨s1, s2, s3, s4⟩ := and4 (show (sc.kind == .function && isLocal sc y && py.line == epos.line && !(scope.names.any fun p => p.1 == y && (p.2 == .local || p.2 == .cell))) = true from a3)
        have hsl : ∀ i ∈ slots t, i ∈ (ownOf P.N own).map (·.2) := by rw [eo]; exact sub_of h3
        have hloc : X.env.scope.names.lookup y = some .local := by rw [h.sc]; exact beq_iff_eq.mp s2
        have q := ps_setLc' (X := X) (W := W) (m := m) (elt := elt) (i := i) (spos := p) h.calm (by rw [h.N]; exact h.nd) (h.at a2) hloc (py := py) (pos := epos) (scope := scope) ?_ (own := ownOf P.N own) (by rw [h.N, h.sc]; exact ok) hsl (fold_of h4) ((ihi X W sc bs h).i tg iter h5)
          (fun s H C cl fp => tg_of (h.blk s H scope C cl fp) h6') (fun s H C cl fp => PTX_of (iht _ W0 _ _ (h.blk s H scope C cl fp)) h7') (fun s H C cl fp => (ihe _ W0 _ _ (h.blk s H scope C cl fp)).x elt h8')
        · rw [eo] at q
          exact q
        · exact congrArg pure ((swap_eq h.sc s1).trans a3)
    | _ => cases he
end
end Co
namespace Co
open PySem PySem.Spec PyProof.Rows L2
/-! ### a whole program -/
theorem zip_lookup {α : Type} : ∀ {ps : List Str} {us : List α}, us.length = ps.length → ∀ n ∈ ps, ((ps.zip us).lookup n).isSome = true
  | [], _, _, n, h => by cases h
  | p :: ps, [], hl, _, _ => by simp at hl
  | p :: ps, u :: us, hl, n, h => by
    rw [List.zip_cons_cons, List.lookup_cons]
    by_cases e : n = p
    · subst e; simp
    · have : (n == p) = false := by simpa using e
      rw [this]
      exact zip_lookup (by simpa using hl) n (by simpa [e] using h)
theorem zip_filterMap {α : Type} : ∀ {ps : List Str} {us : List α}, ps.Nodup → us.length = ps.length → ps.filterMap (fun n => ((ps.zip us).lookup n).map (n, ·)) = ps.zip us := by
  have gen : ∀ (pre ps : List Str) (vs us : List α), (pre ++ ps).Nodup → vs.length = pre.length → us.length = ps.length → ps.filterMap (fun n => ((pre.zip vs ++ ps.zip us).lookup n).map (n, ·)) = ps.zip us := by
    intro pre ps
    induction ps generalizing pre with
    | nil => intro vs us _ _ _; rfl
    | cons p ps ih =>
      intro vs us nd h1 h2
      cases us with
      | nil => simp at h2
      | cons u us =>
        have hn : p ∉ pre := fun hm => by
          rw [List.nodup_append] at nd
          exact nd.2.2 p hm p List.mem_cons_self rfl
        have hlk : (pre.zip vs).lookup p = none := by
          rw [List.lookup_eq_none_iff]
          intro q hq
          have hm : q.1 ∈ pre := (List.of_mem_zip (show (q.1, q.2) ∈ pre.zip vs from hq)).1
          simp only [bne_iff_ne, ne_eq]
          exact fun e => hn (by rw [e]; exact hm)
        have e1 : ((pre.zip vs ++ (p :: ps).zip (u :: us)).lookup p) = some u := by
          rw [List.lookup_append, hlk, List.zip_cons_cons, List.lookup_cons]
          simp
        rw [List.filterMap_cons, e1]
        have ih' := ih (pre ++ [p]) (vs ++ [u]) us (by simpa using nd) (by simp [h1]) (by simpa using h2)
        have e2 : (pre ++ [p]).zip (vs ++ [u]) = pre.zip vs ++ [(p, u)] := by
          rw [List.zip_append h1.symm]
          rfl
        rw [e2, List.append_assoc] at ih'
        show (p, u) :: _ = (p, u) :: ps.zip us
        congr 1
  intro ps us nd hl
  exact gen [] ps [] us (by simpa using nd) rfl hl
/-- plain parameters -/
def plainArgs (p : Arguments) (ps : List Str) : Bool := p.posonlyargs.isEmpty && p.vararg.isNone && p.kwonlyargs.isEmpty && p.kwarg.isNone && decide (p.args.map (·.arg) = ps)
theorem bind_plain {x qual : Str} {params : Arguments} {body : List Stmt} {scope : Scope} {ps : List Str} (h : plainArgs params ps = true) (nd : ps.Nodup) (kV doc pm : Value) (an : Option Addr) (cdv ct : Value) (us : List Value) (hl : us.length = ps.length) :
    bindArgs (PySem.W.fnOf x qual params body scope .none kV doc pm an cdv ct) ⟨us, []⟩ = pure (ps.zip us) := by
  obtain ⟨po, ar, va, ko, kd, kw, df⟩ := params
  obtain ⟨h1, h2, h3, h4, h5⟩ := and5 h
  have e1 : po = [] := List.isEmpty_iff.mp h1
  have e2 : va = none := Option.isNone_iff_eq_none.mp h2
  have e3 : ko = [] := List.isEmpty_iff.mp h3
  have e4 : kw = none := Option.isNone_iff_eq_none.mp h4
  have e5 : ar.map (·.arg) = ps := of_decide_eq_true h5
  subst e1 e2 e3 e4 e5
  unfold bindArgs PySem.W.fnOf
  have m : ((ar.map (·.arg)).filter fun n => (((ar.map (·.arg)).zip us).lookup n).isNone) = [] := by
    rw [List.filter_eq_nil_iff]
    intro n hn
    have := zip_lookup hl n hn
    rw [Option.isNone_iff_eq_none]
    intro e
    rw [e] at this
    cases this
  have ln : ar.length = us.length := by simpa using hl.symm
  have z := zip_filterMap (us := us) nd hl
  have hs : seqItems? .none = pure none := rfl
  simp only [List.forIn_nil, pure_bind, List.map_nil, List.nil_append]
  simp only [hs, pure_bind, Option.getD_none, List.drop_nil, List.length_nil, Nat.sub_zero]
  have c1 : (decide (us.length > (ar.map (·.arg)).length) && (none : Option Arg).isNone) = false := by
    rw [hl]; simp
  have c2 : (ar.map (·.arg)).take ((ar.map (·.arg)).length) = ar.map (·.arg) := List.take_length
  have c3 : (ar.map (·.arg)).drop ((ar.map (·.arg)).length) = [] := List.drop_length
  have c4 : (#[] : Array Value).toList = [] := rfl
  simp only [c4, List.length_nil, List.drop_nil, Nat.sub_zero, Nat.zero_sub, c1, c2, c3, m, List.zip_nil_right, List.zip_nil_left, List.forIn_nil, pure_bind, List.isEmpty_nil, Bool.not_true, Bool.false_eq_true, if_false, List.append_nil, z]

/-- a def: its promise's name, the slots, the core body, where it stands -/
structure Df where
  fi : FnI
  N : List Str
  body : C
  d : He.DefD
def depOf (ds : List Df) (j : Nat) : Nat := match ds[j]? with
  | some d => d.fi.dep
  | none => 0
/-- the meaning of the j-th def -/
noncomputable def mean (ds : List Df) (G : Nat → D) (j : Nat) : List D → S → R D := match ds[j]? with
  | some d => callB d.fi.ps.length d.N.length (ev (fun m => if h : depOf ds m < depOf ds j then mean ds G m else fun _ _ => .bad) G d.body).s
  | none => fun _ _ => .bad
termination_by depOf ds j
/-- .. of those below k -/
noncomputable def meanB (ds : List Df) (G : Nat → D) (k : Nat) (m : Nat) : List D → S → R D := if depOf ds m < k then mean ds G m else fun _ _ => .bad
theorem mean_eq {ds : List Df} {G : Nat → D} {j : Nat} {d : Df} (h : ds[j]? = some d) : mean ds G j = callB d.fi.ps.length d.N.length (ev (meanB ds G d.fi.dep) G d.body).s := by
  have e : depOf ds j = d.fi.dep := by unfold depOf; rw [h]
  rw [mean, h]
  show callB _ _ (ev _ G d.body).s = _
  rw [e]
  rfl
theorem meanB_eq {ds : List Df} {G : Nat → D} {k m : Nat} (h : depOf ds m < k) : meanB ds G k m = mean ds G m := if_pos h
/-- what a def's text is asked -/
def okD (gls frees : List Str) (nats : List (Str × Str)) (fns : List FnI) (d : Df) : Bool :=
  d.d.dfl.isEmpty && d.d.kwd.isEmpty && plainArgs d.d.params d.fi.ps && decide d.N.Nodup && decide (d.N.take d.fi.ps.length = d.fi.ps) &&
  (d.d.scope.kind == .function && !d.d.scope.isCoroutine && !d.d.scope.isGenerator && d.fi.ps.all (fun x => locB d.d.scope x) && d.d.scope.names.all (fun y => !(y.2 == .free))) &&
  (match d.fi.kind with
    | .fn => decide (d.d.at_ = (d.fi.name, none))
    | .meth c => decide (d.d.at_ = (c, some d.fi.name))
    | .init c => decide (d.d.at_ = (c, some ("__init__" : Str)))) &&
  (chk ⟨d.N, fns, gls, frees, nats, d.fi.dep⟩ d.body d.d.scope none).b d.d.body
/-- the facts about names -/
structure NFacts (gls frees : List Str) (nats : List (Str × Str)) (G : Nat → D) (K : Frag) (mg : Str → Option Value) : Prop where
  gls : ∀ k x, gls[k]? = some x → ∃ u v, mg x = some u ∧ RelV v u ∧ ∀ g H, RD K g H (G k) v
  frees : ∀ x ∈ frees, mg x = none
  nats : ∀ q ∈ nats, Cls K (He.ga K q.1) ∧ NoAttr K (He.ga K q.1) q.2
def KindOk (K : Frag) (mg : Str → Option Value) (i : FnI) : Prop := match i.kind with
  | .fn => mg i.name = some (.ref (He.ga K i.name))
  | .meth c => Cls K (He.ga K c) ∧ Meth K (He.ga K c) i.name (He.ma K (He.ga K c) i.name)
  | .init c => Mk K (He.ga K c) (He.ma K (He.ga K c) "__init__") ∧ mg c = some (.ref (He.ga K c))
theorem FnScope.of {N ps : List Str} {sc : Scope} (h1 : N.Nodup) (h2 : N.take ps.length = ps) (h3 : (sc.kind == .function && !sc.isCoroutine && !sc.isGenerator && ps.all (fun x => locB sc x) && sc.names.all (fun y => !(y.2 == .free))) = true) : FnScope N ps sc := by
  obtain ⟨k1, k2, k3, k4, k5⟩ := and5 h3
  refine ⟨beq_iff_eq.mp k1, by simpa using k2, by simpa using k3, h1, h2, fun x hx => loc_of (List.all_eq_true.mp k4 x hx), fun y hy e => ?_⟩
  have := List.all_eq_true.mp k5 y hy
  rw [e] at this
  simp at this
section
variable {ds : List Df} {G : Nat → D} {gls frees : List Str} {nats : List (Str × Str)} {P : Program} {w : World} {K : Frag} {mg : Str → Option Value} {base : Heap}
/-- a def that is checked, where those that it calls are known -/
theorem fn_one {n : Nat} {j : Nat} {d : Df} {fd : FuncData} (hc : okD gls frees nats (ds.map (·.fi)) d = true) (nf : NFacts gls frees nats G K mg)
    (ih : ∀ (j : Nat) (e : Df), ds[j]? = some e → e.fi.dep < d.fi.dep → FnFact P w K mg base e.fi (mean ds G j)) (hj : ds[j]? = some d)
    (FD : FunD K d.d.name d.d.qual d.d.params d.d.body d.d.scope (d.d.dvs K) (d.d.kws K) (He.fAd K d.d.at_) fd) :
    FnG P w K mg base (2 * d.fi.dep + 1 + 1) (He.fAd K d.d.at_) fd d.fi.ps (spF K d.fi.ps.length (mean ds G j)) ∧ (∀ us : List Value, us.length = d.fi.ps.length → ∀ s : Shared, BindsTo s fd ⟨us, []⟩ (d.fi.ps.zip us)) ∧ Binds K fd d.fi.ps [] := by
  obtain ⟨c1, c2, c3, c4, c5, c6, c7, c8⟩ := and8 hc
  have e1 : d.d.dvs K = [] := by unfold He.DefD.dvs; rw [List.isEmpty_iff.mp c1]; rfl
  have e2 : d.d.kws K = [] := by unfold He.DefD.kws; rw [List.isEmpty_iff.mp c2]; rfl
  rw [e1, e2] at FD
  have sc := FnScope.of (of_decide_eq_true c4) (of_decide_eq_true c5) c6
  have nd : d.fi.ps.Nodup := by
    have := of_decide_eq_true c4
    rw [← of_decide_eq_true c5]
    exact this.sublist (List.take_sublist _ _)
  have facts : Facts ⟨d.N, ds.map (·.fi), gls, frees, nats, d.fi.dep⟩ (meanB ds G d.fi.dep) G P w K mg base := {
    fns := fun m i hi hlt => by
      rw [List.getElem?_map] at hi
      obtain ⟨e, he, rfl⟩ := Option.map_eq_some_iff.mp hi
      have hdm : depOf ds m = e.fi.dep := by unfold depOf; rw [he]
      rw [meanB_eq (by rw [hdm]; exact hlt)]
      exact ih m e he hlt
    gls := nf.gls
    frees := nf.frees
    nats := nf.nats }
  refine ⟨?_, fun us hl s => FD.bindsA (fun kV doc pm an cdv ct us hl => bind_plain c3 nd kV doc pm an cdv ct us hl) s us hl, FD.bindsN fun kV doc pm an cdv ct us hl => bind_plain c3 nd kV doc pm an cdv ct us hl⟩
  rw [mean_eq hj]
  refine fn_ok FD sc fun cdv A outer s H E hr hgd => ?_
  refine (main ⟨d.N, ds.map (·.fi), gls, frees, nats, d.fi.dep⟩ (meanB ds G d.fi.dep) G d.body _ _ d.d.scope none ?_).b d.d.body c8
  exact { N := rfl, nd := sc.nd, sc := rfl, fn := fun _ _ => rfl, calm := rfl, gd := hgd, room := hr, pass := fun _ => passes_of rfl, tk := takes_of rfl rfl rfl rfl, facts := facts }
theorem fn_facts (hc : ∀ d ∈ ds, okD gls frees nats (ds.map (·.fi)) d = true) (nf : NFacts gls frees nats G K mg) (hk : ∀ d ∈ ds, KindOk K mg d.fi)
    (hd : ∀ d ∈ ds, ∃ fd, FunD K d.d.name d.d.qual d.d.params d.d.body d.d.scope (d.d.dvs K) (d.d.kws K) (He.fAd K d.d.at_) fd) :
    ∀ (n : Nat) (j : Nat) (d : Df), ds[j]? = some d → d.fi.dep < n → FnFact P w K mg base d.fi (mean ds G j) := by
  intro n
  induction n with
  | zero => intro j d _ h; exact absurd h (Nat.not_lt_zero _)
  | succ n ih =>
    intro j d hj hn
    have hm : d ∈ ds := List.mem_of_getElem? hj
    obtain ⟨fd, FD⟩ := hd d hm
    obtain ⟨fg, _, fb⟩ := fn_one (P := P) (w := w) (base := base) (n := n) (hc d hm) nf (fun m e he hlt => ih m e he (by omega)) hj FD
    obtain ⟨c1, c2, c3, c4, c5, c6, c7, c8⟩ := and8 (hc d hm)
    refine ⟨⟨He.fAd K d.d.at_, fd, fg, fb, FD.kp, ?_⟩, fun xs s hl => ?_⟩
    · have k := hk d hm
      unfold KindOk at k
      cases hkd : d.fi.kind with
      | fn =>
        rw [hkd] at c7 k
        have e : d.d.at_ = (d.fi.name, none) := of_decide_eq_true c7
        rw [e]
        exact k
      | meth c =>
        rw [hkd] at c7 k
        have e : d.d.at_ = (c, some d.fi.name) := of_decide_eq_true c7
        rw [e]
        exact k
      | init c =>
        rw [hkd] at c7 k
        have e : d.d.at_ = (c, some ("__init__" : Str)) := of_decide_eq_true c7
        rw [e]
        exact k
    · rw [mean_eq hj]
      unfold callB
      rw [if_neg hl]
end
/-- no exception leaves where none is wished for -/
theorem cx_none {P : Program} {w : World} {H : Hp} {s s' : Shared} {e : Value} (h : L2.CX P w [] H s (fun _ _ _ => False) e s') : False := by
  obtain ⟨a, B, H', cls, d, _, _, _, _, _, _, _, z⟩ := h
  exact z
/-- the head's call (the proof follows law_call of HandS.Ends), the promise asked where no repr is under way -/
theorem law_callG {P : Program} {w : World} {K : PySem.W.Frag} {mg mb : Str → Option Value} {k : Nat} {fa a : Addr} {fd : FuncData} {x : Str} {sp : Sp} {s₁ : Shared} {vs : List Value} {ns : List Int}
    (KX : K.In s₁.heap) (hns : s₁.heap.Ns mainGlobals mg) (hb : s₁.heap.Ns builtinsNs mb) (hbb : ∀ x : Str, x ≠ "__name__" → mb x = bootBuiltins x) (hlim : s₁.heap.NoLimit) (hg : s₁.gens = #[])
    (ha : s₁.heap.get? a = some { cls := .type "list", data := .seq vs.toArray }) (hi : IntsAre vs ns) (hl : ns.length ≤ sizeLine) (hr : Room k callerA)
    (F : ∀ base : Heap, K.In base → base.Ns mainGlobals mg → FnG P w K mg base k fa fd [x] sp) (hbind : ∀ (s : Shared) (u : Value), BindsTo s fd ⟨[u], []⟩ [(x, u)])
    (hsp : ∀ H : Hp, Only H → SqL K H a (ns.map V.int) → sp [.ref a] H (fun v _ => v = .bl true) fun _ _ _ => False) :
    codeAny (model P w) callerA (.call (.ref fa) ⟨[.ref a], []⟩) (fun r s' => r = .ok (.ret (.bool true)) ∧ OldK s₁.heap s'.heap ∧ s'.os = s₁.os ∧ AllBare s'.gens) s₁ := by
  have rv := vals_ints hi
  have lenV := hi.length
  -- from an abstract heap in which nothing but the script may be tracked
  have core : ∀ H : Hp, Only H → SqL K H a (ns.map V.int) → HOk P w H s₁.heap → (∀ b, H b ≠ none → b = a) → (H a ≠ none → K.lookup a = none) →
      codeAny (model P w) callerA (.call (.ref fa) ⟨[.ref a], []⟩) (fun r s' => r = .ok (.ret (.bool true)) ∧ OldK s₁.heap s'.heap ∧ s'.os = s₁.os ∧ AllBare s'.gens) s₁ := by
    intro H hO hS hok hA hK
    have base_of : ∀ {b : Addr} {o : Obj}, s₁.heap.get? b = some o → H b = none → (hidT s₁.heap H).get? b = some o := fun e n => hidT_get e n
    have noA : ∀ {b : Addr} {o : Obj} {es : Array DictEntry} {ep : Nat}, s₁.heap.get? b = some o → o.data = .dict es ep → H b = none := fun {b o es ep} e d => by
      cases q : H b with
      | none => rfl
      | some u =>
        have e' : b = a := hA b (by rw [q]; simp)
        subst e'
        rw [ha] at e; cases e
        have d' : Data.seq vs.toArray _ = Data.dict es ep := d
        cases d'
    have nsK : ∀ {b : Addr} {m : Str → Option Value}, s₁.heap.Ns b m → (hidT s₁.heap H).Ns b m := fun {b m} ⟨o, es, ep, e, d, r⟩ => ⟨o, es, ep, base_of e (noA e d), d, r⟩
    have hKb : K.In (hidT s₁.heap H) := fun b o e => base_of (KX b o e) (by
      cases q : H b with
      | none => rfl
      | some u =>
        have e' : b = a := hA b (by rw [q]; simp)
        subst e'
        rw [hK (by rw [q]; simp)] at e; cases e)
    have hM : Mod K mg (hidT s₁.heap H) := ⟨hKb, nsK hns, ⟨mb, nsK hb, hbb⟩, let ⟨mc, h1, h2⟩ := hlim; ⟨mc, nsK h1, h2⟩⟩
    have e0 : Env0 P w K mg (hidT s₁.heap H) callerA [] s₁ H := ⟨rfl, hM, fun b o e => of_hidT e, Nat.le_of_eq (hidT_size _ _), trivial, fun b hb => absurd (show b ∈ ([] : List Addr) from hb) (by simp), hok, .of_eq hg⟩
    refine codeAny_mono ((F _ hKb (nsK hns)).run callerA [] s₁ H ⟨[.ref a], []⟩ [.ref a] [.ref a] _ _ hr rfl e0 (hbind s₁ (.ref a)) (.cons rfl .nil) (hsp H hO hS)) fun r s' h => ?_
    cases r with
    | error e => exact (cx_none h).elim
    | ok fl =>
      cases fl with
      | next => exact False.elim h
      | brk => exact False.elim h
      | cont => exact False.elim h
      | ret u =>
        obtain ⟨v, H', os, bare, un, hok', r', q⟩ := h
        have q' : v = .bl true := q
        subst q'
        obtain rfl : u = Value.bool true := r'
        refine ⟨rfl, OldK.of_keep fun b o e => ?_, os, bare⟩
        cases q : H b with
        | none => exact un.keep b o e q (by intro z; exact absurd (show b ∈ ([] : List Addr) from z) (by simp)) (by simp)
        | some u =>
          rcases hO b with z | ⟨ob, xs, z⟩
          · rw [q] at z; cases z
          · have z2 := un.frzs b ob _ z
            obtain ⟨e1, _⟩ := hok b _ z
            obtain ⟨e2, _⟩ := hok' b _ z2
            rw [e] at e1; cases e1
            exact e2
  cases hk : K.lookup a with
  | some o =>
    -- the script is one of the module's own objects
    have e := KX a o hk
    rw [ha] at e
    cases e
    refine core (fun _ => none) (fun _ => .inl rfl) (.inr ⟨_, vs.toArray, _, hk, rfl, rfl, rfl, by rw [List.size_toArray, lenV]; exact hl, by simpa using rv⟩) (fun b u z => by have z' : (none : Option HO) = some u := z; cases z') (fun b z => absurd rfl z) fun z => absurd rfl z
  | none =>
    refine core (fun b => if b = a then some (.frz { cls := .type "list", data := .seq vs.toArray } (.lst (ns.map V.int))) else none) (fun b => ?_) (.inl (.inr ⟨{ cls := .type "list", data := .seq vs.toArray }, if_pos rfl⟩)) (fun b u z => ?_) (fun b z => ?_) fun _ => hk
    · by_cases hb : b = a
      · exact .inr ⟨_, _, if_pos hb⟩
      · exact .inl (if_neg hb)
    · by_cases hb : b = a
      · have z' := (if_pos hb).symm.trans z
        cases z'
        subst hb
        exact ⟨ha, by rw [List.length_map]; exact hl, vs, _, rv, ha⟩
      · have z' := (if_neg hb).symm.trans z
        cases z'
    · by_cases hb : b = a
      · exact hb
      · exact absurd (if_neg hb) z

/-- the empty abstract heap, the script alone -/
def S0 : S := ⟨0, fun _ => none⟩
theorem rel0 {K : Frag} {H : Hp} : Rel K ⟨fun _ => none, fun _ => False, fun _ => False⟩ S0 H :=
  ⟨fun _ _ e => (nomatch e), fun _ _ e => (nomatch e), fun _ _ _ _ _ e => (nomatch e), fun _ h => h.elim, fun _ h => h.elim⟩
theorem rds_ints {K : Frag} {g : Gh} {H : Hp} (ns : List Int) : RDs K g H (ns.map D.int) (ns.map V.int) := rds_map fun _ _ => rfl
theorem walkG {l : PySem.W.OpenLaw} {n : Nat} {q : Program} {loose : List Str} {XP : (Str → Option Value) → Heap → Prop} {d0 : DefRec} {ds : List Df} {G : Nat → D} {gls frees : List Str} {nats : List (Str × Str)} {fa : List He.Fa} {fn : List He.DefD} {M : Nat} {j : Nat} {d : Df}
    (hn : l.most = some n) (hn2 : n ≤ sizeLine) (hdf : d0.params.defaults = []) (hj : ds[j]? = some d) (hr : Room (2 * d.fi.dep + 2) callerA) (hnm : d0.name = d.fi.name) (hk : d.fi.kind = .fn) (hps : d.fi.ps = [("_law_script" : Str)])
    (hc : ∀ d ∈ ds, okD gls frees nats (ds.map (·.fi)) d = true)
    (hF : ∀ (K : PySem.W.Frag) (mg : Str → Option Value) (h : Heap), K.In h → h.Ns mainGlobals mg → He.SaysD fa fn K → NFacts gls frees nats G K mg ∧ (∀ d ∈ ds, KindOk K mg d.fi) ∧
      ∀ d ∈ ds, ∃ fd, FunD K d.d.name d.d.qual d.d.params d.d.body d.d.scope (d.d.dvs K) (d.d.kws K) (He.fAd K d.d.at_) fd)
    (hlaw : ∀ ns : List Int, ns.length ≤ n → ∃ s', mean ds G j [.sc (ns.map .int)] S0 = .ok (.bl true) s') :
    PySem.W.WalkO q loose XP (He.hookD M fa fn).says l.row.toRowW d0 [] (fun f vs => PySem.call f vs) := by
  refine Att.attach_call hn hdf fun w s₀ s₁ mg mb fa' o pm cd doc a vs ns G0 Y ho hd hcd hmg hobj hints hlen hg => ?_
  obtain ⟨K, KX, Y⟩ := Y
  obtain ⟨nf, hkk, hfd⟩ := hF K mg _ KX G0.T.g Y
  have hm : d ∈ ds := List.mem_of_getElem? hj
  obtain ⟨fd, FD⟩ := hfd d hm
  have one : ∀ base : Heap, _ := fun base => fn_one (P := l.prog) (w := w) (base := base) (n := d.fi.dep) (hc d hm) nf (fun m e he hlt => fn_facts hc nf hkk hfd d.fi.dep m e he hlt) hj FD
  have efa : He.fAd K d.d.at_ = fa' := by
    obtain ⟨c1, c2, c3, c4, c5, c6, c7, c8⟩ := and8 (hc d hm)
    rw [hk] at c7
    have e : d.d.at_ = (d.fi.name, none) := of_decide_eq_true c7
    have k := hkk d hm
    unfold KindOk at k
    rw [hk] at k
    rw [hnm] at hmg
    rw [e]
    have k2 : mg d.fi.name = some (.ref (He.ga K d.fi.name)) := k
    rw [hmg] at k2
    cases k2
    rfl
  refine law_callG (x := "_law_script") (fd := fd) KX G0.T.g G0.T.b G0.T.builtins G0.T.nolimit hg hobj hints (Nat.le_trans hlen hn2) hr (sp := spF K d.fi.ps.length (mean ds G j)) (fun base _ _ => ?_) (fun s u => ?_) fun H hO hS => ?_
  · have := (one base).1
    rw [efa, hps] at this
    rw [hps]
    exact this
  · have := (one s₁.heap).2.1 [u] (by rw [hps]; rfl) s
    rw [hps] at this
    exact this
  · obtain ⟨s', hs⟩ := hlaw ns hlen
    have sq : SqS K H a (ns.map V.int) := by
      rcases hS with (h1 | ⟨o, h1⟩) | h1
      · rcases hO a with z | ⟨o, xs, z⟩ <;> (rw [h1] at z; cases z)
      · exact .inl ⟨o, h1⟩
      · exact .inr h1
    refine ⟨by rw [hps]; rfl, _, S0, [.sc (ns.map .int)], rel0, .cons ⟨a, _, rfl, sq, rds_ints ns⟩ .nil, ?_⟩
    rw [hs]
    exact fun g' H' b st R q => q
end Co
namespace Co
open PySem L2
/-! ### the plain layer: what a result brings -/
abbrev XP := Str → List (Str × D) → S → Prop
def wp {α : Type} (r : R α) (Q : α → S → Prop) (E : XP) : Prop := match r with
  | .ok a s => Q a s
  | .exc c fs s => E c fs s
  | .bad => False
section
variable {α β : Type} {Q : α → S → Prop} {E : XP}
theorem wp_ok (a : α) (s : S) : wp (.ok a s) Q E = Q a s := rfl
theorem wp_bad : wp (.bad : R α) Q E = False := rfl
theorem wp_bd {r : R β} {f : β → S → R α} : wp (bd r f) Q E = wp r (fun b s => wp (f b s) Q E) E := by cases r <;> rfl
theorem wp_mono {r : R α} {Q' : α → S → Prop} {E' : XP} (h : wp r Q E) (h1 : ∀ a s, Q a s → Q' a s) (h2 : ∀ c fs s, E c fs s → E' c fs s) : wp r Q' E' := by
  cases r with
  | ok a s => exact h1 a s h
  | exc c fs s => exact h2 c fs s h
  | bad => exact h
theorem wp_conseq {r : R α} {Q' : α → S → Prop} (h : wp r Q E) (h1 : ∀ a s, Q a s → Q' a s) : wp r Q' E := wp_mono h h1 fun _ _ _ h => h
theorem wp_ite {c : Prop} [Decidable c] {r1 r2 : R α} : wp (if c then r1 else r2) Q E = if c then wp r1 Q E else wp r2 Q E := by split <;> rfl
theorem wp_is {r : R α} {a : α} {s : S} (h : r = .ok a s) : wp r Q E = Q a s := by rw [h]; rfl
theorem wp_get {r : R α} (h : wp r Q fun _ _ _ => False) : ∃ a s, r = .ok a s ∧ Q a s := by
  cases r with
  | ok a s => exact ⟨a, s, rfl, h⟩
  | exc c fs s => exact h.elim
  | bad => exact h.elim
end
section
variable {Q : D → S → Prop} {QB : Bool → S → Prop} {QL : List D → S → Prop} {QI : Itm → S → Prop} {E : XP} {env : Env} {s : S}
theorem wp_var {i : Nat} {d : D} (h : env[i]? = some (some d)) : wp (varM i env s) Q E = Q d s := by unfold varM; rw [h]; rfl
theorem wp_lit {d : D} : wp (litM d env s) Q E = Q d s := rfl
theorem wp_op2 {f : D → D → S → R D} {ma mb : ME D} : wp (op2M f ma mb env s) Q E = wp (ma env s) (fun x s1 => wp (mb env s1) (fun y s2 => wp (f x y s2) Q E) E) E := by
  unfold op2M
  simp only [wp_bd]
theorem wp_op1 {f : D → S → R D} {ma : ME D} : wp (op1M f ma env s) Q E = wp (ma env s) (fun x s1 => wp (f x s1) Q E) E := by
  unfold op1M
  simp only [wp_bd]
theorem wp_nil : wp (nilM env s) QL E = QL [] s := rfl
theorem wp_cons {m : ME D} {ms : ME (List D)} : wp (consM m ms env s) QL E = wp (m env s) (fun d s1 => wp (ms env s1) (fun ds s2 => QL (d :: ds) s2) E) E := by
  unfold consM
  simp only [wp_bd, wp_ok]
theorem wp_arg {f : List D → S → R D} {ms : ME (List D)} : wp (argM f ms env s) Q E = wp (ms env s) (fun ds s1 => wp (f ds s1) Q E) E := by
  unfold argM
  simp only [wp_bd]
theorem wp_bool {m : ME D} : wp (boolM m env s) QB E = wp (m env s) (fun x s1 => match x with
    | .bl k => QB k s1
    | _ => False) E := by
  unfold boolM
  rw [wp_bd]
  congr 1
  funext x s1
  cases x <;> rfl
theorem wp_tru {m : ME D} : wp (truM m env s) QB E = wp (m env s) (fun x s1 => match truD x s1 with
    | some k => QB k s1
    | none => False) E := by
  unfold truM
  rw [wp_bd]
  congr 1
  funext x s1
  cases truD x s1 <;> rfl
theorem wp_notM {m : ME Bool} : wp (notM m env s) QB E = wp (m env s) (fun k s1 => QB (!k) s1) E := by
  unfold notM
  rw [wp_bd]
  rfl
theorem wp_andM {m n : ME Bool} : wp (andM m n env s) QB E = wp (m env s) (fun k s1 => if k then wp (n env s1) QB E else QB false s1) E := by
  unfold andM
  rw [wp_bd]
  congr 1
  funext k s1
  cases k <;> rfl
theorem wp_orM {m n : ME Bool} : wp (orM m n env s) QB E = wp (m env s) (fun k s1 => if k then QB true s1 else wp (n env s1) QB E) E := by
  unfold orM
  rw [wp_bd]
  congr 1
  funext k s1
  cases k <;> rfl
theorem wp_ifM {c : ME Bool} {m n : ME D} : wp (ifM c m n env s) Q E = wp (c env s) (fun k s1 => if k then wp (m env s1) Q E else wp (n env s1) Q E) E := by
  unfold ifM
  rw [wp_bd]
  congr 1
  funext k s1
  cases k <;> rfl
theorem wp_rng1 {m : ME D} : wp (rng1M m env s) QI E = wp (m env s) (fun x s1 => wp (rngF1 x s1) QI E) E := by unfold rng1M; rw [wp_bd]
theorem wp_rng2 {m n : ME D} : wp (rng2M m n env s) QI E = wp (m env s) (fun x s1 => wp (n env s1) (fun y s2 => wp (rngF2 x y s2) QI E) E) E := by unfold rng2M; simp only [wp_bd]
theorem wp_it {m : ME D} : wp (anyItM m env s) QI E = wp (m env s) (fun x s1 => wp (anyIt x s1) QI E) E := by unfold anyItM; rw [wp_bd]
theorem wp_mth {c : D → S → Bool} {f : D → List D → S → R D} {mo : ME D} {mes : ME (List D)} : wp (mthM c f mo mes env s) Q E = wp (mo env s) (fun x s1 => if c x s1 = true then wp (mes env s1) (fun ds s2 => wp (f x ds s2) Q E) E else False) E := by
  unfold mthM
  rw [wp_bd]
  congr 1
  funext x s1
  rw [wp_ite, wp_bd]
  rfl
end
/-! ### statements -/
abbrev QS := Fl → Env → S → Prop
def wps (r : R (Fl × Env)) (Q : QS) : Prop := match r with
  | .ok (f, env) s => Q f env s
  | _ => False
section
variable {Q : QS} {env : Env} {s : S}
theorem wps_ok {f : Fl} : wps (.ok (f, env) s) Q = Q f env s := rfl
theorem wps_bs {α : Type} {r : R α} {f : α → S → R (Fl × Env)} : wps (bs r env f) Q = wp r (fun a s => wps (f a s) Q) (fun c fs s => Q (.ex c fs) env s) := by cases r <;> rfl
theorem wps_seq {m n : MS} : wps (seqM m n env s) Q = wps (m env s) (fun f env1 s1 => match f with
    | .nx => wps (n env1 s1) Q
    | f => Q f env1 s1) := by
  unfold seqM
  cases m env s with
  | ok fe s1 =>
    obtain ⟨f, env1⟩ := fe
    cases f <;> rfl
  | exc c fs s1 => rfl
  | bad => rfl
theorem wps_mono {r : R (Fl × Env)} {Q' : QS} (h : wps r Q) (i : ∀ f e s, Q f e s → Q' f e s) : wps r Q' := by
  cases r with
  | ok fe s1 =>
    obtain ⟨f, env1⟩ := fe
    exact i _ _ _ h
  | exc c fs s1 => exact h
  | bad => exact h
theorem wps_nx : wps (nxM env s) Q = Q .nx env s := rfl
theorem wps_fl {f : Fl} : wps (flM f env s) Q = Q f env s := rfl
theorem wps_expr {m : ME D} : wps (exprM m env s) Q = wp (m env s) (fun _ s1 => Q .nx env s1) (fun c fs s => Q (.ex c fs) env s) := by unfold exprM; rw [wps_bs]; rfl
theorem wps_ret {m : ME D} : wps (retM m env s) Q = wp (m env s) (fun d s1 => Q (.rt d) env s1) (fun c fs s => Q (.ex c fs) env s) := by unfold retM; rw [wps_bs]; rfl
theorem wps_if {c : ME Bool} {m n : MS} : wps (ifS c m n env s) Q = wp (c env s) (fun k s1 => if k then wps (m env s1) Q else wps (n env s1) Q) (fun c fs s => Q (.ex c fs) env s) := by
  unfold ifS
  rw [wps_bs]
  congr 1
  funext k s1
  cases k <;> rfl
theorem wps_set {i : Nat} {m : ME D} : wps (setM i m env s) Q = wp (m env s) (fun d s1 => Q .nx (env.set i (some d)) s1) (fun c fs s => Q (.ex c fs) env s) := by unfold setM; rw [wps_bs]; rfl
theorem wps_setT {t : Tg} {m : ME D} : wps (setT t m env s) Q = wp (m env s) (fun d s1 => match asg t d s1 env with
    | some env' => Q .nx env' s1
    | none => False) (fun c fs s => Q (.ex c fs) env s) := by
  unfold setT
  rw [wps_bs]
  congr 1
  funext d s1
  cases asg t d s1 env <;> rfl
theorem wps_setI {mo mi mv : ME D} : wps (setI mo mi mv env s) Q = wp (mv env s) (fun v s1 => wp (mo env s1) (fun o s2 => wp (mi env s2) (fun i s3 => match putF o i v s3 with
    | some s4 => Q .nx env s4
    | none => False) (fun c fs s => Q (.ex c fs) env s)) (fun c fs s => Q (.ex c fs) env s)) (fun c fs s => Q (.ex c fs) env s) := by
  unfold setI
  rw [wps_bs]
  congr 1
  funext v s1
  rw [wps_bs]
  congr 1
  funext o s2
  rw [wps_bs]
  congr 1
  funext i s3
  cases putF o i v s3 <;> rfl
theorem wps_setF {c f : Str} {mo mv : ME D} : wps (setF c f mo mv env s) Q = wp (mv env s) (fun v s1 => wp (mo env s1) (fun o s2 => match setFF c f o v s2 with
    | some s3 => Q .nx env s3
    | none => False) (fun c fs s => Q (.ex c fs) env s)) (fun c fs s => Q (.ex c fs) env s) := by
  unfold setF
  rw [wps_bs]
  congr 1
  funext v s1
  rw [wps_bs]
  congr 1
  funext o s2
  cases setFF c f o v s2 <;> rfl
/-- for, over items that are known, by an invariant of how many are done -/
theorem wps_for {t : Tg} {m : ME Itm} {b : MS} (I : Nat → Env → S → Prop) {ds : List D} {gd : Option (Nat × Ob)} {s1 : S} (hm : m env s = .ok (ds, gd) s1) (h0 : I 0 env s1) (hg : ∀ i env s, i ≤ ds.length → I i env s → GdOk gd s)
    (hs : ∀ (i : Nat) (d : D) (env : Env) (s : S), ds[i]? = some d → I i env s → ∃ env1, asg t d s env = some env1 ∧ wps (b env1 s) (fun f env2 s2 => match f with
      | .nx => I (i + 1) env2 s2
      | .ct => I (i + 1) env2 s2
      | .bk => Q .nx env2 s2
      | f => Q f env2 s2)) (hd : ∀ env s, I ds.length env s → Q .nx env s) : wps (forM t m b env s) Q := by
  have key : ∀ (n i : Nat) (env : Env) (s : S), i + n = ds.length → I i env s → wps (forL t gd b (ds.drop i) env s) Q := by
    intro n
    induction n with
    | zero =>
      intro i env s hi h
      have e : i = ds.length := by omega
      subst e
      rw [List.drop_length]
      unfold forL
      rw [if_pos (hg _ _ _ (Nat.le_refl _) h)]
      exact hd env s h
    | succ n ih =>
      intro i env s hi h
      have hl : i < ds.length := by omega
      rw [List.drop_eq_getElem_cons hl]
      unfold forL
      rw [if_pos (hg _ _ _ (by omega) h)]
      obtain ⟨env1, e1, w⟩ := hs i _ env s (List.getElem?_eq_getElem hl) h
      rw [e1]
      simp only
      cases hb : b env1 s with
      | ok fe s2 =>
        obtain ⟨f, env2⟩ := fe
        rw [hb] at w
        cases f with
        | nx => exact ih (i + 1) env2 s2 (by omega) w
        | ct => exact ih (i + 1) env2 s2 (by omega) w
        | bk => exact w
        | rt d => exact w
        | ex c fs => exact w
      | exc c fs s2 => rw [hb] at w; exact w
      | bad => rw [hb] at w; exact w
  unfold forM
  rw [wps_bs, hm]
  exact key ds.length 0 env s1 (by omega) h0
/-- while, by a measure -/
theorem wps_while {c : ME Bool} {b : MS} (I : Nat → Env → S → Prop) {n : Nat} (h0 : I n env s)
    (hs : ∀ n env s, I n env s → wp (c env s) (fun k s1 => if k = true then wps (b env s1) (fun f env2 s2 => match f with
      | .nx => ∃ m, m < n ∧ I m env2 s2
      | .ct => ∃ m, m < n ∧ I m env2 s2
      | .bk => Q .nx env2 s2
      | f => Q f env2 s2) else Q .nx env s1) (fun c fs s => Q (.ex c fs) env s)) : wps (whileM c b env s) Q := by
  induction n using Nat.strongRecOn generalizing env s with
  | _ n ih =>
    have w := hs n env s h0
    rw [whileM_step]
    cases hc : c env s with
    | bad => rw [hc] at w; exact w
    | exc cl fs s1 => rw [hc] at w; exact w
    | ok k s1 =>
      rw [hc] at w
      cases k with
      | false => exact w
      | true =>
        have w : wps (b env s1) _ := w
        cases hb : b env s1 with
        | ok fe s2 =>
          obtain ⟨f, env2⟩ := fe
          rw [hb] at w
          simp only [hb]
          cases f with
          | nx => obtain ⟨m, hm, hi⟩ := w; exact ih m hm hi
          | ct => obtain ⟨m, hm, hi⟩ := w; exact ih m hm hi
          | bk => exact w
          | rt d => exact w
          | ex c fs => exact w
        | exc c fs s2 => rw [hb] at w; exact w.elim
        | bad => rw [hb] at w; exact w.elim
end
/-! ### calls -/
/-- nothing points outward -/
structure S.Wf (s : S) : Prop where
  out : ∀ a, s.next ≤ a → s.heap a = none
  inn : ∀ a o, s.heap a = some o → obBelow s.next o
theorem S.cut_of {s s' : S} (w : s.Wf) (h : ∀ a, a < s.next → s'.heap a = s.heap a) : s'.cut s.next = s := by
  obtain ⟨n, hp⟩ := s
  unfold S.cut
  congr 1
  funext a
  by_cases ha : a < n
  · rw [if_pos ha]; exact h a ha
  · rw [if_neg ha]; exact (w.out a (Nat.le_of_not_lt ha)).symm
/-- a call that changes nothing old -/
theorem gc_pure {s s' : S} {ds : List D} (w : s.Wf) (h : ∀ a, a < s.next → s'.heap a = s.heap a) (hb : belowL s.next ds) : gcS s.next ds s' = s := by
  unfold gcS
  rw [if_pos ⟨hb, fun a o ha e => w.inn a o (by rw [← h a ha]; exact e)⟩]
  exact S.cut_of w h
theorem gc_wf {s' : S} {n : Nat} {ds : List D} (hn : s'.next = n) (w : s'.Wf) : gcS n ds s' = s' := by
  subst hn
  unfold gcS
  split
  · exact S.cut_of w fun _ _ => rfl
  · rfl
/-- a call's end, by its body's -/
theorem wp_callB {n N : Nat} {b : MS} {ds : List D} {s : S} {Q : D → S → Prop} {E : XP} (hl : ds.length = n) (h : wps (b (ds.map some ++ List.replicate (N - ds.length) none) s) (fun f _ s' => match f with
    | .nx => Q .non (gcS s.next [.non] s')
    | .rt d => Q d (gcS s.next [d] s')
    | .ex c fs => E c fs (gcS s.next (fs.map (·.2)) s')
    | _ => False)) : wp (callB n N b ds s) Q E := by
  unfold callB
  rw [if_pos hl]
  cases hb : b (ds.map some ++ List.replicate (N - ds.length) none) s with
  | ok fe s2 =>
    obtain ⟨f, env2⟩ := fe
    rw [hb] at h
    cases f <;> exact h
  | exc c fs s2 => rw [hb] at h; exact h
  | bad => rw [hb] at h; exact h
end Co
namespace Co
open PySem L2
section
variable {Q : D → S → Prop} {QB : Bool → S → Prop} {E : XP} {env : Env} {s : S}
theorem wp_v {i : Nat} : wp (varM i env s) Q E = (match env[i]? with
    | some (some d) => Q d s
    | _ => False) := by
  unfold varM
  cases env[i]? with
  | none => rfl
  | some o => cases o <;> rfl
theorem wp_lck {α : Type} {mi : ME D} {m : ME α} {Q : α → S → Prop} : wp (lockM mi m env s) Q E = (match lkAt (mi env s) s with
    | some (a, lb) => wp (m env (s.upd a lb)) (fun x s' => match s'.heap a with
      | some lb => match ulOb lb with
        | some ub => Q x (s'.upd a ub)
        | none => False
      | none => False) E
    | none => wp (m env s) Q E) := by
  unfold lockM
  cases lkAt (mi env s) s with
  | none => rfl
  | some q =>
    obtain ⟨a, lb⟩ := q
    simp only
    cases m env (s.upd a lb) with
    | ok x s' =>
      unfold unlkE
      simp only [wp_ok]
      cases s'.heap a with
      | none => rfl
      | some lb =>
        simp only
        cases ulOb lb <;> rfl
    | exc c fs s' => rfl
    | bad => rfl
theorem wp_meth {c n : Str} {m : List D → S → R D} {mo : ME D} {mes : ME (List D)} : wp (methN c n m mo mes env s) Q E = wp (mo env s) (fun x s1 => match recvD c n x s1 with
    | some a => wp (mes env s1) (fun ds s2 => wp (m (.ref a :: ds) s2) Q E) E
    | none => False) E := by
  unfold methN
  rw [wp_bd]
  congr 1
  funext x s1
  cases recvD c n x s1 with
  | none => rfl
  | some a => simp only [wp_bd]
theorem wp_mk {c : Str} {m : List D → S → R D} {mes : ME (List D)} : wp (mkM c m mes env s) Q E = wp (mes env s) (fun ds s1 => wp (m (.ref s1.next :: ds) (s1.alloc (.ins c []))) (fun r s2 => match r with
    | .non => Q (.ref s1.next) s2
    | _ => False) E) E := by
  unfold mkM
  rw [wp_bd]
  congr 1
  funext ds s1
  rw [wp_bd]
  congr 1
  funext r s2
  cases r <;> rfl
theorem wp_pop {mo mk : ME D} : wp (popM mo mk env s) Q E = wp (mo env s) (fun x s1 => if isLst x s1 = true then wp (mk env s1) (fun d s2 => wp (pop1F x [d] s2) Q E) E else if isDic x s1 = true then wp (mk env s1) (fun y s2 => wp (dpopF x y s2) Q E) E else False) E := by
  unfold popM
  rw [wp_bd]
  congr 1
  funext x s1
  by_cases h : isLst x s1 = true
  · simp only [if_pos h, wp_bd, wp_cons, wp_nil]
  · simp only [if_neg h, wp_ite, wp_bd]
    rfl
theorem wp_get2 {mo mk mx : ME D} : wp (get2M mo mk mx env s) Q E = wp (mo env s) (fun x s1 => if isDic x s1 = true then wp (mk env s1) (fun y s2 => wp (mx env s2) (fun z s3 => match dget x y s3 with
    | some o => Q (o.getD z) s3
    | none => False) E) E else False) E := by
  unfold get2M
  rw [wp_bd]
  congr 1
  funext x s1
  rw [wp_ite, wp_bd]
  congr 2
  funext y s2
  rw [wp_bd]
  congr 1
  funext z s3
  cases dget x y s3 <;> rfl
end
theorem wps_lks {mi : ME D} {m : MS} {env : Env} {s : S} {Q : QS} : wps (lockS mi m env s) Q = (match lkAt (mi env s) s with
    | some (a, lb) => wps (m env (s.upd a lb)) (fun f e s' => match f with
      | .ex c fs => Q (.ex c fs) e s'
      | f => match s'.heap a with
        | some lb => match ulOb lb with
          | some ub => Q f e (s'.upd a ub)
          | none => False
        | none => False)
    | none => wps (m env s) Q) := by
  unfold lockS
  cases lkAt (mi env s) s with
  | none => rfl
  | some q =>
    obtain ⟨a, lb⟩ := q
    simp only
    cases m env (s.upd a lb) with
    | ok fe s' =>
      obtain ⟨f, e⟩ := fe
      cases f with
      | ex c fs => rfl
      | _ =>
        unfold unlkS
        simp only [wps_ok]
        cases s'.heap a with
        | none => rfl
        | some lb =>
          simp only
          cases ulOb lb <;> rfl
    | exc c fs s' => rfl
    | bad => rfl
/-! ### a list comprehension that only reads -/
theorem lcL_pure {t : Tg} {gd : Option (Nat × Ob)} {own : List Nat} {tst : ME Bool} {elt : ME D} {env : Env} {s : S} (f : D → Option D) (hg : GdOk gd s) :
    ∀ (ds acc : List D), (∀ d ∈ ds, ∃ env1, asg t d s (wipeE env own) = some env1 ∧ (match f d with
      | none => tst env1 s = .ok false s
      | some y => tst env1 s = .ok true s ∧ elt env1 s = .ok y s)) → acc.length + ds.length ≤ LINE → lcL t gd own tst elt env ds acc s = .ok (acc ++ ds.filterMap f) s
  | [], acc, _, _ => by
    unfold lcL
    rw [if_pos hg]
    simp
  | d :: ds, acc, h, hl => by
    obtain ⟨env1, h1, h2⟩ := h d List.mem_cons_self
    rw [List.length_cons] at hl
    unfold lcL
    rw [if_pos hg, h1]
    simp only
    cases hf : f d with
    | none =>
      rw [hf] at h2
      rw [h2]
      simp only [nox, bd_ok, Bool.false_eq_true, if_false]
      rw [lcL_pure f hg ds acc (fun d hd => h d (List.mem_cons_of_mem _ hd)) (by omega), List.filterMap_cons, hf]
    | some y =>
      rw [hf] at h2
      obtain ⟨h3, h4⟩ := h2
      rw [h3]
      simp only [nox, bd_ok, if_true]
      rw [h4]
      simp only [bd_ok]
      rw [if_pos (by omega), lcL_pure f hg ds (acc ++ [y]) (fun d hd => h d (List.mem_cons_of_mem _ hd)) (by rw [List.length_append, List.length_singleton]; omega), List.filterMap_cons, hf]
      simp
theorem wp_lc {m : Bool} {t : Tg} {it : ME Itm} {own : List Nat} {tst : ME Bool} {elt : ME D} {env : Env} {s s1 : S} {ds : List D} {gd : Option (Nat × Ob)} {Q : D → S → Prop} {E : XP} (hi : it env s = .ok (ds, gd) s1) (f : D → Option D) (hg : GdOk gd s1)
    (h : ∀ d ∈ ds, ∃ env1, asg t d s1 (wipeE env own) = some env1 ∧ (match f d with
      | none => tst env1 s1 = .ok false s1
      | some y => tst env1 s1 = .ok true s1 ∧ elt env1 s1 = .ok y s1)) (hl : ds.length ≤ LINE) (hQ : wp (mkL m (ds.filterMap f) s1) Q E) : wp (lcM m t it own tst elt env s) Q E := by
  unfold lcM
  rw [hi, bd_ok, lcL_pure f hg ds [] h (by simpa using hl)]
  rw [List.nil_append, bd_ok]
  exact hQ
/-! ### the operations at values -/
section
variable {s : S} {i j : Int} {a b : Str}
theorem f_add {m : Bool} : addF m (.int i) (.int j) s = .ok (.int (i + j)) s := rfl
theorem f_sub : subF (.int i) (.int j) s = .ok (.int (i - j)) s := by unfold subF intF; exact if_pos trivial
theorem f_mul : mulF (.int i) (.int j) s = if CMul i j then .ok (.int (i * j)) s else .bad := rfl
theorem f_mod : modF (.int i) (.int j) s = if 0 < j then .ok (.int (i % j)) s else .bad := rfl
theorem f_fdiv : fdivF (.int i) (.int j) s = if CDiv i j then .ok (.int (i / j)) s else .bad := rfl
theorem f_pow : powF (.int i) (.int j) s = if CPow i j then .ok (.int (i ^ j.toNat)) s else .bad := rfl
theorem f_lt : ltF (.int i) (.int j) s = .ok (.bl (decide (i < j))) s := by unfold ltF intF; exact if_pos trivial
theorem f_le : leF (.int i) (.int j) s = .ok (.bl (decide (i ≤ j))) s := by unfold leF intF; exact if_pos trivial
theorem f_gt : gtF (.int i) (.int j) s = .ok (.bl (decide (j < i))) s := by unfold gtF intF; exact if_pos trivial
theorem f_ge : geF (.int i) (.int j) s = .ok (.bl (decide (j ≤ i))) s := by unfold geF intF; exact if_pos trivial
theorem f_eqi {n : Bool} : eqF n (.int i) (.int j) s = .ok (.bl (if n then !decide (i = j) else decide (i = j))) s := rfl
theorem f_eqs {n : Bool} : eqF n (.str a) (.str b) s = .ok (.bl (if n then !decide (a = b) else decide (a = b))) s := rfl
theorem f_int : intB [.int i] s = .ok (.int i) s := rfl
theorem f_neg : negF (.int i) s = .ok (.int (-i)) s := rfl
theorem upd_heap {a b : Nat} {o : Ob} : (s.upd a o).heap b = if b = a then some o else s.heap b := rfl
theorem upd_next {a : Nat} {o : Ob} : (s.upd a o).next = s.next := rfl
theorem all_heap {b : Nat} {o : Ob} : (s.alloc o).heap b = if b = s.next then some o else s.heap b := rfl
theorem all_next {o : Ob} : (s.alloc o).next = s.next + 1 := rfl
theorem f_rng1 (h : -(2 ^ 62) ≤ i ∧ i < 2 ^ 62) : rngF1 (.int i) s = .ok (rngD 0 i.toNat, none) s := by
  unfold rngF1
  first | exact if_pos h | (simp only [Int.sub_zero]; exact if_pos h) | simp [h]
theorem f_rng2 (h : -(2 ^ 62) ≤ i ∧ i < 2 ^ 62 ∧ -(2 ^ 62) ≤ j ∧ j < 2 ^ 62) : rngF2 (.int i) (.int j) s = .ok (rngD i (j - i).toNat, none) s := by
  unfold rngF2
  exact if_pos h
theorem rngD_at {lo : Int} {n k : Nat} (h : k < n) : (rngD lo n)[k]? = some (.int (lo + k)) := by
  unfold rngD
  rw [List.getElem?_map, List.getElem?_range h]
  rfl
theorem rngD_len {lo : Int} {n : Nat} : (rngD lo n).length = n := by unfold rngD; simp
theorem rngD_is {lo : Int} {n k : Nat} {d : D} (h : (rngD lo n)[k]? = some d) : k < n ∧ d = .int (lo + k) := by
  have hk : k < n := by
    have := (List.getElem?_eq_some_iff.mp h).1
    rwa [rngD_len] at this
  rw [rngD_at hk] at h
  cases h
  exact ⟨hk, rfl⟩
end
/-! ### states that are well formed -/
theorem S.Wf.upd {s : S} (w : s.Wf) {a : Nat} {o : Ob} (ha : a < s.next) (ho : obBelow s.next o) : (s.upd a o).Wf := by
  refine ⟨fun b hb => ?_, fun b p e => ?_⟩
  · rw [upd_heap, if_neg (by have : s.next ≤ b := hb; omega)]
    exact w.out b hb
  · rw [upd_heap] at e
    split at e
    · cases e; exact ho
    · exact w.inn b p e
mutual
theorem below.mono {n m : Nat} (h : n ≤ m) : ∀ (d : D), below n d → below m d
  | .ref a, b => Nat.lt_of_lt_of_le b h
  | .tup ds, b => belowL.mono h ds b
  | .ct ds, b => belowL.mono h ds b
  | .lv ds, b => belowL.mono h ds b
  | .sc ds, b => belowL.mono h ds b
  | .dv _ ds, b => belowL.mono h ds b
  | .non, _ => trivial
  | .bl _, _ => trivial
  | .int _, _ => trivial
  | .str _, _ => trivial
theorem belowL.mono {n m : Nat} (h : n ≤ m) : ∀ (ds : List D), belowL n ds → belowL m ds
  | [], _ => trivial
  | d :: ds, b => ⟨below.mono h d b.1, belowL.mono h ds b.2⟩
end
theorem obBelow.mono {n m : Nat} (h : n ≤ m) : ∀ {o : Ob}, obBelow n o → obBelow m o
  | .lst _, b => belowL.mono h _ b
  | .dK _, b => belowL.mono h _ b
  | .dT _, b => belowL.mono h _ b
  | .lk _, b => belowL.mono h _ b
  | .lkT _, b => belowL.mono h _ b
  | .ins _ _, b => belowL.mono h _ b
theorem S.Wf.lt {s : S} (w : s.Wf) {a : Nat} {o : Ob} (e : s.heap a = some o) : a < s.next := by
  by_cases h : a < s.next
  · exact h
  · rw [w.out a (Nat.le_of_not_lt h)] at e; cases e
theorem S.Wf.alloc {s : S} (w : s.Wf) {o : Ob} (ho : obBelow (s.next + 1) o) : (s.alloc o).Wf := by
  refine ⟨fun b hb => ?_, fun b p e => ?_⟩
  · have hb' : s.next + 1 ≤ b := hb
    rw [all_heap, if_neg (by omega)]
    exact w.out b (by omega)
  · rw [all_heap] at e
    split at e
    · cases e; exact ho
    · exact (w.inn b p e).mono (Nat.le_succ _)
theorem wf0 : S0.Wf := ⟨fun _ _ => rfl, fun _ _ e => by cases e⟩
theorem belowL_of {n : Nat} : ∀ {ds : List D}, (∀ d ∈ ds, below n d) → belowL n ds
  | [], _ => trivial
  | d :: ds, h => ⟨h d List.mem_cons_self, belowL_of fun x hx => h x (List.mem_cons_of_mem _ hx)⟩
end Co
namespace Co
open PySem L2
/-! ### the draws, that all laws share -/
def cellC : C := (.seq
 (.ifs (.tcmp .lt (.var 1) (.blt .len false (.cons (.var 0) .nil))) (.seq
 (.ret (.ix (.var 0) (.var 1)))
 .skip) .skip)
 (.seq
 (.ret (.int 0))
 .skip))
def drawC : C := (.seq
 (.set 2 (.ix (.var 0) (.int 1)))
 (.seq
 (.setI (.var 0) (.int 1) (.bin .add false (.var 2) (.int 1)))
 (.seq
 (.ifs (.tcmp .lt (.var 2) (.blt .len false (.cons (.ix (.var 0) (.int 0)) .nil))) (.seq
 (.ret (.bin .mod false (.blt .int false (.cons (.ix (.ix (.var 0) (.int 0)) (.var 2)) .nil)) (.var 1)))
 .skip) .skip)
 (.seq
 (.ret (.bin .mod false (.blt .int false (.cons (.bin .add false (.bin .mul false (.var 2) (.int 7)) (.int 3)) .nil)) (.var 1)))
 .skip))))
def digC2 : C := (.seq
 (.ifs (.tcmp .gt (.var 5) (.int 0)) (.seq
 (.ex (.mt .app (.var 3) (.cons (.bin .mod false (.blt .int false (.cons (.var 5) .nil)) (.int 1000)) .nil)))
 (.seq
 (.set 5 (.bin .fdiv false (.var 5) (.int 1000)))
 .skip)) .skip)
 .skip)
def digC3 : C := (.seq
 (.set 7 (.bin .mod false (.blt .int false (.cons (.bin .add false (.bin .add false (.bin .mul false (.var 7) (.int 16807)) (.bin .mul false (.int 7) (.var 6))) (.int 1)) .nil)) (.int 2147483647)))
 (.seq
 (.ex (.mt .app (.var 3) (.cons (.bin .mod false (.blt .int false (.cons (.bin .fdiv false (.var 7) (.int 997)) .nil)) (.int 1000)) .nil)))
 .skip))
def digC1 (j : Nat) : C := (.seq
 (.set 5 (.call j (.cons (.var 0) (.cons (.var 4) .nil))))
 (.seq
 (.ifs (.tcmp .lt (.var 5) (.int 0)) (.seq
 (.set 5 (.bin .sub false (.int 1) (.bin .mul false (.int 2) (.var 5))))
 .skip) .skip)
 (.seq
 (.ifs (.tcmp .ge (.var 5) (.bin .pow false (.int 10) (.int 18))) (.seq
 (.fors (.name 6) (.rng1 (.int 60)) digC2)
 .skip) (.seq
 (.set 7 (.bin .mod false (.blt .int false (.cons (.bin .add false (.bin .add false (.bin .mul false (.var 5) (.int 48271)) (.bin .mul false (.var 4) (.int 69621))) (.int 11)) .nil)) (.int 2147483647)))
 (.seq
 (.fors (.name 6) (.rng1 (.int 12)) digC3)
 .skip)))
 .skip)))
def digC (j : Nat) : C := (.seq
 (.set 3 (.lst true .nil))
 (.seq
 (.fors (.name 4) (.rng2 (.var 1) (.var 2)) (digC1 j))
 (.seq
 (.ret (.frz (.var 3)))
 .skip)))

section
variable {F : Nat → List D → S → R D} {G : Nat → D}
theorem atI_nat {α : Type} {xs : List α} {k : Int} (h0 : 0 ≤ k) : atI xs k = xs[k.toNat]? := by
  unfold atI ixN
  rw [if_pos h0]
  by_cases h : k < xs.length
  · rw [if_pos h]; rfl
  · rw [if_neg h, List.getElem?_eq_none (by omega)]; rfl
theorem alloc_upd {s : S} {o o' : Ob} : (s.alloc o).upd s.next o' = s.alloc o' := by
  unfold S.alloc S.upd
  congr 1
  funext b
  unfold updA
  by_cases h : b = s.next
  · rw [if_pos h, if_pos h]
  · rw [if_neg h, if_neg h]
    exact if_neg h
theorem below_ints (n : Nat) (ns : List Int) : belowL n (ns.map D.int) := belowL_of fun d hd => by
  obtain ⟨i, _, rfl⟩ := List.mem_map.mp hd
  trivial
theorem app_at {s : S} {o : List D} {d : D} (h : o.length < LINE) : appF (.ref s.next) [d] (s.alloc (.lst o)) = .ok .non (s.alloc (.lst (o ++ [d]))) := by
  have e : (s.alloc (.lst o)).heap s.next = some (.lst o) := if_pos rfl
  simp [appF, hlOf, e, h, alloc_upd]
theorem isLst_at {s : S} {o : List D} : isLst (.ref s.next) (s.alloc (.lst o)) = true := by
  have e : (s.alloc (.lst o)).heap s.next = some (.lst o) := if_pos rfl
  simp [isLst, lstOf, e]
theorem line_is : LINE = 16777216 := by unfold LINE; rw [sizeLine_eq]
theorem c18 : CPow 10 18 := ⟨by decide, by decide, by decide⟩
theorem cd1000 (i : Int) : CDiv i 1000 := ⟨by decide, by decide⟩
theorem cd997 (i : Int) : CDiv i 997 := ⟨by decide, by decide⟩
theorem cell_gen (ns : List Int) (k : Int) (s : S) (w : s.Wf) (h0 : 0 ≤ k) {Q : D → S → Prop} {E : XP} (hQ : Q (.int (ns.getD k.toNat 0)) s) : wp (callB 2 2 (ev F G cellC).s [.sc (ns.map .int), .int k] s) Q E := by
  refine wp_callB rfl ?_
  simp only [cellC, ev, wps_seq, wps_if, wps_ret, wps_nx, wps_fl, wps_expr, wps_set, wps_setT, wps_setI, wps_setF, wps_lks, wp_bool, wp_tru, wp_notM, wp_andM, wp_orM, wp_ifM, wp_op2, wp_op1, wp_arg, wp_cons, wp_nil, wp_lit, wp_mth, wp_meth, wp_mk, wp_pop, wp_get2, wp_lck, wp_v, wp_ok, wps_ok, List.map_cons, List.map_nil, List.length_cons, List.length_nil, Nat.zero_add, Nat.reduceAdd, Nat.reduceSub, List.replicate_zero, List.replicate_succ, List.cons_append, List.nil_append, List.append_nil, List.getElem?_cons_zero, List.getElem?_cons_succ, List.set_cons_zero, List.set_cons_succ, blF, mtF, opF, cmF, f_add, f_sub, f_mul, f_mod, f_fdiv, f_pow, f_lt, f_le, f_gt, f_ge, f_eqi, f_eqs, f_int, f_neg, upd_heap, upd_next, all_heap, all_next, Bool.false_eq_true, if_true, if_false, decide_eq_true_eq, Nat.sub_self]
  have hl : lenF [.sc (ns.map D.int)] s = .ok (.int ns.length) s := by simp [lenF, lenD, seqOf, lstOf]
  rw [hl]
  simp only [ev, wps_seq, wps_if, wps_ret, wps_nx, wps_fl, wps_expr, wps_set, wps_setT, wps_setI, wps_setF, wps_lks, wp_bool, wp_tru, wp_notM, wp_andM, wp_orM, wp_ifM, wp_op2, wp_op1, wp_arg, wp_cons, wp_nil, wp_lit, wp_mth, wp_meth, wp_mk, wp_pop, wp_get2, wp_lck, wp_v, wp_ok, wps_ok, List.map_cons, List.map_nil, List.length_cons, List.length_nil, Nat.zero_add, Nat.reduceAdd, Nat.reduceSub, List.replicate_zero, List.replicate_succ, List.cons_append, List.nil_append, List.append_nil, List.getElem?_cons_zero, List.getElem?_cons_succ, List.set_cons_zero, List.set_cons_succ, blF, mtF, opF, cmF, f_add, f_sub, f_mul, f_mod, f_fdiv, f_pow, f_lt, f_le, f_gt, f_ge, f_eqi, f_eqs, f_int, f_neg, upd_heap, upd_next, all_heap, all_next, Bool.false_eq_true, if_true, if_false, decide_eq_true_eq, Nat.sub_self]
  by_cases h : k < ns.length
  · have hi : ixF (.sc (ns.map D.int)) (.int k) s = .ok (.int (ns.getD k.toNat 0)) s := by
      simp [ixF, seqOf, lstOf, atI_nat h0, List.getD]
      rw [List.getElem?_eq_getElem (by omega)]
      rfl
    simp only [h, hi, ev, wps_seq, wps_if, wps_ret, wps_nx, wps_fl, wps_expr, wps_set, wps_setT, wps_setI, wps_setF, wps_lks, wp_bool, wp_tru, wp_notM, wp_andM, wp_orM, wp_ifM, wp_op2, wp_op1, wp_arg, wp_cons, wp_nil, wp_lit, wp_mth, wp_meth, wp_mk, wp_pop, wp_get2, wp_lck, wp_v, wp_ok, wps_ok, List.map_cons, List.map_nil, List.length_cons, List.length_nil, Nat.zero_add, Nat.reduceAdd, Nat.reduceSub, List.replicate_zero, List.replicate_succ, List.cons_append, List.nil_append, List.append_nil, List.getElem?_cons_zero, List.getElem?_cons_succ, List.set_cons_zero, List.set_cons_succ, blF, mtF, opF, cmF, f_add, f_sub, f_mul, f_mod, f_fdiv, f_pow, f_lt, f_le, f_gt, f_ge, f_eqi, f_eqs, f_int, f_neg, upd_heap, upd_next, all_heap, all_next, Bool.false_eq_true, if_true, if_false, decide_eq_true_eq, Nat.sub_self]
    rw [gc_pure w (fun _ _ => rfl) (belowL_of (by simp [below]))]
    exact hQ
  · simp only [h, ev, wps_seq, wps_if, wps_ret, wps_nx, wps_fl, wps_expr, wps_set, wps_setT, wps_setI, wps_setF, wps_lks, wp_bool, wp_tru, wp_notM, wp_andM, wp_orM, wp_ifM, wp_op2, wp_op1, wp_arg, wp_cons, wp_nil, wp_lit, wp_mth, wp_meth, wp_mk, wp_pop, wp_get2, wp_lck, wp_v, wp_ok, wps_ok, List.map_cons, List.map_nil, List.length_cons, List.length_nil, Nat.zero_add, Nat.reduceAdd, Nat.reduceSub, List.replicate_zero, List.replicate_succ, List.cons_append, List.nil_append, List.append_nil, List.getElem?_cons_zero, List.getElem?_cons_succ, List.set_cons_zero, List.set_cons_succ, blF, mtF, opF, cmF, f_add, f_sub, f_mul, f_mod, f_fdiv, f_pow, f_lt, f_le, f_gt, f_ge, f_eqi, f_eqs, f_int, f_neg, upd_heap, upd_next, all_heap, all_next, Bool.false_eq_true, if_true, if_false, decide_eq_true_eq, Nat.sub_self]
    rw [gc_pure w (fun _ _ => rfl) (belowL_of (by simp [below]))]
    have e : ns.getD k.toNat 0 = 0 := by
      rw [List.getD, List.getElem?_eq_none (by omega)]; rfl
    rw [e] at hQ
    exact hQ
/-- a box of digits -/
def Box (s : S) (a : Nat) : Prop := ∃ (ns : List Int) (k : Int), s.heap a = some (.lst [.lv (ns.map .int), .int k]) ∧ 0 ≤ k
/-- behind a draw from the box at a -/
structure After (s : S) (a : Nat) (t : S) : Prop where
  next : t.next = s.next
  wf : t.Wf
  box : Box t a
  same : ∀ b, b ≠ a → t.heap b = s.heap b
theorem draw_gen {s : S} {a : Nat} (w : s.Wf) (hb : Box s a) (m : Int) (hm : 0 < m) {Q : D → S → Prop} {E : XP}
    (hQ : ∀ (v : Int) (t : S), 0 ≤ v → v < m → After s a t → Q (.int v) t) : wp (callB 2 3 (ev F G drawC).s [.ref a, .int m] s) Q E := by
  obtain ⟨ns, k, ha, hk⟩ := hb
  refine wp_callB rfl ?_
  simp only [drawC, ev, wps_seq, wps_if, wps_ret, wps_nx, wps_fl, wps_expr, wps_set, wps_setT, wps_setI, wps_setF, wps_lks, wp_bool, wp_tru, wp_notM, wp_andM, wp_orM, wp_ifM, wp_op2, wp_op1, wp_arg, wp_cons, wp_nil, wp_lit, wp_mth, wp_meth, wp_mk, wp_pop, wp_get2, wp_lck, wp_v, wp_ok, wps_ok, List.map_cons, List.map_nil, List.length_cons, List.length_nil, Nat.zero_add, Nat.reduceAdd, Nat.reduceSub, List.replicate_zero, List.replicate_succ, List.cons_append, List.nil_append, List.append_nil, List.getElem?_cons_zero, List.getElem?_cons_succ, List.set_cons_zero, List.set_cons_succ, blF, mtF, opF, cmF, f_add, f_sub, f_mul, f_mod, f_fdiv, f_pow, f_lt, f_le, f_gt, f_ge, f_eqi, f_eqs, f_int, f_neg, upd_heap, upd_next, all_heap, all_next, Bool.false_eq_true, if_true, if_false, decide_eq_true_eq, Nat.sub_self]
  have h1 : ixF (.ref a) (.int 1) s = .ok (.int k) s := by simp [ixF, seqOf, lstOf, ha, atI, ixN]
  rw [h1]
  simp only [ev, wps_seq, wps_if, wps_ret, wps_nx, wps_fl, wps_expr, wps_set, wps_setT, wps_setI, wps_setF, wps_lks, wp_bool, wp_tru, wp_notM, wp_andM, wp_orM, wp_ifM, wp_op2, wp_op1, wp_arg, wp_cons, wp_nil, wp_lit, wp_mth, wp_meth, wp_mk, wp_pop, wp_get2, wp_lck, wp_v, wp_ok, wps_ok, List.map_cons, List.map_nil, List.length_cons, List.length_nil, Nat.zero_add, Nat.reduceAdd, Nat.reduceSub, List.replicate_zero, List.replicate_succ, List.cons_append, List.nil_append, List.append_nil, List.getElem?_cons_zero, List.getElem?_cons_succ, List.set_cons_zero, List.set_cons_succ, blF, mtF, opF, cmF, f_add, f_sub, f_mul, f_mod, f_fdiv, f_pow, f_lt, f_le, f_gt, f_ge, f_eqi, f_eqs, f_int, f_neg, upd_heap, upd_next, all_heap, all_next, Bool.false_eq_true, if_true, if_false, decide_eq_true_eq, Nat.sub_self]
  have h2 : Co.putF (.ref a) (.int 1) (.int (k + 1)) s = some (s.upd a (.lst [.lv (ns.map .int), .int (k + 1)])) := by simp [Co.putF, ha, intOf, ixN]
  simp only [h2, ev, wps_seq, wps_if, wps_ret, wps_nx, wps_fl, wps_expr, wps_set, wps_setT, wps_setI, wps_setF, wps_lks, wp_bool, wp_tru, wp_notM, wp_andM, wp_orM, wp_ifM, wp_op2, wp_op1, wp_arg, wp_cons, wp_nil, wp_lit, wp_mth, wp_meth, wp_mk, wp_pop, wp_get2, wp_lck, wp_v, wp_ok, wps_ok, List.map_cons, List.map_nil, List.length_cons, List.length_nil, Nat.zero_add, Nat.reduceAdd, Nat.reduceSub, List.replicate_zero, List.replicate_succ, List.cons_append, List.nil_append, List.append_nil, List.getElem?_cons_zero, List.getElem?_cons_succ, List.set_cons_zero, List.set_cons_succ, blF, mtF, opF, cmF, f_add, f_sub, f_mul, f_mod, f_fdiv, f_pow, f_lt, f_le, f_gt, f_ge, f_eqi, f_eqs, f_int, f_neg, upd_heap, upd_next, all_heap, all_next, Bool.false_eq_true, if_true, if_false, decide_eq_true_eq, Nat.sub_self]
  generalize hs' : s.upd a (.lst [.lv (ns.map .int), .int (k + 1)]) = s'
  have ha' : s'.heap a = some (.lst [.lv (ns.map .int), .int (k + 1)]) := by rw [← hs', upd_heap, if_pos rfl]
  have hn : s'.next = s.next := by rw [← hs']; rfl
  have w' : s'.Wf := by
    rw [← hs']
    exact w.upd (w.lt ha) ⟨below_ints _ ns, trivial, trivial⟩
  have A' : After s a s' := ⟨hn, w', ⟨ns, k + 1, ha', by omega⟩, fun b hb => by rw [← hs', upd_heap, if_neg hb]⟩
  have gc : ∀ d, gcS s.next d s' = s' := fun d => gc_wf hn w'
  have h3 : ixF (.ref a) (.int 0) s' = .ok (.lv (ns.map .int)) s' := by simp [ixF, seqOf, lstOf, ha', atI, ixN]
  rw [h3]
  simp only [ev, wps_seq, wps_if, wps_ret, wps_nx, wps_fl, wps_expr, wps_set, wps_setT, wps_setI, wps_setF, wps_lks, wp_bool, wp_tru, wp_notM, wp_andM, wp_orM, wp_ifM, wp_op2, wp_op1, wp_arg, wp_cons, wp_nil, wp_lit, wp_mth, wp_meth, wp_mk, wp_pop, wp_get2, wp_lck, wp_v, wp_ok, wps_ok, List.map_cons, List.map_nil, List.length_cons, List.length_nil, Nat.zero_add, Nat.reduceAdd, Nat.reduceSub, List.replicate_zero, List.replicate_succ, List.cons_append, List.nil_append, List.append_nil, List.getElem?_cons_zero, List.getElem?_cons_succ, List.set_cons_zero, List.set_cons_succ, blF, mtF, opF, cmF, f_add, f_sub, f_mul, f_mod, f_fdiv, f_pow, f_lt, f_le, f_gt, f_ge, f_eqi, f_eqs, f_int, f_neg, upd_heap, upd_next, all_heap, all_next, Bool.false_eq_true, if_true, if_false, decide_eq_true_eq, Nat.sub_self]
  have hl : lenF [.lv (ns.map D.int)] s' = .ok (.int ns.length) s' := by simp [lenF, lenD, seqOf, lstOf]
  rw [hl]
  simp only [ev, wps_seq, wps_if, wps_ret, wps_nx, wps_fl, wps_expr, wps_set, wps_setT, wps_setI, wps_setF, wps_lks, wp_bool, wp_tru, wp_notM, wp_andM, wp_orM, wp_ifM, wp_op2, wp_op1, wp_arg, wp_cons, wp_nil, wp_lit, wp_mth, wp_meth, wp_mk, wp_pop, wp_get2, wp_lck, wp_v, wp_ok, wps_ok, List.map_cons, List.map_nil, List.length_cons, List.length_nil, Nat.zero_add, Nat.reduceAdd, Nat.reduceSub, List.replicate_zero, List.replicate_succ, List.cons_append, List.nil_append, List.append_nil, List.getElem?_cons_zero, List.getElem?_cons_succ, List.set_cons_zero, List.set_cons_succ, blF, mtF, opF, cmF, f_add, f_sub, f_mul, f_mod, f_fdiv, f_pow, f_lt, f_le, f_gt, f_ge, f_eqi, f_eqs, f_int, f_neg, upd_heap, upd_next, all_heap, all_next, Bool.false_eq_true, if_true, if_false, decide_eq_true_eq, Nat.sub_self]
  by_cases h : k < ns.length
  · have h4 : ixF (.lv (ns.map D.int)) (.int k) s' = .ok (.int (ns.getD k.toNat 0)) s' := by
      simp [ixF, seqOf, lstOf, atI_nat hk, List.getD]
      rw [List.getElem?_eq_getElem (by omega)]
      rfl
    simp only [h, h3, h4, hm, gc, ev, wps_seq, wps_if, wps_ret, wps_nx, wps_fl, wps_expr, wps_set, wps_setT, wps_setI, wps_setF, wps_lks, wp_bool, wp_tru, wp_notM, wp_andM, wp_orM, wp_ifM, wp_op2, wp_op1, wp_arg, wp_cons, wp_nil, wp_lit, wp_mth, wp_meth, wp_mk, wp_pop, wp_get2, wp_lck, wp_v, wp_ok, wps_ok, List.map_cons, List.map_nil, List.length_cons, List.length_nil, Nat.zero_add, Nat.reduceAdd, Nat.reduceSub, List.replicate_zero, List.replicate_succ, List.cons_append, List.nil_append, List.append_nil, List.getElem?_cons_zero, List.getElem?_cons_succ, List.set_cons_zero, List.set_cons_succ, blF, mtF, opF, cmF, f_add, f_sub, f_mul, f_mod, f_fdiv, f_pow, f_lt, f_le, f_gt, f_ge, f_eqi, f_eqs, f_int, f_neg, upd_heap, upd_next, all_heap, all_next, Bool.false_eq_true, if_true, if_false, decide_eq_true_eq, Nat.sub_self]
    exact hQ _ _ (Int.emod_nonneg _ (by omega)) (Int.emod_lt_of_pos _ hm) A'
  · have c1 : CMul k 7 := .inr ⟨by decide, by decide⟩
    simp only [h, hm, c1, gc, ev, wps_seq, wps_if, wps_ret, wps_nx, wps_fl, wps_expr, wps_set, wps_setT, wps_setI, wps_setF, wps_lks, wp_bool, wp_tru, wp_notM, wp_andM, wp_orM, wp_ifM, wp_op2, wp_op1, wp_arg, wp_cons, wp_nil, wp_lit, wp_mth, wp_meth, wp_mk, wp_pop, wp_get2, wp_lck, wp_v, wp_ok, wps_ok, List.map_cons, List.map_nil, List.length_cons, List.length_nil, Nat.zero_add, Nat.reduceAdd, Nat.reduceSub, List.replicate_zero, List.replicate_succ, List.cons_append, List.nil_append, List.append_nil, List.getElem?_cons_zero, List.getElem?_cons_succ, List.set_cons_zero, List.set_cons_succ, blF, mtF, opF, cmF, f_add, f_sub, f_mul, f_mod, f_fdiv, f_pow, f_lt, f_le, f_gt, f_ge, f_eqi, f_eqs, f_int, f_neg, upd_heap, upd_next, all_heap, all_next, Bool.false_eq_true, if_true, if_false, decide_eq_true_eq, Nat.sub_self]
    exact hQ _ _ (Int.emod_nonneg _ (by omega)) (Int.emod_lt_of_pos _ hm) A'
theorem box_below {s : S} {a : Nat} (h : Box s a) (n : Nat) : ∀ o, s.heap a = some o → obBelow n o := fun o e => by
  obtain ⟨ns, k, ha, _⟩ := h
  rw [ha] at e
  cases e
  exact ⟨below_ints _ ns, trivial, trivial⟩
/-- behind a call that draws from the box at a and makes what is its own -/
theorem gc_after {s s' : S} {a : Nat} {d : D} (w : s.Wf) (hb : Box s' a) (ha : a < s.next) (fr : ∀ b, b < s.next → b ≠ a → s'.heap b = s.heap b) (hd : below s.next d) : After s a (gcS s.next [d] s') := by
  unfold gcS
  have ok : gcOk s.next [d] s' := ⟨⟨hd, trivial⟩, fun b o hlt e => by
    by_cases h : b = a
    · subst h; exact box_below hb _ o e
    · exact w.inn b o (by rw [← fr b hlt h]; exact e)⟩
  rw [if_pos ok]
  have hp : ∀ b, b < s.next → (s'.cut s.next).heap b = s'.heap b := fun b hlt => if_pos hlt
  have hq : ∀ b, s.next ≤ b → (s'.cut s.next).heap b = none := fun b h => if_neg (by omega)
  obtain ⟨ns, k, h1, h2⟩ := id hb
  refine ⟨rfl, ⟨fun b h => hq b h, fun b o e => ?_⟩, ⟨ns, k, by rw [hp a ha]; exact h1, h2⟩, fun b hne => ?_⟩
  · by_cases hlt : b < s.next
    · rw [hp b hlt] at e
      exact ok.2 b o hlt e
    · rw [hq b (by omega)] at e; cases e
  · by_cases hlt : b < s.next
    · rw [hp b hlt]; exact fr b hlt hne
    · rw [hq b (by omega)]; exact (w.out b (by omega)).symm
theorem dig2 {s : S} {e0 e1 e2 e4 e6 e7 : Option D} (c : Int) (ms : List Int) (h : ms.length < LINE) {Q : QS} (hQ : ∀ (c : Int) (ms' : List Int), ms'.length ≤ ms.length + 1 → Q .nx [e0, e1, e2, some (.ref s.next), e4, some (.int c), e6, e7] (s.alloc (.lst (ms'.map .int)))) :
    wps ((ev F G digC2).s [e0, e1, e2, some (.ref s.next), e4, some (.int c), e6, e7] (s.alloc (.lst (ms.map .int)))) Q := by
  simp only [digC2, ev, wps_seq, wps_if, wps_ret, wps_nx, wps_fl, wps_expr, wps_set, wps_setT, wps_setI, wps_setF, wps_lks, wp_bool, wp_tru, wp_notM, wp_andM, wp_orM, wp_ifM, wp_op2, wp_op1, wp_arg, wp_cons, wp_nil, wp_lit, wp_mth, wp_meth, wp_mk, wp_pop, wp_get2, wp_lck, wp_v, wp_ok, wps_ok, List.map_cons, List.map_nil, List.length_cons, List.length_nil, Nat.zero_add, Nat.reduceAdd, Nat.reduceSub, List.replicate_zero, List.replicate_succ, List.cons_append, List.nil_append, List.append_nil, List.getElem?_cons_zero, List.getElem?_cons_succ, List.set_cons_zero, List.set_cons_succ, blF, mtF, opF, cmF, f_add, f_sub, f_mul, f_mod, f_fdiv, f_pow, f_lt, f_le, f_gt, f_ge, f_eqi, f_eqs, f_int, f_neg, upd_heap, upd_next, all_heap, all_next, Bool.false_eq_true, if_true, if_false, decide_eq_true_eq, Nat.sub_self]
  by_cases hc : 0 < c
  · have h2 : (0 : Int) < 1000 := by decide
    have e1 := app_at (s := s) (o := ms.map D.int) (d := .int (c % 1000)) (by simpa using h)
    simp only [hc, h2, cd1000, isLst_at, e1, ev, wps_seq, wps_if, wps_ret, wps_nx, wps_fl, wps_expr, wps_set, wps_setT, wps_setI, wps_setF, wps_lks, wp_bool, wp_tru, wp_notM, wp_andM, wp_orM, wp_ifM, wp_op2, wp_op1, wp_arg, wp_cons, wp_nil, wp_lit, wp_mth, wp_meth, wp_mk, wp_pop, wp_get2, wp_lck, wp_v, wp_ok, wps_ok, List.map_cons, List.map_nil, List.length_cons, List.length_nil, Nat.zero_add, Nat.reduceAdd, Nat.reduceSub, List.replicate_zero, List.replicate_succ, List.cons_append, List.nil_append, List.append_nil, List.getElem?_cons_zero, List.getElem?_cons_succ, List.set_cons_zero, List.set_cons_succ, blF, mtF, opF, cmF, f_add, f_sub, f_mul, f_mod, f_fdiv, f_pow, f_lt, f_le, f_gt, f_ge, f_eqi, f_eqs, f_int, f_neg, upd_heap, upd_next, all_heap, all_next, Bool.false_eq_true, if_true, if_false, decide_eq_true_eq, Nat.sub_self]
    have := hQ (c / 1000) (ms ++ [c % 1000]) (by simp)
    simpa using this
  · simp only [hc, ev, wps_seq, wps_if, wps_ret, wps_nx, wps_fl, wps_expr, wps_set, wps_setT, wps_setI, wps_setF, wps_lks, wp_bool, wp_tru, wp_notM, wp_andM, wp_orM, wp_ifM, wp_op2, wp_op1, wp_arg, wp_cons, wp_nil, wp_lit, wp_mth, wp_meth, wp_mk, wp_pop, wp_get2, wp_lck, wp_v, wp_ok, wps_ok, List.map_cons, List.map_nil, List.length_cons, List.length_nil, Nat.zero_add, Nat.reduceAdd, Nat.reduceSub, List.replicate_zero, List.replicate_succ, List.cons_append, List.nil_append, List.append_nil, List.getElem?_cons_zero, List.getElem?_cons_succ, List.set_cons_zero, List.set_cons_succ, blF, mtF, opF, cmF, f_add, f_sub, f_mul, f_mod, f_fdiv, f_pow, f_lt, f_le, f_gt, f_ge, f_eqi, f_eqs, f_int, f_neg, upd_heap, upd_next, all_heap, all_next, Bool.false_eq_true, if_true, if_false, decide_eq_true_eq, Nat.sub_self]
    exact hQ c ms (Nat.le_succ _)
theorem dig3 {s : S} {e0 e1 e2 e4 e5 : Option D} (t c : Int) (ms : List Int) (h : ms.length < LINE) {Q : QS} (hQ : ∀ (c : Int) (ms' : List Int), ms'.length ≤ ms.length + 1 → Q .nx [e0, e1, e2, some (.ref s.next), e4, e5, some (.int t), some (.int c)] (s.alloc (.lst (ms'.map .int)))) :
    wps ((ev F G digC3).s [e0, e1, e2, some (.ref s.next), e4, e5, some (.int t), some (.int c)] (s.alloc (.lst (ms.map .int)))) Q := by
  have m1 : CMul c 16807 := .inr ⟨by decide, by decide⟩
  have m2 : CMul 7 t := .inl ⟨by decide, by decide⟩
  have p1 : (0 : Int) < 2147483647 := by decide
  have p2 : (0 : Int) < 1000 := by decide
  simp only [digC3, m1, m2, p1, p2, cd997, isLst_at, ev, wps_seq, wps_if, wps_ret, wps_nx, wps_fl, wps_expr, wps_set, wps_setT, wps_setI, wps_setF, wps_lks, wp_bool, wp_tru, wp_notM, wp_andM, wp_orM, wp_ifM, wp_op2, wp_op1, wp_arg, wp_cons, wp_nil, wp_lit, wp_mth, wp_meth, wp_mk, wp_pop, wp_get2, wp_lck, wp_v, wp_ok, wps_ok, List.map_cons, List.map_nil, List.length_cons, List.length_nil, Nat.zero_add, Nat.reduceAdd, Nat.reduceSub, List.replicate_zero, List.replicate_succ, List.cons_append, List.nil_append, List.append_nil, List.getElem?_cons_zero, List.getElem?_cons_succ, List.set_cons_zero, List.set_cons_succ, blF, mtF, opF, cmF, f_add, f_sub, f_mul, f_mod, f_fdiv, f_pow, f_lt, f_le, f_gt, f_ge, f_eqi, f_eqs, f_int, f_neg, upd_heap, upd_next, all_heap, all_next, Bool.false_eq_true, if_true, if_false, decide_eq_true_eq, Nat.sub_self]
  rw [app_at (by simpa using h)]
  simp only [ev, wps_seq, wps_if, wps_ret, wps_nx, wps_fl, wps_expr, wps_set, wps_setT, wps_setI, wps_setF, wps_lks, wp_bool, wp_tru, wp_notM, wp_andM, wp_orM, wp_ifM, wp_op2, wp_op1, wp_arg, wp_cons, wp_nil, wp_lit, wp_mth, wp_meth, wp_mk, wp_pop, wp_get2, wp_lck, wp_v, wp_ok, wps_ok, List.map_cons, List.map_nil, List.length_cons, List.length_nil, Nat.zero_add, Nat.reduceAdd, Nat.reduceSub, List.replicate_zero, List.replicate_succ, List.cons_append, List.nil_append, List.append_nil, List.getElem?_cons_zero, List.getElem?_cons_succ, List.set_cons_zero, List.set_cons_succ, blF, mtF, opF, cmF, f_add, f_sub, f_mul, f_mod, f_fdiv, f_pow, f_lt, f_le, f_gt, f_ge, f_eqi, f_eqs, f_int, f_neg, upd_heap, upd_next, all_heap, all_next, Bool.false_eq_true, if_true, if_false, decide_eq_true_eq, Nat.sub_self]
  have := hQ ((c * 16807 + 7 * t + 1) % 2147483647) (ms ++ [(c * 16807 + 7 * t + 1) % 2147483647 / 997 % 1000]) (by simp)
  simpa using this
theorem rng1_lit {env : Env} {t : S} {k : Nat} (h : k < 1000000) : rng1M (litM (.int (k : Int))) env t = .ok (rngD 0 k, none) t := by
  have := f_rng1 (i := (k : Int)) (s := t) ⟨by omega, by omega⟩
  rw [Int.toNat_natCast] at this
  unfold rng1M litM
  rw [bd_ok, this]
/-- the slots amid the digits -/
def DigE (s : S) (ns : List Int) (n i : Nat) (env : Env) (t : S) : Prop := ∃ (x4 x5 x6 x7 : Option D) (ms : List Int), env = [some (D.sc (ns.map D.int)), some (D.int 0), some (D.int n), some (D.ref s.next), x4, x5, x6, x7] ∧ t = s.alloc (.lst (ms.map D.int)) ∧ ms.length ≤ 60 * i
theorem dig_big (s : S) (ns : List Int) (n i : Nat) (hi : i ≤ 1000) (x4 x6 x7 : Option D) (c : Int) (ms : List Int) (hm : ms.length ≤ 60 * i) {Q : QS} (hQ : ∀ env t, DigE s ns n (i + 1) env t → Q .nx env t) :
    wps (forM (.name 6) (rng1M (litM (.int 60))) (ev F G digC2).s [some (D.sc (ns.map D.int)), some (D.int 0), some (D.int n), some (D.ref s.next), x4, some (.int c), x6, x7] (s.alloc (.lst (ms.map D.int)))) Q := by
  generalize hb2 : (ev F G digC2).s = b2
  have hr := fun env t => rng1_lit (env := env) (t := t) (k := 60) (by omega)
  have e60 : ((60 : Nat) : Int) = 60 := rfl
  rw [e60] at hr
  generalize rng1M (litM (.int 60)) = mm at hr ⊢
  refine wps_for (fun k env t => ∃ (x6 : Option D) (c : Int) (ms' : List Int), env = [some (D.sc (ns.map D.int)), some (D.int 0), some (D.int n), some (D.ref s.next), x4, some (.int c), x6, x7] ∧ t = s.alloc (.lst (ms'.map D.int)) ∧ ms'.length ≤ ms.length + k) (hr _ _)
    ⟨x6, c, ms, rfl, rfl, Nat.le_refl _⟩ (fun _ _ _ _ _ => trivial) (fun k d env t hd hi => ?_) fun env t hi => ?_
  · obtain ⟨x6, c, ms', rfl, rfl, hm'⟩ := hi
    obtain ⟨hk, rfl⟩ := rngD_is hd
    refine ⟨_, rfl, ?_⟩
    subst hb2
    refine dig2 c ms' (by rw [line_is]; omega) fun c' ms2 hl => ⟨_, c', ms2, rfl, rfl, by omega⟩
  · obtain ⟨x6, c, ms', rfl, rfl, hm'⟩ := hi
    rw [rngD_len] at hm'
    exact hQ _ _ ⟨_, _, _, _, ms', rfl, rfl, by omega⟩
theorem dig_small (s : S) (ns : List Int) (n i : Nat) (hi : i ≤ 1000) (x4 x5 x6 : Option D) (c : Int) (ms : List Int) (hm : ms.length ≤ 60 * i) {Q : QS} (hQ : ∀ env t, DigE s ns n (i + 1) env t → Q .nx env t) :
    wps (forM (.name 6) (rng1M (litM (.int 12))) (ev F G digC3).s [some (D.sc (ns.map D.int)), some (D.int 0), some (D.int n), some (D.ref s.next), x4, x5, x6, some (.int c)] (s.alloc (.lst (ms.map D.int)))) Q := by
  generalize hb2 : (ev F G digC3).s = b2
  have hr := fun env t => rng1_lit (env := env) (t := t) (k := 12) (by omega)
  have e60 : ((12 : Nat) : Int) = 12 := rfl
  rw [e60] at hr
  generalize rng1M (litM (.int 12)) = mm at hr ⊢
  refine wps_for (fun k env t => ∃ (x6 : Option D) (c : Int) (ms' : List Int), env = [some (D.sc (ns.map D.int)), some (D.int 0), some (D.int n), some (D.ref s.next), x4, x5, x6, some (.int c)] ∧ t = s.alloc (.lst (ms'.map D.int)) ∧ ms'.length ≤ ms.length + k) (hr _ _)
    ⟨x6, c, ms, rfl, rfl, Nat.le_refl _⟩ (fun _ _ _ _ _ => trivial) (fun k d env t hd hi => ?_) fun env t hi => ?_
  · obtain ⟨x6, c, ms', rfl, rfl, hm'⟩ := hi
    obtain ⟨hk, rfl⟩ := rngD_is hd
    refine ⟨_, rfl, ?_⟩
    subst hb2
    refine dig3 _ c ms' (by rw [line_is]; omega) fun c' ms2 hl => ⟨_, c', ms2, rfl, rfl, by omega⟩
  · obtain ⟨x6, c, ms', rfl, rfl, hm'⟩ := hi
    rw [rngD_len] at hm'
    exact hQ _ _ ⟨_, _, _, _, ms', rfl, rfl, by omega⟩
abbrev CellF (F : Nat → List D → S → R D) (j : Nat) : Prop := ∀ (ns : List Int) (k : Int) (s : S) (Q : D → S → Prop) (E : XP), s.Wf → 0 ≤ k → Q (.int (ns.getD k.toNat 0)) s → wp (F j [.sc (ns.map .int), .int k] s) Q E
theorem dig1 {j : Nat} (hF : CellF F j) (s : S) (w : s.Wf) (ns : List Int) (n i : Nat) (hi : i ≤ 1000) (k : Int) (hk : 0 ≤ k) (x5 x6 x7 : Option D) (ms : List Int) (hm : ms.length ≤ 60 * i) {Q : QS} (hQ : ∀ env t, DigE s ns n (i + 1) env t → Q .nx env t) :
    wps ((ev F G (digC1 j)).s [some (D.sc (ns.map D.int)), some (D.int 0), some (D.int n), some (D.ref s.next), some (.int k), x5, x6, x7] (s.alloc (.lst (ms.map D.int)))) Q := by
  have p1 : (0 : Int) < 2147483647 := by decide
  have m0 : ∀ c : Int, CMul 2 c := fun c => .inl ⟨by decide, by decide⟩
  have m1 : ∀ c : Int, CMul c 48271 := fun c => .inr ⟨by decide, by decide⟩
  have m2 : ∀ c : Int, CMul c 69621 := fun c => .inr ⟨by decide, by decide⟩
  simp only [digC1, ev, wps_seq, wps_if, wps_ret, wps_nx, wps_fl, wps_expr, wps_set, wps_setT, wps_setI, wps_setF, wps_lks, wp_bool, wp_tru, wp_notM, wp_andM, wp_orM, wp_ifM, wp_op2, wp_op1, wp_arg, wp_cons, wp_nil, wp_lit, wp_mth, wp_meth, wp_mk, wp_pop, wp_get2, wp_lck, wp_v, wp_ok, wps_ok, List.map_cons, List.map_nil, List.length_cons, List.length_nil, Nat.zero_add, Nat.reduceAdd, Nat.reduceSub, List.replicate_zero, List.replicate_succ, List.cons_append, List.nil_append, List.append_nil, List.getElem?_cons_zero, List.getElem?_cons_succ, List.set_cons_zero, List.set_cons_succ, blF, mtF, opF, cmF, f_add, f_sub, f_mul, f_mod, f_fdiv, f_pow, f_lt, f_le, f_gt, f_ge, f_eqi, f_eqs, f_int, f_neg, upd_heap, upd_next, all_heap, all_next, Bool.false_eq_true, if_true, if_false, decide_eq_true_eq, Nat.sub_self]
  refine hF ns _ _ _ _ (w.alloc (below_ints _ _)) hk ?_
  generalize ns.getD _ 0 = c0
  by_cases hneg : c0 < 0
  · simp only [hneg, m0, c18, ev, wps_seq, wps_if, wps_ret, wps_nx, wps_fl, wps_expr, wps_set, wps_setT, wps_setI, wps_setF, wps_lks, wp_bool, wp_tru, wp_notM, wp_andM, wp_orM, wp_ifM, wp_op2, wp_op1, wp_arg, wp_cons, wp_nil, wp_lit, wp_mth, wp_meth, wp_mk, wp_pop, wp_get2, wp_lck, wp_v, wp_ok, wps_ok, List.map_cons, List.map_nil, List.length_cons, List.length_nil, Nat.zero_add, Nat.reduceAdd, Nat.reduceSub, List.replicate_zero, List.replicate_succ, List.cons_append, List.nil_append, List.append_nil, List.getElem?_cons_zero, List.getElem?_cons_succ, List.set_cons_zero, List.set_cons_succ, blF, mtF, opF, cmF, f_add, f_sub, f_mul, f_mod, f_fdiv, f_pow, f_lt, f_le, f_gt, f_ge, f_eqi, f_eqs, f_int, f_neg, upd_heap, upd_next, all_heap, all_next, Bool.false_eq_true, if_true, if_false, decide_eq_true_eq, Nat.sub_self]
    by_cases hb : (10 : Int) ^ (18 : Int).toNat ≤ 1 - 2 * c0
    · simp only [hb, ev, wps_seq, wps_if, wps_ret, wps_nx, wps_fl, wps_expr, wps_set, wps_setT, wps_setI, wps_setF, wps_lks, wp_bool, wp_tru, wp_notM, wp_andM, wp_orM, wp_ifM, wp_op2, wp_op1, wp_arg, wp_cons, wp_nil, wp_lit, wp_mth, wp_meth, wp_mk, wp_pop, wp_get2, wp_lck, wp_v, wp_ok, wps_ok, List.map_cons, List.map_nil, List.length_cons, List.length_nil, Nat.zero_add, Nat.reduceAdd, Nat.reduceSub, List.replicate_zero, List.replicate_succ, List.cons_append, List.nil_append, List.append_nil, List.getElem?_cons_zero, List.getElem?_cons_succ, List.set_cons_zero, List.set_cons_succ, blF, mtF, opF, cmF, f_add, f_sub, f_mul, f_mod, f_fdiv, f_pow, f_lt, f_le, f_gt, f_ge, f_eqi, f_eqs, f_int, f_neg, upd_heap, upd_next, all_heap, all_next, Bool.false_eq_true, if_true, if_false, decide_eq_true_eq, Nat.sub_self]
      exact dig_big s ns n i hi _ _ _ _ ms hm hQ
    · simp only [hb, m1, m2, p1, ev, wps_seq, wps_if, wps_ret, wps_nx, wps_fl, wps_expr, wps_set, wps_setT, wps_setI, wps_setF, wps_lks, wp_bool, wp_tru, wp_notM, wp_andM, wp_orM, wp_ifM, wp_op2, wp_op1, wp_arg, wp_cons, wp_nil, wp_lit, wp_mth, wp_meth, wp_mk, wp_pop, wp_get2, wp_lck, wp_v, wp_ok, wps_ok, List.map_cons, List.map_nil, List.length_cons, List.length_nil, Nat.zero_add, Nat.reduceAdd, Nat.reduceSub, List.replicate_zero, List.replicate_succ, List.cons_append, List.nil_append, List.append_nil, List.getElem?_cons_zero, List.getElem?_cons_succ, List.set_cons_zero, List.set_cons_succ, blF, mtF, opF, cmF, f_add, f_sub, f_mul, f_mod, f_fdiv, f_pow, f_lt, f_le, f_gt, f_ge, f_eqi, f_eqs, f_int, f_neg, upd_heap, upd_next, all_heap, all_next, Bool.false_eq_true, if_true, if_false, decide_eq_true_eq, Nat.sub_self]
      exact dig_small s ns n i hi _ _ _ _ ms hm hQ
  · simp only [hneg, c18, ev, wps_seq, wps_if, wps_ret, wps_nx, wps_fl, wps_expr, wps_set, wps_setT, wps_setI, wps_setF, wps_lks, wp_bool, wp_tru, wp_notM, wp_andM, wp_orM, wp_ifM, wp_op2, wp_op1, wp_arg, wp_cons, wp_nil, wp_lit, wp_mth, wp_meth, wp_mk, wp_pop, wp_get2, wp_lck, wp_v, wp_ok, wps_ok, List.map_cons, List.map_nil, List.length_cons, List.length_nil, Nat.zero_add, Nat.reduceAdd, Nat.reduceSub, List.replicate_zero, List.replicate_succ, List.cons_append, List.nil_append, List.append_nil, List.getElem?_cons_zero, List.getElem?_cons_succ, List.set_cons_zero, List.set_cons_succ, blF, mtF, opF, cmF, f_add, f_sub, f_mul, f_mod, f_fdiv, f_pow, f_lt, f_le, f_gt, f_ge, f_eqi, f_eqs, f_int, f_neg, upd_heap, upd_next, all_heap, all_next, Bool.false_eq_true, if_true, if_false, decide_eq_true_eq, Nat.sub_self]
    by_cases hb : (10 : Int) ^ (18 : Int).toNat ≤ c0
    · simp only [hb, ev, wps_seq, wps_if, wps_ret, wps_nx, wps_fl, wps_expr, wps_set, wps_setT, wps_setI, wps_setF, wps_lks, wp_bool, wp_tru, wp_notM, wp_andM, wp_orM, wp_ifM, wp_op2, wp_op1, wp_arg, wp_cons, wp_nil, wp_lit, wp_mth, wp_meth, wp_mk, wp_pop, wp_get2, wp_lck, wp_v, wp_ok, wps_ok, List.map_cons, List.map_nil, List.length_cons, List.length_nil, Nat.zero_add, Nat.reduceAdd, Nat.reduceSub, List.replicate_zero, List.replicate_succ, List.cons_append, List.nil_append, List.append_nil, List.getElem?_cons_zero, List.getElem?_cons_succ, List.set_cons_zero, List.set_cons_succ, blF, mtF, opF, cmF, f_add, f_sub, f_mul, f_mod, f_fdiv, f_pow, f_lt, f_le, f_gt, f_ge, f_eqi, f_eqs, f_int, f_neg, upd_heap, upd_next, all_heap, all_next, Bool.false_eq_true, if_true, if_false, decide_eq_true_eq, Nat.sub_self]
      exact dig_big s ns n i hi _ _ _ _ ms hm hQ
    · simp only [hb, m1, m2, p1, ev, wps_seq, wps_if, wps_ret, wps_nx, wps_fl, wps_expr, wps_set, wps_setT, wps_setI, wps_setF, wps_lks, wp_bool, wp_tru, wp_notM, wp_andM, wp_orM, wp_ifM, wp_op2, wp_op1, wp_arg, wp_cons, wp_nil, wp_lit, wp_mth, wp_meth, wp_mk, wp_pop, wp_get2, wp_lck, wp_v, wp_ok, wps_ok, List.map_cons, List.map_nil, List.length_cons, List.length_nil, Nat.zero_add, Nat.reduceAdd, Nat.reduceSub, List.replicate_zero, List.replicate_succ, List.cons_append, List.nil_append, List.append_nil, List.getElem?_cons_zero, List.getElem?_cons_succ, List.set_cons_zero, List.set_cons_succ, blF, mtF, opF, cmF, f_add, f_sub, f_mul, f_mod, f_fdiv, f_pow, f_lt, f_le, f_gt, f_ge, f_eqi, f_eqs, f_int, f_neg, upd_heap, upd_next, all_heap, all_next, Bool.false_eq_true, if_true, if_false, decide_eq_true_eq, Nat.sub_self]
      exact dig_small s ns n i hi _ _ _ _ ms hm hQ
theorem dig_gen {j : Nat} (hF : CellF F j) (ns : List Int) (n : Nat) (hn : n ≤ 1000) (s : S) (w : s.Wf) {Q : D → S → Prop} {E : XP} (hQ : ∀ ms : List Int, Q (.lv (ms.map .int)) s) : wp (callB 3 8 (ev F G (digC j)).s [.sc (ns.map .int), .int 0, .int n] s) Q E := by
  generalize hb : (ev F G (digC j)).s = b
  refine wp_callB rfl ?_
  subst hb
  simp only [digC, ev, wps_seq, wps_if, wps_ret, wps_nx, wps_fl, wps_expr, wps_set, wps_setT, wps_setI, wps_setF, wps_lks, wp_bool, wp_tru, wp_notM, wp_andM, wp_orM, wp_ifM, wp_op2, wp_op1, wp_arg, wp_cons, wp_nil, wp_lit, wp_mth, wp_meth, wp_mk, wp_pop, wp_get2, wp_lck, wp_v, wp_ok, wps_ok, List.map_cons, List.map_nil, List.length_cons, List.length_nil, Nat.zero_add, Nat.reduceAdd, Nat.reduceSub, List.replicate_zero, List.replicate_succ, List.cons_append, List.nil_append, List.append_nil, List.getElem?_cons_zero, List.getElem?_cons_succ, List.set_cons_zero, List.set_cons_succ, blF, mtF, opF, cmF, f_add, f_sub, f_mul, f_mod, f_fdiv, f_pow, f_lt, f_le, f_gt, f_ge, f_eqi, f_eqs, f_int, f_neg, upd_heap, upd_next, all_heap, all_next, Bool.false_eq_true, if_true, if_false, decide_eq_true_eq, Nat.sub_self]
  have e0 : mkL true [] s = .ok (.ref s.next) (s.alloc (.lst [])) := by simp [mkL]
  rw [e0]
  simp only [ev, wps_seq, wps_if, wps_ret, wps_nx, wps_fl, wps_expr, wps_set, wps_setT, wps_setI, wps_setF, wps_lks, wp_bool, wp_tru, wp_notM, wp_andM, wp_orM, wp_ifM, wp_op2, wp_op1, wp_arg, wp_cons, wp_nil, wp_lit, wp_mth, wp_meth, wp_mk, wp_pop, wp_get2, wp_lck, wp_v, wp_ok, wps_ok, List.map_cons, List.map_nil, List.length_cons, List.length_nil, Nat.zero_add, Nat.reduceAdd, Nat.reduceSub, List.replicate_zero, List.replicate_succ, List.cons_append, List.nil_append, List.append_nil, List.getElem?_cons_zero, List.getElem?_cons_succ, List.set_cons_zero, List.set_cons_succ, blF, mtF, opF, cmF, f_add, f_sub, f_mul, f_mod, f_fdiv, f_pow, f_lt, f_le, f_gt, f_ge, f_eqi, f_eqs, f_int, f_neg, upd_heap, upd_next, all_heap, all_next, Bool.false_eq_true, if_true, if_false, decide_eq_true_eq, Nat.sub_self]
  have hr : rng2M (varM 1) (varM 2) [some (D.sc (ns.map D.int)), some (D.int 0), some (D.int n), some (D.ref s.next), none, none, none, none] (s.alloc (.lst [])) = .ok (rngD 0 n, none) (s.alloc (.lst [])) := by
    have := f_rng2 (i := 0) (j := (n : Int)) (s := s.alloc (.lst [])) ⟨by omega, by omega, by omega, by omega⟩
    rw [Int.sub_zero, Int.toNat_natCast] at this
    simp only [rng2M, varM, List.getElem?_cons_zero, List.getElem?_cons_succ, bd_ok, this]
  generalize hb1 : (ev F G (digC1 j)).s = b1
  generalize rng2M (varM 1) (varM 2) = mm at hr ⊢
  refine wps_for (DigE s ns n) hr ⟨none, none, none, none, [], rfl, rfl, Nat.zero_le _⟩ (fun _ _ _ _ _ => trivial) (fun i d env t hd hi => ?_) fun env t hi => ?_
  · obtain ⟨x4, x5, x6, x7, ms, rfl, rfl, hm⟩ := hi
    obtain ⟨hin, rfl⟩ := rngD_is hd
    refine ⟨_, rfl, ?_⟩
    subst hb1
    exact dig1 hF s w ns n i (by omega) _ (by omega) _ _ _ ms hm fun env t h => h
  · obtain ⟨x4, x5, x6, x7, ms, rfl, rfl, hm⟩ := hi
    simp only [ev, wps_seq, wps_if, wps_ret, wps_nx, wps_fl, wps_expr, wps_set, wps_setT, wps_setI, wps_setF, wps_lks, wp_bool, wp_tru, wp_notM, wp_andM, wp_orM, wp_ifM, wp_op2, wp_op1, wp_arg, wp_cons, wp_nil, wp_lit, wp_mth, wp_meth, wp_mk, wp_pop, wp_get2, wp_lck, wp_v, wp_ok, wps_ok, List.map_cons, List.map_nil, List.length_cons, List.length_nil, Nat.zero_add, Nat.reduceAdd, Nat.reduceSub, List.replicate_zero, List.replicate_succ, List.cons_append, List.nil_append, List.append_nil, List.getElem?_cons_zero, List.getElem?_cons_succ, List.set_cons_zero, List.set_cons_succ, blF, mtF, opF, cmF, f_add, f_sub, f_mul, f_mod, f_fdiv, f_pow, f_lt, f_le, f_gt, f_ge, f_eqi, f_eqs, f_int, f_neg, upd_heap, upd_next, all_heap, all_next, Bool.false_eq_true, if_true, if_false, decide_eq_true_eq, Nat.sub_self]
    have e1 : frzF (.ref s.next) (s.alloc (.lst (ms.map D.int))) = .ok (.lv (ms.map D.int)) ((s.alloc (.lst (ms.map D.int))).free s.next) := by
      have e : (s.alloc (.lst (ms.map D.int))).heap s.next = some (.lst (ms.map D.int)) := if_pos rfl
      simp [frzF, e]
    rw [e1]
    simp only [ev, wps_seq, wps_if, wps_ret, wps_nx, wps_fl, wps_expr, wps_set, wps_setT, wps_setI, wps_setF, wps_lks, wp_bool, wp_tru, wp_notM, wp_andM, wp_orM, wp_ifM, wp_op2, wp_op1, wp_arg, wp_cons, wp_nil, wp_lit, wp_mth, wp_meth, wp_mk, wp_pop, wp_get2, wp_lck, wp_v, wp_ok, wps_ok, List.map_cons, List.map_nil, List.length_cons, List.length_nil, Nat.zero_add, Nat.reduceAdd, Nat.reduceSub, List.replicate_zero, List.replicate_succ, List.cons_append, List.nil_append, List.append_nil, List.getElem?_cons_zero, List.getElem?_cons_succ, List.set_cons_zero, List.set_cons_succ, blF, mtF, opF, cmF, f_add, f_sub, f_mul, f_mod, f_fdiv, f_pow, f_lt, f_le, f_gt, f_ge, f_eqi, f_eqs, f_int, f_neg, upd_heap, upd_next, all_heap, all_next, Bool.false_eq_true, if_true, if_false, decide_eq_true_eq, Nat.sub_self]
    rw [gc_pure w (fun a ha => ?_) (belowL_of fun d hd => ?_)]
    · exact hQ ms
    · show (if a = s.next then none else if a = s.next then _ else s.heap a) = _
      rw [if_neg (Nat.ne_of_lt ha), if_neg (Nat.ne_of_lt ha)]
    · rw [List.mem_singleton.mp hd]
      exact below_ints _ _
end
end Co
namespace Co
open PySem L2
/-! ### the ordering of moves -/
def ordInitC : C := (.seq
 (.setF "Ordering" "left" (.var 0) (.dc (.tup [4, 3]) [4, 3] (.it (.var 1)) (.tcmp .ne (.var 4) (.var 3)) (.var 4) (.var 3)))
 (.seq
 (.setF "Ordering" "present" (.var 0) (.lk (.fld "Ordering" "left" (.var 0)) (.dc (.name 3) [3] (.vals (.fld "Ordering" "left" (.var 0))) .yes (.var 3) (.var 3))))
 (.seq
 (.set 2 (.lvals false (.fld "Ordering" "left" (.var 0))))
 (.seq
 (.setF "Ordering" "ready" (.var 0) (.lk (.fld "Ordering" "left" (.var 0)) (.lc true (.name 4) [4] (.it (.fld "Ordering" "left" (.var 0))) (.tcmp .nin (.var 4) (.var 2)) (.var 4))))
 (.seq
 (.setF "Ordering" "made" (.var 0) (.lst true .nil))
 .skip)))))
def ordMakeC : C := (.seq
 (.set 2 (.pop (.fld "Ordering" "left" (.var 0)) (.var 1)))
 (.seq
 (.set 3 (.ix (.fld "Ordering" "present" (.var 0)) (.var 2)))
 (.seq
 (.ex (.mt .app (.fld "Ordering" "made" (.var 0)) (.cons (.tup (.cons (.var 1) (.cons (.var 3) .nil))) .nil)))
 (.seq
 (.setI (.fld "Ordering" "present" (.var 0)) (.var 2) (.var 1))
 (.seq
 (.ifs (.tand (.tcmp .eq (.var 3) (.var 2)) (.tand1 (.tcmp .in_ (.var 2) (.fld "Ordering" "left" (.var 0))))) (.seq
 (.ex (.mt .app (.fld "Ordering" "ready" (.var 0)) (.cons (.var 2) .nil)))
 .skip) .skip)
 .skip)))))
def ordPartC : C := (.seq
 (.set 1 (.ix (.blt .lst false (.cons (.fld "Ordering" "left" (.var 0)) .nil)) (.int 0)))
 (.seq
 (.ex (.mt .app (.fld "Ordering" "made" (.var 0)) (.cons (.tup (.cons (.gl 0) (.cons (.var 1) .nil))) .nil)))
 (.seq
 (.setI (.fld "Ordering" "present" (.var 0)) (.var 1) (.gl 0))
 (.seq
 (.ex (.mt .app (.fld "Ordering" "ready" (.var 0)) (.cons (.var 1) .nil)))
 .skip))))
def ordLoopC (jp jm : Nat) : C := (.seq
 (.ifs (.tnot (.tru (.fld "Ordering" "ready" (.var 0)))) (.seq
 (.ex (.meth "Ordering" "part" jp (.var 0) .nil))
 .skip) .skip)
 (.seq
 (.ex (.meth "Ordering" "make" jm (.var 0) (.cons (.pop (.fld "Ordering" "ready" (.var 0)) (.int 0)) .nil)))
 .skip))
def ordAllC (jp jm : Nat) : C := (.seq
 (.whl (.tru (.fld "Ordering" "left" (.var 0))) (ordLoopC jp jm))
 (.seq
 (.ret (.blt .tup false (.cons (.fld "Ordering" "made" (.var 0)) .nil)))
 .skip))
def ordC (ja ji : Nat) : C := (.seq
 (.ret (.meth "Ordering" "make_all" ja (.mk "Ordering" ji (.cons (.var 0) .nil)) .nil))
 .skip)
def doLoopC : C := (.seq
 (.setI (.var 2) (.var 3) (.ix (.var 2) (.var 4)))
 .skip)
def doC : C := (.seq
 (.set 2 (.blt .dict true (.cons (.var 1) .nil)))
 (.seq
 (.fors (.tup [3, 4]) (.it (.var 0)) doLoopC)
 (.seq
 (.ret (.var 2))
 .skip)))

abbrev Prs := List (Str × Str)
def getS (p : Prs) (k : Str) : Option Str := (p.find? fun q => decide (q.1 = k)).map (·.2)
def putS (p : Prs) (k v : Str) : Prs := if (p.any fun q => decide (q.1 = k)) = true then p.map (fun q => if q.1 = k then (q.1, v) else q) else p ++ [(k, v)]
def dropS (p : Prs) (k : Str) : Prs := p.filter fun q => decide (q.1 ≠ k)
def kd (p : Prs) : List (Key × D) := p.map fun q => (.inr q.1, .str q.2)
def mv (q : Str × Str) : D := .tup [.str q.1, .str q.2]
theorem inr_eq {a b : Str} : (decide ((Sum.inr a : Key) = Sum.inr b)) = decide (a = b) := by
  by_cases h : a = b
  · subst h; simp
  · rw [decide_eq_false h, decide_eq_false fun z => h (Sum.inr.inj z)]
theorem getK_kd {p : Prs} {k : Str} : getK (kd p) (.inr k) = (getS p k).map D.str := by
  unfold getK getS kd
  rw [List.find?_map]
  have e : ((fun kv : Key × D => decide (kv.1 = Sum.inr k)) ∘ fun q : Str × Str => ((Sum.inr q.1 : Key), D.str q.2)) = fun q => decide (q.1 = k) := by
    funext q
    exact inr_eq
  rw [e]
  cases p.find? fun q => decide (q.1 = k) <;> rfl
theorem putD_kd {p : Prs} {k v : Str} : putD (kd p) (.inr k) (.str v) = kd (putS p k v) := by
  unfold putD putS kd
  have e : (p.map fun q => ((Sum.inr q.1 : Key), D.str q.2)).any (fun kv => decide (kv.1 = Sum.inr k)) = p.any fun q => decide (q.1 = k) := by
    rw [List.any_map]
    congr 1
    funext q
    exact inr_eq
  rw [e]
  by_cases h : (p.any fun q => decide (q.1 = k)) = true
  · rw [if_pos h, if_pos h, List.map_map, List.map_map]
    congr 1
    funext q
    show (if (Sum.inr q.1 : Key) = Sum.inr k then ((Sum.inr q.1 : Key), D.str v) else (Sum.inr q.1, D.str q.2)) = _
    by_cases hq : q.1 = k
    · rw [if_pos (by rw [hq])]
      show _ = ((fun q : Str × Str => ((Sum.inr q.1 : Key), D.str q.2)) (if q.1 = k then (q.1, v) else q))
      rw [if_pos hq]
    · rw [if_neg fun z => hq (Sum.inr.inj z)]
      show _ = ((fun q : Str × Str => ((Sum.inr q.1 : Key), D.str q.2)) (if q.1 = k then (q.1, v) else q))
      rw [if_neg hq]
  · rw [if_neg h, if_neg h, List.map_append]
    rfl
theorem dropD_kd {p : Prs} {k : Str} : dropD (kd p) (.inr k) = kd (dropS p k) := by
  unfold dropD dropS kd
  rw [List.filter_map]
  congr 1
  apply List.filter_congr
  intro q _
  show decide ((Sum.inr q.1 : Key) ≠ Sum.inr k) = decide (q.1 ≠ k)
  by_cases h : q.1 = k
  · simp [h]
  · simp [h]
/-- the state of an ordering -/
structure Od where
  L : Prs
  P : Prs
  R : List Str
  M : Prs
def ordFs (l p r m : Nat) : List (Str × D) := [("left", .ref l), ("present", .ref p), ("ready", .ref r), ("made", .ref m)]
structure OrdAt (s : S) (o l p r m : Nat) (t : Od) : Prop where
  wf : s.Wf
  ho : s.heap o = some (.ins "Ordering" (ordFs l p r m))
  hl : s.heap l = some (.dK (kd t.L))
  hp : s.heap p = some (.dK (kd t.P))
  hr : s.heap r = some (.lst (t.R.map .str))
  hm : s.heap m = some (.lst (t.M.map mv))
  ne : o ≠ l ∧ o ≠ p ∧ o ≠ r ∧ o ≠ m ∧ l ≠ p ∧ l ≠ r ∧ l ≠ m ∧ p ≠ r ∧ p ≠ m ∧ r ≠ m
  small : t.P.length ≤ 1000 ∧ t.R.length ≤ 1000 ∧ t.M.length ≤ 1000
/-- one move: its source, where that stands -/
def Od.make (t : Od) (d : Str) : Od := match getS t.L d with
  | none => t
  | some s => match getS t.P s with
    | none => t
    | some x => ⟨dropS t.L d, putS t.P s d, if x = s ∧ (getS (dropS t.L d) s).isSome = true then t.R ++ [s] else t.R, t.M ++ [(d, x)]⟩
def Od.part (t : Od) : Od := match t.L with
  | [] => t
  | (d, _) :: _ => ⟨t.L, putS t.P d "t", t.R ++ [d], t.M ++ [(("t" : Str), d)]⟩
theorem below_kd (n : Nat) (p : Prs) : obBelow n (.dK (kd p)) := belowL_of fun d hd => by
  obtain ⟨q, hq, rfl⟩ := List.mem_map.mp hd
  obtain ⟨q', _, rfl⟩ := List.mem_map.mp hq
  trivial
theorem below_strs (n : Nat) (p : List Str) : obBelow n (.lst (p.map .str)) := belowL_of fun d hd => by
  obtain ⟨q, _, rfl⟩ := List.mem_map.mp hd
  trivial
theorem below_mvs (n : Nat) (p : Prs) : obBelow n (.lst (p.map mv)) := belowL_of fun d hd => by
  obtain ⟨q, _, rfl⟩ := List.mem_map.mp hd
  exact ⟨trivial, trivial, trivial⟩
theorem putS_len {p : Prs} {k v : Str} : (putS p k v).length ≤ p.length + 1 := by
  unfold putS
  split
  · rw [List.length_map]; omega
  · rw [List.length_append]; exact Nat.le_refl _
theorem dropS_len {p : Prs} {k : Str} : (dropS p k).length ≤ p.length := List.length_filter_le _ _
section
variable {s : S} {o l p r m : Nat} {t : Od}
theorem fs_left : (ordFs l p r m).lookup ("left" : Str) = some (.ref l) := by unfold ordFs; rw [List.lookup_cons]; rfl
theorem fs_present : (ordFs l p r m).lookup ("present" : Str) = some (.ref p) := by
  unfold ordFs
  rw [List.lookup_cons, show (("present" : Str) == "left") = false by decide, List.lookup_cons]
  rfl
theorem fs_ready : (ordFs l p r m).lookup ("ready" : Str) = some (.ref r) := by
  unfold ordFs
  rw [List.lookup_cons, show (("ready" : Str) == "left") = false by decide, List.lookup_cons, show (("ready" : Str) == "present") = false by decide, List.lookup_cons]
  rfl
theorem fs_made : (ordFs l p r m).lookup ("made" : Str) = some (.ref m) := by
  unfold ordFs
  rw [List.lookup_cons, show (("made" : Str) == "left") = false by decide, List.lookup_cons, show (("made" : Str) == "present") = false by decide, List.lookup_cons, show (("made" : Str) == "ready") = false by decide, List.lookup_cons]
  rfl
theorem fld_of {f : Str} {x : D} {fs : List (Str × D)} (h : s.heap o = some (.ins "Ordering" fs)) (hf : fs.lookup f = some x) : fldF "Ordering" f (.ref o) s = .ok x s := by
  unfold fldF
  simp only [h, if_true, hf]
/-- what a change of the four parts leaves -/
structure OrdTo (s : S) (o l p r m : Nat) (s' : S) (t' : Od) : Prop where
  at_ : OrdAt s' o l p r m t'
  next : s'.next = s.next
  same : ∀ b, b ≠ l → b ≠ p → b ≠ r → b ≠ m → s'.heap b = s.heap b
theorem make_gen {F : Nat → List D → S → R D} {G : Nat → D} {d src x : Str} (h : OrdAt s o l p r m t) (h1 : getS t.L d = some src) (h2 : getS t.P src = some x) (hR : t.R.length < 1000) (hM : t.M.length < 1000) (hP : t.P.length < 1000) {Q : D → S → Prop} {E : XP}
    (hQ : ∀ s', OrdTo s o l p r m s' (t.make d) → Q .non s') : wp (callB 2 4 (ev F G ordMakeC).s [.ref o, .str d] s) Q E := by
  obtain ⟨n1, n2, n3, n4, n5, n6, n7, n8, n9, n10⟩ := h.ne
  refine wp_callB rfl ?_
  simp only [ordMakeC, ev, wps_seq, wps_if, wps_ret, wps_nx, wps_fl, wps_expr, wps_set, wps_setT, wps_setI, wps_setF, wps_lks, wp_bool, wp_tru, wp_notM, wp_andM, wp_orM, wp_ifM, wp_op2, wp_op1, wp_arg, wp_cons, wp_nil, wp_lit, wp_mth, wp_meth, wp_mk, wp_pop, wp_get2, wp_lck, wp_v, wp_ok, wps_ok, List.map_cons, List.map_nil, List.length_cons, List.length_nil, Nat.zero_add, Nat.reduceAdd, Nat.reduceSub, List.replicate_zero, List.replicate_succ, List.cons_append, List.nil_append, List.append_nil, List.getElem?_cons_zero, List.getElem?_cons_succ, List.set_cons_zero, List.set_cons_succ, blF, mtF, opF, cmF, f_add, f_sub, f_mul, f_mod, f_fdiv, f_pow, f_lt, f_le, f_gt, f_ge, f_eqi, f_eqs, f_int, f_neg, upd_heap, upd_next, all_heap, all_next, Bool.false_eq_true, if_true, if_false, decide_eq_true_eq, Nat.sub_self]
  rw [fld_of h.ho fs_left]
  simp only [ev, wps_seq, wps_if, wps_ret, wps_nx, wps_fl, wps_expr, wps_set, wps_setT, wps_setI, wps_setF, wps_lks, wp_bool, wp_tru, wp_notM, wp_andM, wp_orM, wp_ifM, wp_op2, wp_op1, wp_arg, wp_cons, wp_nil, wp_lit, wp_mth, wp_meth, wp_mk, wp_pop, wp_get2, wp_lck, wp_v, wp_ok, wps_ok, List.map_cons, List.map_nil, List.length_cons, List.length_nil, Nat.zero_add, Nat.reduceAdd, Nat.reduceSub, List.replicate_zero, List.replicate_succ, List.cons_append, List.nil_append, List.append_nil, List.getElem?_cons_zero, List.getElem?_cons_succ, List.set_cons_zero, List.set_cons_succ, blF, mtF, opF, cmF, f_add, f_sub, f_mul, f_mod, f_fdiv, f_pow, f_lt, f_le, f_gt, f_ge, f_eqi, f_eqs, f_int, f_neg, upd_heap, upd_next, all_heap, all_next, Bool.false_eq_true, if_true, if_false, decide_eq_true_eq, Nat.sub_self]
  have e1 : isLst (.ref l) s = false := by simp [isLst, lstOf, h.hl]
  have e2 : isDic (.ref l) s = true := by simp [isDic, dicOf, h.hl]
  have e3 : dpopF (.ref l) (.str d) s = .ok (.str src) (s.upd l (.dK (kd (dropS t.L d)))) := by
    simp [dpopF, h.hl, keyOf, getK_kd, h1, dropD_kd]
  simp only [e1, e2, e3, ev, wps_seq, wps_if, wps_ret, wps_nx, wps_fl, wps_expr, wps_set, wps_setT, wps_setI, wps_setF, wps_lks, wp_bool, wp_tru, wp_notM, wp_andM, wp_orM, wp_ifM, wp_op2, wp_op1, wp_arg, wp_cons, wp_nil, wp_lit, wp_mth, wp_meth, wp_mk, wp_pop, wp_get2, wp_lck, wp_v, wp_ok, wps_ok, List.map_cons, List.map_nil, List.length_cons, List.length_nil, Nat.zero_add, Nat.reduceAdd, Nat.reduceSub, List.replicate_zero, List.replicate_succ, List.cons_append, List.nil_append, List.append_nil, List.getElem?_cons_zero, List.getElem?_cons_succ, List.set_cons_zero, List.set_cons_succ, blF, mtF, opF, cmF, f_add, f_sub, f_mul, f_mod, f_fdiv, f_pow, f_lt, f_le, f_gt, f_ge, f_eqi, f_eqs, f_int, f_neg, upd_heap, upd_next, all_heap, all_next, Bool.false_eq_true, if_true, if_false, decide_eq_true_eq, Nat.sub_self]
  generalize hs1 : s.upd l (.dK (kd (dropS t.L d))) = s1
  have g1 : ∀ b, b ≠ l → s1.heap b = s.heap b := fun b hb => by rw [← hs1, upd_heap, if_neg hb]
  have gl : s1.heap l = some (.dK (kd (dropS t.L d))) := by rw [← hs1, upd_heap, if_pos rfl]
  rw [fld_of ((g1 o n1).trans h.ho) fs_present]
  simp only [ev, wps_seq, wps_if, wps_ret, wps_nx, wps_fl, wps_expr, wps_set, wps_setT, wps_setI, wps_setF, wps_lks, wp_bool, wp_tru, wp_notM, wp_andM, wp_orM, wp_ifM, wp_op2, wp_op1, wp_arg, wp_cons, wp_nil, wp_lit, wp_mth, wp_meth, wp_mk, wp_pop, wp_get2, wp_lck, wp_v, wp_ok, wps_ok, List.map_cons, List.map_nil, List.length_cons, List.length_nil, Nat.zero_add, Nat.reduceAdd, Nat.reduceSub, List.replicate_zero, List.replicate_succ, List.cons_append, List.nil_append, List.append_nil, List.getElem?_cons_zero, List.getElem?_cons_succ, List.set_cons_zero, List.set_cons_succ, blF, mtF, opF, cmF, f_add, f_sub, f_mul, f_mod, f_fdiv, f_pow, f_lt, f_le, f_gt, f_ge, f_eqi, f_eqs, f_int, f_neg, upd_heap, upd_next, all_heap, all_next, Bool.false_eq_true, if_true, if_false, decide_eq_true_eq, Nat.sub_self]
  have e4 : ixF (.ref p) (.str src) s1 = .ok (.str x) s1 := by
    simp [ixF, seqOf, lstOf, (g1 p (Ne.symm n5)).trans h.hp, dget, dicOf, keyOf, getK_kd, h2]
  simp only [e4, ev, wps_seq, wps_if, wps_ret, wps_nx, wps_fl, wps_expr, wps_set, wps_setT, wps_setI, wps_setF, wps_lks, wp_bool, wp_tru, wp_notM, wp_andM, wp_orM, wp_ifM, wp_op2, wp_op1, wp_arg, wp_cons, wp_nil, wp_lit, wp_mth, wp_meth, wp_mk, wp_pop, wp_get2, wp_lck, wp_v, wp_ok, wps_ok, List.map_cons, List.map_nil, List.length_cons, List.length_nil, Nat.zero_add, Nat.reduceAdd, Nat.reduceSub, List.replicate_zero, List.replicate_succ, List.cons_append, List.nil_append, List.append_nil, List.getElem?_cons_zero, List.getElem?_cons_succ, List.set_cons_zero, List.set_cons_succ, blF, mtF, opF, cmF, f_add, f_sub, f_mul, f_mod, f_fdiv, f_pow, f_lt, f_le, f_gt, f_ge, f_eqi, f_eqs, f_int, f_neg, upd_heap, upd_next, all_heap, all_next, Bool.false_eq_true, if_true, if_false, decide_eq_true_eq, Nat.sub_self]
  rw [fld_of ((g1 o n1).trans h.ho) fs_made]
  have hm1 := (g1 m (Ne.symm n7)).trans h.hm
  have e5 : isLst (.ref m) s1 = true := by simp [isLst, lstOf, hm1]
  have e6 : mkT [.str d, .str x] s1 = .ok (mv (d, x)) s1 := by
    unfold mkT
    rw [if_pos (by rw [line_is]; simp)]
    rfl
  have lM : (t.M.map mv).length < LINE := by rw [line_is, List.length_map]; omega
  have e7 : appF (.ref m) [mv (d, x)] s1 = .ok .non (s1.upd m (.lst (t.M.map mv ++ [mv (d, x)]))) := by
    simp only [appF, hlOf, hm1, lM, if_true]
  simp only [e5, e6, e7, ev, wps_seq, wps_if, wps_ret, wps_nx, wps_fl, wps_expr, wps_set, wps_setT, wps_setI, wps_setF, wps_lks, wp_bool, wp_tru, wp_notM, wp_andM, wp_orM, wp_ifM, wp_op2, wp_op1, wp_arg, wp_cons, wp_nil, wp_lit, wp_mth, wp_meth, wp_mk, wp_pop, wp_get2, wp_lck, wp_v, wp_ok, wps_ok, List.map_cons, List.map_nil, List.length_cons, List.length_nil, Nat.zero_add, Nat.reduceAdd, Nat.reduceSub, List.replicate_zero, List.replicate_succ, List.cons_append, List.nil_append, List.append_nil, List.getElem?_cons_zero, List.getElem?_cons_succ, List.set_cons_zero, List.set_cons_succ, blF, mtF, opF, cmF, f_add, f_sub, f_mul, f_mod, f_fdiv, f_pow, f_lt, f_le, f_gt, f_ge, f_eqi, f_eqs, f_int, f_neg, upd_heap, upd_next, all_heap, all_next, Bool.false_eq_true, if_true, if_false, decide_eq_true_eq, Nat.sub_self]
  generalize hs2 : s1.upd m (.lst (t.M.map mv ++ [mv (d, x)])) = s2
  have g2 : ∀ b, b ≠ m → s2.heap b = s1.heap b := fun b hb => by rw [← hs2, upd_heap, if_neg hb]
  have gm : s2.heap m = some (.lst (t.M.map mv ++ [mv (d, x)])) := by rw [← hs2, upd_heap, if_pos rfl]
  rw [fld_of (((g2 o n4).trans (g1 o n1)).trans h.ho) fs_present]
  simp only [ev, wps_seq, wps_if, wps_ret, wps_nx, wps_fl, wps_expr, wps_set, wps_setT, wps_setI, wps_setF, wps_lks, wp_bool, wp_tru, wp_notM, wp_andM, wp_orM, wp_ifM, wp_op2, wp_op1, wp_arg, wp_cons, wp_nil, wp_lit, wp_mth, wp_meth, wp_mk, wp_pop, wp_get2, wp_lck, wp_v, wp_ok, wps_ok, List.map_cons, List.map_nil, List.length_cons, List.length_nil, Nat.zero_add, Nat.reduceAdd, Nat.reduceSub, List.replicate_zero, List.replicate_succ, List.cons_append, List.nil_append, List.append_nil, List.getElem?_cons_zero, List.getElem?_cons_succ, List.set_cons_zero, List.set_cons_succ, blF, mtF, opF, cmF, f_add, f_sub, f_mul, f_mod, f_fdiv, f_pow, f_lt, f_le, f_gt, f_ge, f_eqi, f_eqs, f_int, f_neg, upd_heap, upd_next, all_heap, all_next, Bool.false_eq_true, if_true, if_false, decide_eq_true_eq, Nat.sub_self]
  have hp2 := ((g2 p n9).trans (g1 p (Ne.symm n5))).trans h.hp
  have lP : (kd t.P).length < LINE := by rw [line_is]; unfold kd; rw [List.length_map]; omega
  have e8 : Co.putF (.ref p) (.str src) (.str d) s2 = some (s2.upd p (.dK (kd (putS t.P src d)))) := by
    simp only [Co.putF, hp2, keyOf, lP, if_true, putD_kd]
  simp only [e8, ev, wps_seq, wps_if, wps_ret, wps_nx, wps_fl, wps_expr, wps_set, wps_setT, wps_setI, wps_setF, wps_lks, wp_bool, wp_tru, wp_notM, wp_andM, wp_orM, wp_ifM, wp_op2, wp_op1, wp_arg, wp_cons, wp_nil, wp_lit, wp_mth, wp_meth, wp_mk, wp_pop, wp_get2, wp_lck, wp_v, wp_ok, wps_ok, List.map_cons, List.map_nil, List.length_cons, List.length_nil, Nat.zero_add, Nat.reduceAdd, Nat.reduceSub, List.replicate_zero, List.replicate_succ, List.cons_append, List.nil_append, List.append_nil, List.getElem?_cons_zero, List.getElem?_cons_succ, List.set_cons_zero, List.set_cons_succ, blF, mtF, opF, cmF, f_add, f_sub, f_mul, f_mod, f_fdiv, f_pow, f_lt, f_le, f_gt, f_ge, f_eqi, f_eqs, f_int, f_neg, upd_heap, upd_next, all_heap, all_next, Bool.false_eq_true, if_true, if_false, decide_eq_true_eq, Nat.sub_self]
  generalize hs3 : s2.upd p (.dK (kd (putS t.P src d))) = s3
  have g3 : ∀ b, b ≠ p → s3.heap b = s2.heap b := fun b hb => by rw [← hs3, upd_heap, if_neg hb]
  have gp : s3.heap p = some (.dK (kd (putS t.P src d))) := by rw [← hs3, upd_heap, if_pos rfl]
  have ho3 := (((g3 o n2).trans (g2 o n4)).trans (g1 o n1)).trans h.ho
  have hl3 := ((g3 l n5).trans (g2 l n7)).trans gl
  have hr3 := (((g3 r (Ne.symm n8)).trans (g2 r n10)).trans (g1 r (Ne.symm n6))).trans h.hr
  have hm3 := (g3 m (Ne.symm n9)).trans gm
  have nx3 : s3.next = s.next := by rw [← hs3, ← hs2, ← hs1]; rfl
  have w1 : s1.Wf := by rw [← hs1]; exact h.wf.upd (h.wf.lt h.hl) (below_kd _ _)
  have w2 : s2.Wf := by
    rw [← hs2]
    refine w1.upd (w1.lt hm1) ?_
    have := below_mvs s1.next (t.M ++ [(d, x)])
    rwa [List.map_append] at this
  have w3 : s3.Wf := by rw [← hs3]; exact w2.upd (w2.lt hp2) (below_kd _ _)
  have same3 : ∀ b, b ≠ l → b ≠ p → b ≠ r → b ≠ m → s3.heap b = s.heap b := fun b b1 b2 b3 b4 => ((g3 b b2).trans (g2 b b4)).trans (g1 b b1)
  have emk : ∀ R', (if x = src ∧ (getS (dropS t.L d) src).isSome = true then t.R ++ [src] else t.R) = R' → t.make d = ⟨dropS t.L d, putS t.P src d, R', t.M ++ [(d, x)]⟩ := by
    intro R' hR'
    unfold Od.make
    rw [h1]
    simp only [h2, hR']
  have at3 : ∀ s', s'.Wf → s'.next = s.next → s'.heap o = s3.heap o → s'.heap l = s3.heap l → s'.heap p = s3.heap p → s'.heap m = s3.heap m → (∀ b, b ≠ r → s'.heap b = s3.heap b) → s'.heap r = some (.lst ((t.make d).R.map .str)) → OrdTo s o l p r m s' (t.make d) := by
    intro s' ws nx a1 a2 a3 a4 a5 a6
    have e := emk _ rfl
    rw [e] at a6 ⊢
    refine ⟨⟨ws, a1.trans ho3, a2.trans hl3, a3.trans gp, a6, a4.trans (by rw [hm3, List.map_append]; rfl), h.ne, ?_⟩, nx, fun b b1 b2 b3 b4 => (a5 b b3).trans (same3 b b1 b2 b3 b4)⟩
    refine ⟨?_, ?_, ?_⟩
    · have := putS_len (p := t.P) (k := src) (v := d); show (putS t.P src d).length ≤ 1000; omega
    · show (if _ then t.R ++ [src] else t.R).length ≤ 1000
      split
      · rw [List.length_append]; show t.R.length + 1 ≤ 1000; omega
      · omega
    · show (t.M ++ [(d, x)]).length ≤ 1000
      rw [List.length_append]; show t.M.length + 1 ≤ 1000; omega
  have gc : ∀ s', s'.Wf → s'.next = s.next → gcS s.next [D.non] s' = s' := fun s' ws nx => gc_wf nx ws
  by_cases hx : x = src
  · subst hx
    rw [fld_of ho3 fs_left]
    simp only [ev, wps_seq, wps_if, wps_ret, wps_nx, wps_fl, wps_expr, wps_set, wps_setT, wps_setI, wps_setF, wps_lks, wp_bool, wp_tru, wp_notM, wp_andM, wp_orM, wp_ifM, wp_op2, wp_op1, wp_arg, wp_cons, wp_nil, wp_lit, wp_mth, wp_meth, wp_mk, wp_pop, wp_get2, wp_lck, wp_v, wp_ok, wps_ok, List.map_cons, List.map_nil, List.length_cons, List.length_nil, Nat.zero_add, Nat.reduceAdd, Nat.reduceSub, List.replicate_zero, List.replicate_succ, List.cons_append, List.nil_append, List.append_nil, List.getElem?_cons_zero, List.getElem?_cons_succ, List.set_cons_zero, List.set_cons_succ, blF, mtF, opF, cmF, f_add, f_sub, f_mul, f_mod, f_fdiv, f_pow, f_lt, f_le, f_gt, f_ge, f_eqi, f_eqs, f_int, f_neg, upd_heap, upd_next, all_heap, all_next, Bool.false_eq_true, if_true, if_false, decide_eq_true_eq, Nat.sub_self]
    have e9 : inF false (.str x) (.ref l) s3 = .ok (.bl (getS (dropS t.L d) x).isSome) s3 := by
      simp [inF, memD, seqOf, lstOf, hl3, dget, dicOf, keyOf, getK_kd]
    simp only [e9, ev, wps_seq, wps_if, wps_ret, wps_nx, wps_fl, wps_expr, wps_set, wps_setT, wps_setI, wps_setF, wps_lks, wp_bool, wp_tru, wp_notM, wp_andM, wp_orM, wp_ifM, wp_op2, wp_op1, wp_arg, wp_cons, wp_nil, wp_lit, wp_mth, wp_meth, wp_mk, wp_pop, wp_get2, wp_lck, wp_v, wp_ok, wps_ok, List.map_cons, List.map_nil, List.length_cons, List.length_nil, Nat.zero_add, Nat.reduceAdd, Nat.reduceSub, List.replicate_zero, List.replicate_succ, List.cons_append, List.nil_append, List.append_nil, List.getElem?_cons_zero, List.getElem?_cons_succ, List.set_cons_zero, List.set_cons_succ, blF, mtF, opF, cmF, f_add, f_sub, f_mul, f_mod, f_fdiv, f_pow, f_lt, f_le, f_gt, f_ge, f_eqi, f_eqs, f_int, f_neg, upd_heap, upd_next, all_heap, all_next, Bool.false_eq_true, if_true, if_false, decide_eq_true_eq, Nat.sub_self]
    by_cases hin : (getS (dropS t.L d) x).isSome = true
    · simp only [hin, ev, wps_seq, wps_if, wps_ret, wps_nx, wps_fl, wps_expr, wps_set, wps_setT, wps_setI, wps_setF, wps_lks, wp_bool, wp_tru, wp_notM, wp_andM, wp_orM, wp_ifM, wp_op2, wp_op1, wp_arg, wp_cons, wp_nil, wp_lit, wp_mth, wp_meth, wp_mk, wp_pop, wp_get2, wp_lck, wp_v, wp_ok, wps_ok, List.map_cons, List.map_nil, List.length_cons, List.length_nil, Nat.zero_add, Nat.reduceAdd, Nat.reduceSub, List.replicate_zero, List.replicate_succ, List.cons_append, List.nil_append, List.append_nil, List.getElem?_cons_zero, List.getElem?_cons_succ, List.set_cons_zero, List.set_cons_succ, blF, mtF, opF, cmF, f_add, f_sub, f_mul, f_mod, f_fdiv, f_pow, f_lt, f_le, f_gt, f_ge, f_eqi, f_eqs, f_int, f_neg, upd_heap, upd_next, all_heap, all_next, Bool.false_eq_true, if_true, if_false, decide_eq_true_eq, Nat.sub_self]
      rw [fld_of ho3 fs_ready]
      have e10 : isLst (.ref r) s3 = true := by simp [isLst, lstOf, hr3]
      have lR : (t.R.map D.str).length < LINE := by rw [line_is, List.length_map]; omega
      have e11 : appF (.ref r) [.str x] s3 = .ok .non (s3.upd r (.lst (t.R.map .str ++ [.str x]))) := by
        simp only [appF, hlOf, hr3, lR, if_true]
      simp only [e10, e11, ev, wps_seq, wps_if, wps_ret, wps_nx, wps_fl, wps_expr, wps_set, wps_setT, wps_setI, wps_setF, wps_lks, wp_bool, wp_tru, wp_notM, wp_andM, wp_orM, wp_ifM, wp_op2, wp_op1, wp_arg, wp_cons, wp_nil, wp_lit, wp_mth, wp_meth, wp_mk, wp_pop, wp_get2, wp_lck, wp_v, wp_ok, wps_ok, List.map_cons, List.map_nil, List.length_cons, List.length_nil, Nat.zero_add, Nat.reduceAdd, Nat.reduceSub, List.replicate_zero, List.replicate_succ, List.cons_append, List.nil_append, List.append_nil, List.getElem?_cons_zero, List.getElem?_cons_succ, List.set_cons_zero, List.set_cons_succ, blF, mtF, opF, cmF, f_add, f_sub, f_mul, f_mod, f_fdiv, f_pow, f_lt, f_le, f_gt, f_ge, f_eqi, f_eqs, f_int, f_neg, upd_heap, upd_next, all_heap, all_next, Bool.false_eq_true, if_true, if_false, decide_eq_true_eq, Nat.sub_self]
      generalize hs4 : s3.upd r (.lst (t.R.map .str ++ [.str x])) = s4
      have g4 : ∀ b, b ≠ r → s4.heap b = s3.heap b := fun b hb => by rw [← hs4, upd_heap, if_neg hb]
      have w4 : s4.Wf := by
        rw [← hs4]
        refine w3.upd (w3.lt hr3) ?_
        have := below_strs s3.next (t.R ++ [x])
        rwa [List.map_append] at this
      have nx4 : s4.next = s.next := by rw [← hs4]; exact nx3
      rw [gc s4 w4 nx4]
      refine hQ _ (at3 s4 w4 nx4 (g4 o n3) (g4 l n6) (g4 p n8) (g4 m (Ne.symm n10)) g4 ?_)
      rw [emk (t.R ++ [x]) (if_pos ⟨rfl, hin⟩), ← hs4, upd_heap, if_pos rfl, List.map_append]
      rfl
    · simp only [hin, ev, wps_seq, wps_if, wps_ret, wps_nx, wps_fl, wps_expr, wps_set, wps_setT, wps_setI, wps_setF, wps_lks, wp_bool, wp_tru, wp_notM, wp_andM, wp_orM, wp_ifM, wp_op2, wp_op1, wp_arg, wp_cons, wp_nil, wp_lit, wp_mth, wp_meth, wp_mk, wp_pop, wp_get2, wp_lck, wp_v, wp_ok, wps_ok, List.map_cons, List.map_nil, List.length_cons, List.length_nil, Nat.zero_add, Nat.reduceAdd, Nat.reduceSub, List.replicate_zero, List.replicate_succ, List.cons_append, List.nil_append, List.append_nil, List.getElem?_cons_zero, List.getElem?_cons_succ, List.set_cons_zero, List.set_cons_succ, blF, mtF, opF, cmF, f_add, f_sub, f_mul, f_mod, f_fdiv, f_pow, f_lt, f_le, f_gt, f_ge, f_eqi, f_eqs, f_int, f_neg, upd_heap, upd_next, all_heap, all_next, Bool.false_eq_true, if_true, if_false, decide_eq_true_eq, Nat.sub_self]
      rw [gc s3 w3 nx3]
      refine hQ _ (at3 s3 w3 nx3 rfl rfl rfl rfl (fun _ _ => rfl) ?_)
      rw [emk t.R (if_neg fun z => hin z.2)]
      exact hr3
  · simp only [hx, ev, wps_seq, wps_if, wps_ret, wps_nx, wps_fl, wps_expr, wps_set, wps_setT, wps_setI, wps_setF, wps_lks, wp_bool, wp_tru, wp_notM, wp_andM, wp_orM, wp_ifM, wp_op2, wp_op1, wp_arg, wp_cons, wp_nil, wp_lit, wp_mth, wp_meth, wp_mk, wp_pop, wp_get2, wp_lck, wp_v, wp_ok, wps_ok, List.map_cons, List.map_nil, List.length_cons, List.length_nil, Nat.zero_add, Nat.reduceAdd, Nat.reduceSub, List.replicate_zero, List.replicate_succ, List.cons_append, List.nil_append, List.append_nil, List.getElem?_cons_zero, List.getElem?_cons_succ, List.set_cons_zero, List.set_cons_succ, blF, mtF, opF, cmF, f_add, f_sub, f_mul, f_mod, f_fdiv, f_pow, f_lt, f_le, f_gt, f_ge, f_eqi, f_eqs, f_int, f_neg, upd_heap, upd_next, all_heap, all_next, Bool.false_eq_true, if_true, if_false, decide_eq_true_eq, Nat.sub_self]
    rw [gc s3 w3 nx3]
    refine hQ _ (at3 s3 w3 nx3 rfl rfl rfl rfl (fun _ _ => rfl) ?_)
    rw [emk t.R (if_neg fun z => hx z.1)]
    exact hr3
end
end Co
namespace Co
open PySem L2
section
variable {s : S} {o l p r m : Nat} {t : Od}
theorem part_gen {F : Nat → List D → S → R D} {G : Nat → D} (hG : G 0 = .str "t") (h : OrdAt s o l p r m t) (hL : t.L ≠ []) (hl : t.L.length ≤ 1000) (hR : t.R.length < 1000) (hM : t.M.length < 1000) (hP : t.P.length < 1000) {Q : D → S → Prop} {E : XP}
    (hQ : ∀ s', OrdTo s o l p r m s' t.part → Q .non s') : wp (callB 1 2 (ev F G ordPartC).s [.ref o] s) Q E := by
  obtain ⟨n1, n2, n3, n4, n5, n6, n7, n8, n9, n10⟩ := h.ne
  obtain ⟨d, src, L', eL⟩ : ∃ d src L', t.L = (d, src) :: L' := by
    cases e : t.L with
    | nil => exact absurd e hL
    | cons q L' => exact ⟨q.1, q.2, L', rfl⟩
  refine wp_callB rfl ?_
  simp only [ordPartC, ev, wps_seq, wps_if, wps_ret, wps_nx, wps_fl, wps_expr, wps_set, wps_setT, wps_setI, wps_setF, wps_lks, wp_bool, wp_tru, wp_notM, wp_andM, wp_orM, wp_ifM, wp_op2, wp_op1, wp_arg, wp_cons, wp_nil, wp_lit, wp_mth, wp_meth, wp_mk, wp_pop, wp_get2, wp_lck, wp_v, wp_ok, wps_ok, List.map_cons, List.map_nil, List.length_cons, List.length_nil, Nat.zero_add, Nat.reduceAdd, Nat.reduceSub, List.replicate_zero, List.replicate_succ, List.cons_append, List.nil_append, List.append_nil, List.getElem?_cons_zero, List.getElem?_cons_succ, List.set_cons_zero, List.set_cons_succ, blF, mtF, opF, cmF, f_add, f_sub, f_mul, f_mod, f_fdiv, f_pow, f_lt, f_le, f_gt, f_ge, f_eqi, f_eqs, f_int, f_neg, upd_heap, upd_next, all_heap, all_next, Bool.false_eq_true, if_true, if_false, decide_eq_true_eq, Nat.sub_self]
  rw [fld_of h.ho fs_left]
  simp only [ev, wps_seq, wps_if, wps_ret, wps_nx, wps_fl, wps_expr, wps_set, wps_setT, wps_setI, wps_setF, wps_lks, wp_bool, wp_tru, wp_notM, wp_andM, wp_orM, wp_ifM, wp_op2, wp_op1, wp_arg, wp_cons, wp_nil, wp_lit, wp_mth, wp_meth, wp_mk, wp_pop, wp_get2, wp_lck, wp_v, wp_ok, wps_ok, List.map_cons, List.map_nil, List.length_cons, List.length_nil, Nat.zero_add, Nat.reduceAdd, Nat.reduceSub, List.replicate_zero, List.replicate_succ, List.cons_append, List.nil_append, List.append_nil, List.getElem?_cons_zero, List.getElem?_cons_succ, List.set_cons_zero, List.set_cons_succ, blF, mtF, opF, cmF, f_add, f_sub, f_mul, f_mod, f_fdiv, f_pow, f_lt, f_le, f_gt, f_ge, f_eqi, f_eqs, f_int, f_neg, upd_heap, upd_next, all_heap, all_next, Bool.false_eq_true, if_true, if_false, decide_eq_true_eq, Nat.sub_self]
  have e1 : lstB false [.ref l] s = .ok (.lv (keysD (kd t.L))) s := by
    have : (keysD (kd t.L)).length ≤ LINE := by rw [line_is]; unfold keysD kd; rw [List.length_map, List.length_map]; omega
    simp [lstB, seqOf, lstOf, h.hl, dKOf, mkL, this]
  have e2 : ixF (.lv (keysD (kd t.L))) (.int 0) s = .ok (.str d) s := by
    rw [eL]
    simp [ixF, seqOf, lstOf, atI, ixN, keysD, kd, dOfKey]
  simp only [e1, e2, ev, wps_seq, wps_if, wps_ret, wps_nx, wps_fl, wps_expr, wps_set, wps_setT, wps_setI, wps_setF, wps_lks, wp_bool, wp_tru, wp_notM, wp_andM, wp_orM, wp_ifM, wp_op2, wp_op1, wp_arg, wp_cons, wp_nil, wp_lit, wp_mth, wp_meth, wp_mk, wp_pop, wp_get2, wp_lck, wp_v, wp_ok, wps_ok, List.map_cons, List.map_nil, List.length_cons, List.length_nil, Nat.zero_add, Nat.reduceAdd, Nat.reduceSub, List.replicate_zero, List.replicate_succ, List.cons_append, List.nil_append, List.append_nil, List.getElem?_cons_zero, List.getElem?_cons_succ, List.set_cons_zero, List.set_cons_succ, blF, mtF, opF, cmF, f_add, f_sub, f_mul, f_mod, f_fdiv, f_pow, f_lt, f_le, f_gt, f_ge, f_eqi, f_eqs, f_int, f_neg, upd_heap, upd_next, all_heap, all_next, Bool.false_eq_true, if_true, if_false, decide_eq_true_eq, Nat.sub_self]
  rw [fld_of h.ho fs_made]
  have e5 : isLst (.ref m) s = true := by simp [isLst, lstOf, h.hm]
  have e6 : mkT [G 0, .str d] s = .ok (mv (("t" : Str), d)) s := by
    unfold mkT
    rw [if_pos (by rw [line_is]; simp), hG]
    rfl
  have lM : (t.M.map mv).length < LINE := by rw [line_is, List.length_map]; omega
  have e7 : appF (.ref m) [mv (("t" : Str), d)] s = .ok .non (s.upd m (.lst (t.M.map mv ++ [mv (("t" : Str), d)]))) := by
    simp only [appF, hlOf, h.hm, lM, if_true]
  simp only [e5, e6, e7, ev, wps_seq, wps_if, wps_ret, wps_nx, wps_fl, wps_expr, wps_set, wps_setT, wps_setI, wps_setF, wps_lks, wp_bool, wp_tru, wp_notM, wp_andM, wp_orM, wp_ifM, wp_op2, wp_op1, wp_arg, wp_cons, wp_nil, wp_lit, wp_mth, wp_meth, wp_mk, wp_pop, wp_get2, wp_lck, wp_v, wp_ok, wps_ok, List.map_cons, List.map_nil, List.length_cons, List.length_nil, Nat.zero_add, Nat.reduceAdd, Nat.reduceSub, List.replicate_zero, List.replicate_succ, List.cons_append, List.nil_append, List.append_nil, List.getElem?_cons_zero, List.getElem?_cons_succ, List.set_cons_zero, List.set_cons_succ, blF, mtF, opF, cmF, f_add, f_sub, f_mul, f_mod, f_fdiv, f_pow, f_lt, f_le, f_gt, f_ge, f_eqi, f_eqs, f_int, f_neg, upd_heap, upd_next, all_heap, all_next, Bool.false_eq_true, if_true, if_false, decide_eq_true_eq, Nat.sub_self]
  generalize hs2 : s.upd m (.lst (t.M.map mv ++ [mv (("t" : Str), d)])) = s2
  have g2 : ∀ b, b ≠ m → s2.heap b = s.heap b := fun b hb => by rw [← hs2, upd_heap, if_neg hb]
  have gm : s2.heap m = some (.lst (t.M.map mv ++ [mv (("t" : Str), d)])) := by rw [← hs2, upd_heap, if_pos rfl]
  rw [fld_of ((g2 o n4).trans h.ho) fs_present]
  simp only [ev, wps_seq, wps_if, wps_ret, wps_nx, wps_fl, wps_expr, wps_set, wps_setT, wps_setI, wps_setF, wps_lks, wp_bool, wp_tru, wp_notM, wp_andM, wp_orM, wp_ifM, wp_op2, wp_op1, wp_arg, wp_cons, wp_nil, wp_lit, wp_mth, wp_meth, wp_mk, wp_pop, wp_get2, wp_lck, wp_v, wp_ok, wps_ok, List.map_cons, List.map_nil, List.length_cons, List.length_nil, Nat.zero_add, Nat.reduceAdd, Nat.reduceSub, List.replicate_zero, List.replicate_succ, List.cons_append, List.nil_append, List.append_nil, List.getElem?_cons_zero, List.getElem?_cons_succ, List.set_cons_zero, List.set_cons_succ, blF, mtF, opF, cmF, f_add, f_sub, f_mul, f_mod, f_fdiv, f_pow, f_lt, f_le, f_gt, f_ge, f_eqi, f_eqs, f_int, f_neg, upd_heap, upd_next, all_heap, all_next, Bool.false_eq_true, if_true, if_false, decide_eq_true_eq, Nat.sub_self]
  have hp2 := (g2 p n9).trans h.hp
  have lP : (kd t.P).length < LINE := by rw [line_is]; unfold kd; rw [List.length_map]; omega
  have e8 : Co.putF (.ref p) (.str d) (G 0) s2 = some (s2.upd p (.dK (kd (putS t.P d "t")))) := by
    simp only [hG, Co.putF, hp2, keyOf, lP, if_true, putD_kd]
  simp only [e8, ev, wps_seq, wps_if, wps_ret, wps_nx, wps_fl, wps_expr, wps_set, wps_setT, wps_setI, wps_setF, wps_lks, wp_bool, wp_tru, wp_notM, wp_andM, wp_orM, wp_ifM, wp_op2, wp_op1, wp_arg, wp_cons, wp_nil, wp_lit, wp_mth, wp_meth, wp_mk, wp_pop, wp_get2, wp_lck, wp_v, wp_ok, wps_ok, List.map_cons, List.map_nil, List.length_cons, List.length_nil, Nat.zero_add, Nat.reduceAdd, Nat.reduceSub, List.replicate_zero, List.replicate_succ, List.cons_append, List.nil_append, List.append_nil, List.getElem?_cons_zero, List.getElem?_cons_succ, List.set_cons_zero, List.set_cons_succ, blF, mtF, opF, cmF, f_add, f_sub, f_mul, f_mod, f_fdiv, f_pow, f_lt, f_le, f_gt, f_ge, f_eqi, f_eqs, f_int, f_neg, upd_heap, upd_next, all_heap, all_next, Bool.false_eq_true, if_true, if_false, decide_eq_true_eq, Nat.sub_self]
  generalize hs3 : s2.upd p (.dK (kd (putS t.P d "t"))) = s3
  have g3 : ∀ b, b ≠ p → s3.heap b = s2.heap b := fun b hb => by rw [← hs3, upd_heap, if_neg hb]
  have gp : s3.heap p = some (.dK (kd (putS t.P d "t"))) := by rw [← hs3, upd_heap, if_pos rfl]
  have ho3 := ((g3 o n2).trans (g2 o n4)).trans h.ho
  have hl3 := ((g3 l n5).trans (g2 l n7)).trans h.hl
  have hr3 := ((g3 r (Ne.symm n8)).trans (g2 r n10)).trans h.hr
  have hm3 := (g3 m (Ne.symm n9)).trans gm
  have nx3 : s3.next = s.next := by rw [← hs3, ← hs2]; rfl
  have w2 : s2.Wf := by
    rw [← hs2]
    refine h.wf.upd (h.wf.lt h.hm) ?_
    have := below_mvs s.next (t.M ++ [(("t" : Str), d)])
    rwa [List.map_append] at this
  have w3 : s3.Wf := by rw [← hs3]; exact w2.upd (w2.lt hp2) (below_kd _ _)
  rw [fld_of ho3 fs_ready]
  have e10 : isLst (.ref r) s3 = true := by simp [isLst, lstOf, hr3]
  have lR : (t.R.map D.str).length < LINE := by rw [line_is, List.length_map]; omega
  have e11 : appF (.ref r) [.str d] s3 = .ok .non (s3.upd r (.lst (t.R.map .str ++ [.str d]))) := by
    simp only [appF, hlOf, hr3, lR, if_true]
  simp only [e10, e11, ev, wps_seq, wps_if, wps_ret, wps_nx, wps_fl, wps_expr, wps_set, wps_setT, wps_setI, wps_setF, wps_lks, wp_bool, wp_tru, wp_notM, wp_andM, wp_orM, wp_ifM, wp_op2, wp_op1, wp_arg, wp_cons, wp_nil, wp_lit, wp_mth, wp_meth, wp_mk, wp_pop, wp_get2, wp_lck, wp_v, wp_ok, wps_ok, List.map_cons, List.map_nil, List.length_cons, List.length_nil, Nat.zero_add, Nat.reduceAdd, Nat.reduceSub, List.replicate_zero, List.replicate_succ, List.cons_append, List.nil_append, List.append_nil, List.getElem?_cons_zero, List.getElem?_cons_succ, List.set_cons_zero, List.set_cons_succ, blF, mtF, opF, cmF, f_add, f_sub, f_mul, f_mod, f_fdiv, f_pow, f_lt, f_le, f_gt, f_ge, f_eqi, f_eqs, f_int, f_neg, upd_heap, upd_next, all_heap, all_next, Bool.false_eq_true, if_true, if_false, decide_eq_true_eq, Nat.sub_self]
  generalize hs4 : s3.upd r (.lst (t.R.map .str ++ [.str d])) = s4
  have g4 : ∀ b, b ≠ r → s4.heap b = s3.heap b := fun b hb => by rw [← hs4, upd_heap, if_neg hb]
  have w4 : s4.Wf := by
    rw [← hs4]
    refine w3.upd (w3.lt hr3) ?_
    have := below_strs s3.next (t.R ++ [d])
    rwa [List.map_append] at this
  have nx4 : s4.next = s.next := by rw [← hs4]; exact nx3
  rw [gc_wf nx4 w4]
  have ep : t.part = ⟨t.L, putS t.P d "t", t.R ++ [d], t.M ++ [(("t" : Str), d)]⟩ := by unfold Od.part; rw [eL]
  refine hQ _ ?_
  rw [ep]
  refine ⟨⟨w4, (g4 o n3).trans ho3, (g4 l n6).trans hl3, (g4 p n8).trans gp, ?_, (g4 m (Ne.symm n10)).trans (by rw [hm3, List.map_append]; rfl), h.ne, ?_⟩, nx4, fun b b1 b2 b3 b4 => ((g4 b b3).trans (g3 b b2)).trans (g2 b b4)⟩
  · rw [← hs4, upd_heap, if_pos rfl, List.map_append]; rfl
  · refine ⟨?_, ?_, ?_⟩
    · have := putS_len (p := t.P) (k := d) (v := "t"); show (putS t.P d "t").length ≤ 1000; omega
    · show (t.R ++ [d]).length ≤ 1000
      rw [List.length_append]; show t.R.length + 1 ≤ 1000; omega
    · show (t.M ++ [(("t" : Str), d)]).length ≤ 1000
      rw [List.length_append]; show t.M.length + 1 ≤ 1000; omega
end
end Co
namespace Co
open PySem L2
/-! ### the theory of ordered moves: pairs, what may be made, what is kept -/
section
variable {p : Prs} {k k' v : Str}
theorem getS_mem (h : getS p k = some v) : (k, v) ∈ p := by
  unfold getS at h
  obtain ⟨q, hq, rfl⟩ := Option.map_eq_some_iff.mp h
  have := List.find?_some hq
  have e : q.1 = k := of_decide_eq_true this
  subst e
  exact List.mem_of_find?_eq_some hq
theorem mem_getS : ∀ {p : Prs} (_ : (p.map (·.1)).Nodup) (_ : (k, v) ∈ p), getS p k = some v
  | (a, b) :: p, n, h => by
    unfold getS
    rw [List.find?_cons]
    by_cases e : a = k
    · simp only [e, decide_true]
      rcases List.mem_cons.mp h with z | z
      · cases z; rfl
      · exfalso
        rw [List.map_cons, List.nodup_cons] at n
        exact n.1 (e ▸ List.mem_map.mpr ⟨_, z, rfl⟩)
    · simp only [e, decide_false]
      rw [List.map_cons, List.nodup_cons] at n
      rcases List.mem_cons.mp h with z | z
      · cases z; exact absurd rfl e
      · exact mem_getS n.2 z
theorem getS_none : getS p k = none ↔ ∀ q ∈ p, q.1 ≠ k := by
  unfold getS
  rw [Option.map_eq_none_iff, List.find?_eq_none]
  exact ⟨fun h q hq e => h q hq (decide_eq_true e), fun h q hq e => h q hq (of_decide_eq_true e)⟩
theorem getS_some_of (h : ∃ q ∈ p, q.1 = k) : ∃ v, getS p k = some v := by
  cases e : getS p k with
  | some v => exact ⟨v, rfl⟩
  | none =>
    obtain ⟨q, hq, z⟩ := h
    exact absurd z (getS_none.mp e q hq)
theorem mem_drop {q : Str × Str} : q ∈ dropS p k ↔ q ∈ p ∧ q.1 ≠ k := by
  unfold dropS
  rw [List.mem_filter, decide_eq_true_eq]
theorem getS_drop : getS (dropS p k) k' = if k' = k then none else getS p k' := by
  by_cases e : k' = k
  · rw [if_pos e, getS_none]
    intro q hq z
    exact (mem_drop.mp hq).2 (z.trans e)
  · rw [if_neg e]
    unfold getS dropS
    rw [List.find?_filter]
    congr 2
    funext q
    by_cases z : q.1 = k'
    · simp [z, e]
    · simp [z]
theorem getS_append {p p' : Prs} : getS (p ++ p') k = (getS p k).or (getS p' k) := by
  unfold getS
  rw [List.find?_append]
  cases p.find? fun q => decide (q.1 = k) <;> rfl
theorem getS_put : getS (putS p k v) k' = if k' = k then some v else getS p k' := by
  unfold putS
  by_cases h : (p.any fun q => decide (q.1 = k)) = true
  · rw [if_pos h]
    obtain ⟨q0, hq0, e0⟩ := List.any_eq_true.mp h
    by_cases e : k' = k
    · subst e
      rw [if_pos rfl]
      clear h
      induction p with
      | nil => cases hq0
      | cons q p ih =>
        unfold getS
        rw [List.map_cons, List.find?_cons]
        by_cases z : q.1 = k'
        · simp [z]
        · simp only [z, if_false, decide_false]
          rcases List.mem_cons.mp hq0 with y | y
          · subst y; exact absurd (of_decide_eq_true e0) z
          · exact ih y
    · rw [if_neg e]
      clear h hq0
      induction p with
      | nil => rfl
      | cons q p ih =>
        unfold getS at ih ⊢
        rw [List.map_cons, List.find?_cons, List.find?_cons]
        by_cases z : q.1 = k
        · have z' : ¬ q.1 = k' := fun y => e (y.symm.trans z)
          have z2 : ¬ k = k' := fun y => e y.symm
          simp only [z, if_true, z2, decide_false]
          exact ih
        · simp only [z, if_false]
          by_cases y : q.1 = k'
          · simp [y]
          · simp only [y, decide_false]; exact ih
  · rw [if_neg h, getS_append]
    have hn : getS p k = none := getS_none.mpr fun q hq z => h (List.any_eq_true.mpr ⟨q, hq, decide_eq_true z⟩)
    by_cases e : k' = k
    · subst e
      rw [if_pos rfl, hn]
      simp [getS]
    · rw [if_neg e]
      have : getS [(k, v)] k' = none := getS_none.mpr fun q hq z => e (by rw [List.mem_singleton.mp hq] at z; exact z.symm)
      rw [this]
      cases getS p k' <;> rfl
theorem drop_nodup (h : (p.map (·.1)).Nodup) : ((dropS p k).map (·.1)).Nodup := h.sublist (List.filter_sublist.map _)
theorem drop_len : ∀ {p : Prs} (_ : (p.map (·.1)).Nodup) (_ : getS p k = some v), (dropS p k).length + 1 = p.length
  | [], _, h => by cases h
  | (a, b) :: p, n, h => by
    rw [List.map_cons, List.nodup_cons] at n
    unfold dropS
    by_cases e : a = k
    · subst e
      have : p.filter (fun q => decide (q.1 ≠ a)) = p := List.filter_eq_self.mpr fun q hq => decide_eq_true fun z => n.1 (z ▸ List.mem_map.mpr ⟨_, hq, rfl⟩)
      rw [List.filter_cons, if_neg (by simp), this, List.length_cons]
    · have h' : getS p k = some v := by
        unfold getS at h ⊢
        rw [List.find?_cons] at h
        simpa [e] using h
      have := drop_len n.2 h'
      unfold dropS at this
      rw [List.filter_cons, if_pos (by simpa using e), List.length_cons, List.length_cons]
      omega
end
/-- n names amid n values: each value is a name, and none comes twice -/
theorem pigeon : ∀ (K V : List Str), K.Nodup → (∀ k ∈ K, k ∈ V) → V.length ≤ K.length → V.Nodup ∧ ∀ v ∈ V, v ∈ K
  | [], V, _, _, h => by
    have : V = [] := List.eq_nil_of_length_eq_zero (by simpa using h)
    subst this
    exact ⟨List.nodup_nil, fun v hv => hv⟩
  | k :: K, V, n, h, l => by
    rw [List.nodup_cons] at n
    have hk := h k List.mem_cons_self
    obtain ⟨n1, n2⟩ := pigeon K (V.erase k) n.2 (fun x hx => (List.mem_erase_of_ne fun e : x = k => n.1 (e ▸ hx)).mpr (h x (List.mem_cons_of_mem _ hx))) (by
      rw [List.length_erase_of_mem hk]; rw [List.length_cons] at l; omega)
    have pm := List.perm_cons_erase hk
    refine ⟨pm.symm.nodup (List.nodup_cons.mpr ⟨fun z => n.1 (n2 _ z), n1⟩), fun v hv => ?_⟩
    rcases List.mem_cons.mp (pm.mem_iff.mp hv) with z | z
    · exact z ▸ List.mem_cons_self
    · exact List.mem_cons_of_mem _ (n2 v z)
/-- a state that may go on -/
structure Good (t : Od) : Prop where
  kn : (t.L.map (·.1)).Nodup
  rk : ∀ r ∈ t.R, ∃ s, getS t.L r = some s
  rn : t.R.Nodup
  pd : ∀ q ∈ t.L, ∃ x, getS t.P q.2 = some x
  rb : ∀ r ∈ t.R, ∀ q ∈ t.L, q.2 = r → getS t.P r ≠ some r
  ne : ∀ q ∈ t.L, q.1 ≠ q.2
  nt : ∀ q ∈ t.L, q.1 ≠ "t"
  ra : ∀ q ∈ t.L, q.1 ∉ t.R → (∃ q' ∈ t.L, q'.2 = q.1) ∧ getS t.P q.1 = some q.1
  pc : ∀ q ∈ t.L, ∀ x, getS t.P q.2 = some x → x ≠ q.2 → ∀ q' ∈ t.L, q'.1 ≠ x
def Od.pop (t : Od) : Od := match t.R with
  | [] => t
  | d :: R => (⟨t.L, t.P, R, t.M⟩ : Od).make d
def Od.mid (t : Od) : Od := if t.R = [] then t.part else t
def Od.step (t : Od) : Od := t.mid.pop
def Od.run : Nat → Od → Od
  | 0, t => t
  | n + 1, t => if t.L = [] then t else t.step.run n
/-- what one move makes of a good state -/
structure Made (t : Od) (d src x : Str) (R' : List Str) (t' : Od) : Prop where
  hR : t.R = d :: R'
  hs : getS t.L d = some src
  hx : getS t.P src = some x
  eq : t' = ⟨dropS t.L d, putS t.P src d, if x = src ∧ (getS (dropS t.L d) src).isSome = true then R' ++ [src] else R', t.M ++ [(d, x)]⟩
theorem Good.pop {t : Od} (g : Good t) (hR : t.R ≠ []) : ∃ d src x R', Made t d src x R' t.pop := by
  cases e : t.R with
  | nil => exact absurd e hR
  | cons d R' =>
    obtain ⟨src, hs⟩ := g.rk d (by rw [e]; exact List.mem_cons_self)
    obtain ⟨x, hx⟩ := g.pd _ (getS_mem hs)
    refine ⟨d, src, x, R', e, hs, hx, ?_⟩
    unfold Od.pop
    rw [e]
    simp only [Od.make, hs, hx]
theorem Good.made {t t' : Od} (g : Good t) {d src x : Str} {R' : List Str} (m : Made t d src x R' t') : Good t' := by
  obtain ⟨hR, hs, hx, rfl⟩ := m
  have mS := getS_mem hs
  have dne : d ≠ src := g.ne _ mS
  have rn := g.rn
  rw [hR, List.nodup_cons] at rn
  have sub : ∀ q ∈ dropS t.L d, q ∈ t.L ∧ q.1 ≠ d := fun q h => mem_drop.mp h
  have dR : d ∈ t.R := by rw [hR]; exact List.mem_cons_self
  have up : ∀ r ∈ R', r ∈ t.R := fun r h => by rw [hR]; exact List.mem_cons_of_mem _ h
  -- the source is not amid the ready, where it is at home
  have nsrc : x = src → src ∉ t.R := fun e z => g.rb src z _ mS rfl (by rw [hx, e])
  have memR : ∀ r, r ∈ (if x = src ∧ (getS (dropS t.L d) src).isSome = true then R' ++ [src] else R') → r ∈ R' ∨ (r = src ∧ x = src ∧ (getS (dropS t.L d) src).isSome = true) := by
    intro r h
    split at h
    · rename_i c
      rcases List.mem_append.mp h with z | z
      · exact .inl z
      · exact .inr ⟨List.mem_singleton.mp z, c⟩
    · exact .inl h
  refine ⟨drop_nodup g.kn, fun r h => ?_, ?_, fun q h => ?_, fun r h q hq e => ?_, fun q h => g.ne q (sub q h).1, fun q h => g.nt q (sub q h).1, fun q h hn => ?_, fun q h y hy hne q' hq' => ?_⟩
  · rcases memR r h with z | ⟨rfl, _, c⟩
    · obtain ⟨s, es⟩ := g.rk r (up r z)
      exact ⟨s, by show getS (dropS t.L d) r = some s; rw [getS_drop, if_neg fun e => rn.1 (by rw [← e]; exact z)]; exact es⟩
    · exact Option.isSome_iff_exists.mp c
  · show (if x = src ∧ (getS (dropS t.L d) src).isSome = true then R' ++ [src] else R').Nodup
    split
    · rename_i c
      rw [List.nodup_append]
      refine ⟨rn.2, List.nodup_cons.mpr ⟨by simp, List.nodup_nil⟩, fun a ha b hb e => ?_⟩
      rw [List.mem_singleton] at hb
      exact nsrc c.1 (up _ (by rw [← hb, ← e]; exact ha))
    · exact rn.2
  · obtain ⟨y, hy⟩ := g.pd q (sub q h).1
    show ∃ x, getS (putS t.P src d) q.2 = some x
    rw [getS_put]
    split
    · exact ⟨_, rfl⟩
    · exact ⟨y, hy⟩
  · show getS (putS t.P src d) r ≠ some r
    rw [getS_put]
    split
    · rename_i c
      rw [c]
      exact fun z => dne (Option.some.inj z)
    · rename_i c
      rcases memR r h with z | ⟨z, _⟩
      · exact g.rb r (up r z) q (sub q hq).1 e
      · exact absurd z c
  · obtain ⟨hq, hqd⟩ := sub q h
    have hnR : q.1 ∉ t.R := fun z => by
      rw [hR] at z
      rcases List.mem_cons.mp z with z | z
      · exact hqd z
      · refine hn ?_
        show q.1 ∈ (if x = src ∧ (getS (dropS t.L d) src).isSome = true then R' ++ [src] else R')
        split
        · exact List.mem_append_left _ z
        · exact z
    obtain ⟨⟨q', hq', e'⟩, hP⟩ := g.ra q hq hnR
    have ns : q.1 ≠ src := fun e => by
      have ex : x = src := by rw [e, hx] at hP; exact Option.some.inj hP
      refine hn ?_
      show q.1 ∈ (if x = src ∧ (getS (dropS t.L d) src).isSome = true then R' ++ [src] else R')
      rw [if_pos ⟨ex, by
        obtain ⟨v, hv⟩ := getS_some_of (p := dropS t.L d) (k := src) ⟨q, h, e⟩
        rw [hv]; rfl⟩, e]
      exact List.mem_append_right _ (List.mem_singleton.mpr rfl)
    refine ⟨⟨q', mem_drop.mpr ⟨hq', fun z => ?_⟩, e'⟩, ?_⟩
    · have e2 : getS t.L q'.1 = some q'.2 := mem_getS g.kn hq'
      rw [z, hs] at e2
      exact ns (e'.symm.trans (Option.some.inj e2).symm)
    · show getS (putS t.P src d) q.1 = some q.1
      rw [getS_put, if_neg ns]
      exact hP
  · obtain ⟨hq, _⟩ := sub q h
    have hy : getS (putS t.P src d) q.2 = some y := hy
    rw [getS_put] at hy
    split at hy
    · cases hy
      exact (sub q' hq').2
    · exact g.pc q hq y hy hne q' (sub q' hq').1
/-- none ready: what is left only rotates -/
theorem Good.perm {t : Od} (g : Good t) (hR : t.R = []) : (t.L.map (·.2)).Nodup ∧ (∀ q ∈ t.L, ∃ q' ∈ t.L, q'.1 = q.2) ∧ (∀ q ∈ t.L, ∃ q' ∈ t.L, q'.2 = q.1) ∧ ∀ q ∈ t.L, getS t.P q.2 = some q.2 := by
  have a := fun q (h : q ∈ t.L) => g.ra q h (by rw [hR]; simp)
  obtain ⟨n, i⟩ := pigeon (t.L.map (·.1)) (t.L.map (·.2)) g.kn (fun k hk => by
    obtain ⟨q, hq, rfl⟩ := List.mem_map.mp hk
    obtain ⟨⟨q', h1, h2⟩, _⟩ := a q hq
    exact List.mem_map.mpr ⟨q', h1, h2⟩) (by rw [List.length_map, List.length_map]; exact Nat.le_refl _)
  have b : ∀ q ∈ t.L, ∃ q' ∈ t.L, q'.1 = q.2 := fun q h => List.mem_map.mp (i q.2 (List.mem_map.mpr ⟨q, h, rfl⟩))
  refine ⟨n, b, fun q h => (a q h).1, fun q h => ?_⟩
  obtain ⟨q', h1, h2⟩ := b q h
  rw [← h2]
  exact (a q' h1).2
theorem Good.part {t : Od} (g : Good t) (hR : t.R = []) {d src : Str} {L' : Prs} (hL : t.L = (d, src) :: L') : t.part = ⟨t.L, putS t.P d "t", [d], t.M ++ [(("t" : Str), d)]⟩ ∧ Good t.part := by
  have e : t.part = ⟨t.L, putS t.P d "t", [d], t.M ++ [(("t" : Str), d)]⟩ := by
    unfold Od.part
    rw [hL, hR]
    rfl
  have m : (d, src) ∈ t.L := by rw [hL]; exact List.mem_cons_self
  have dt : d ≠ "t" := g.nt _ m
  obtain ⟨_, _, _, at_⟩ := g.perm hR
  refine ⟨e, ?_⟩
  rw [e]
  refine ⟨g.kn, fun r h => ?_, List.nodup_cons.mpr ⟨by simp, List.nodup_nil⟩, fun q h => ?_, fun r h q hq e => ?_, g.ne, g.nt, fun q h hn => ?_, fun q h y hy hne q' hq' => ?_⟩
  · rw [List.mem_singleton.mp h]
    exact ⟨src, mem_getS g.kn m⟩
  · show ∃ x, getS (putS t.P d "t") q.2 = some x
    rw [getS_put]
    split
    · exact ⟨_, rfl⟩
    · exact g.pd q h
  · rw [List.mem_singleton.mp h]
    show getS (putS t.P d "t") d ≠ some d
    rw [getS_put, if_pos rfl]
    exact fun z => dt (Option.some.inj z).symm
  · have qd : q.1 ≠ d := fun z => hn (by rw [z]; exact List.mem_singleton.mpr rfl)
    obtain ⟨h1, h2⟩ := g.ra q h (by rw [hR]; simp)
    refine ⟨h1, ?_⟩
    show getS (putS t.P d "t") q.1 = some q.1
    rw [getS_put, if_neg qd]
    exact h2
  · have hy : getS (putS t.P d "t") q.2 = some y := hy
    rw [getS_put] at hy
    split at hy
    · cases hy
      exact g.nt q' hq'
    · exact absurd (Option.some.inj ((at_ q h).symm.trans hy)).symm hne
/-! ### what the places hold -/
def putC {β : Type} (c : Str → β) (q : Str × Str) : Str → β := fun y => if y = q.1 then c q.2 else c y
def conts {β : Type} (f : Str → β) (m : Prs) : Str → β := m.foldl putC f
theorem conts_snoc {β : Type} {f : Str → β} {m : Prs} {q : Str × Str} : conts f (m ++ [q]) = putC (conts f m) q := by
  unfold conts
  rw [List.foldl_append]
  rfl
structure Holds {β : Type} (f : Str → β) (L0 : Prs) (t : Od) : Prop where
  i1 : ∀ q ∈ t.L, ∀ x, getS t.P q.2 = some x → conts f t.M x = f q.2
  i2 : ∀ q ∈ t.L, conts f t.M q.1 = f q.1
  i3 : ∀ d : Str, d ≠ "t" → getS t.L d = none → conts f t.M d = f ((getS L0 d).getD d)
  sub : ∀ q ∈ t.L, getS L0 q.1 = some q.2
theorem Holds.made {β : Type} {f : Str → β} {L0 : Prs} {t t' : Od} (g : Good t) (h : Holds f L0 t) {d src x : Str} {R' : List Str} (m : Made t d src x R' t') : Holds f L0 t' := by
  obtain ⟨hR, hs, hx, rfl⟩ := m
  have mS := getS_mem hs
  have sub : ∀ q ∈ dropS t.L d, q ∈ t.L ∧ q.1 ≠ d := fun q h => mem_drop.mp h
  have dR : d ∈ t.R := by rw [hR]; exact List.mem_cons_self
  have cx : conts f t.M x = f src := h.i1 _ mS x hx
  refine ⟨fun q hq y hy => ?_, fun q hq => ?_, fun e he hn => ?_, fun q hq => h.sub q (sub q hq).1⟩
  · replace hq := (sub q hq).1
    replace hy : getS (putS t.P src d) q.2 = some y := hy
    show conts f (t.M ++ [(d, x)]) y = f q.2
    rw [conts_snoc]
    unfold putC
    rw [getS_put] at hy
    split at hy
    · rename_i c
      cases hy
      rw [if_pos rfl, c]
      exact cx
    · have yd : y ≠ d := fun z => by
        subst z
        by_cases c : y = q.2
        · exact g.rb y dR q hq c.symm (by rw [c] at hy ⊢; exact hy)
        · exact g.pc q hq y hy c _ mS rfl
      rw [if_neg yd]
      exact h.i1 q hq y hy
  · show conts f (t.M ++ [(d, x)]) q.1 = f q.1
    rw [conts_snoc]
    unfold putC
    rw [if_neg (sub q hq).2]
    exact h.i2 q (sub q hq).1
  · show conts f (t.M ++ [(d, x)]) e = _
    rw [conts_snoc]
    unfold putC
    by_cases c : e = d
    · subst c
      rw [if_pos rfl, h.sub _ mS]
      exact cx
    · rw [if_neg c]
      refine h.i3 e he ?_
      have hn : getS (dropS t.L d) e = none := hn
      rwa [getS_drop, if_neg c] at hn
theorem Holds.part {β : Type} {f : Str → β} {L0 : Prs} {t : Od} (g : Good t) (h : Holds f L0 t) (hR : t.R = []) {d src : Str} {L' : Prs} (hL : t.L = (d, src) :: L') : Holds f L0 t.part := by
  rw [(g.part hR hL).1]
  have m : (d, src) ∈ t.L := by rw [hL]; exact List.mem_cons_self
  obtain ⟨nd, b, _, at_⟩ := g.perm hR
  refine ⟨fun q hq y hy => ?_, fun q hq => ?_, fun e he hn => ?_, h.sub⟩
  · have hy : getS (putS t.P d "t") q.2 = some y := hy
    show conts f (t.M ++ [(("t" : Str), d)]) y = f q.2
    rw [conts_snoc]
    unfold putC
    rw [getS_put] at hy
    split at hy
    · rename_i c
      cases hy
      rw [if_pos rfl, c]
      exact h.i2 _ m
    · have e := Option.some.inj ((at_ q hq).symm.trans hy)
      obtain ⟨q', hq', e'⟩ := b q hq
      rw [if_neg (by rw [← e, ← e']; exact g.nt q' hq')]
      exact h.i1 q hq y hy
  · show conts f (t.M ++ [(("t" : Str), d)]) q.1 = f q.1
    rw [conts_snoc]
    unfold putC
    rw [if_neg (g.nt q hq)]
    exact h.i2 q hq
  · show conts f (t.M ++ [(("t" : Str), d)]) e = _
    rw [conts_snoc]
    unfold putC
    rw [if_neg he]
    exact h.i3 e he hn
end Co
namespace Co
open PySem L2
/-! ### rings of moves, how many parts there are -/
def growS (L : Prs) : Nat → List Str → List Str
  | 0, C => C
  | n + 1, C => match C.getLast? with
    | none => C
    | some e => match getS L e with
      | none => C
      | some y => if y ∉ C ∧ C.length < 12 then growS L n (C ++ [y]) else C
inductive Ch (L : Prs) (k : Str) : List Str → Str → Prop
  | one : Ch L k [k] k
  | snoc {C : List Str} {e y : Str} : Ch L k C e → getS L e = some y → y ∉ C → Ch L k (C ++ [y]) y
section
variable {L : Prs} {k : Str}
theorem Ch.last {C : List Str} {e : Str} (h : Ch L k C e) : C.getLast? = some e := by
  cases h with
  | one => rfl
  | snoc h1 h2 h3 => rw [List.getLast?_append]; rfl
theorem Ch.mem {C : List Str} {e : Str} (h : Ch L k C e) : e ∈ C := List.mem_of_getLast? h.last
theorem Ch.first {C : List Str} {e : Str} (h : Ch L k C e) : k ∈ C := by
  induction h with
  | one => exact List.mem_singleton.mpr rfl
  | snoc _ _ _ ih => exact List.mem_append_left _ ih
theorem Ch.nodup {C : List Str} {e : Str} (h : Ch L k C e) : C.Nodup := by
  induction h with
  | one => exact List.nodup_cons.mpr ⟨by simp, List.nodup_nil⟩
  | snoc _ _ hn ih =>
    rw [List.nodup_append]
    refine ⟨ih, List.nodup_cons.mpr ⟨by simp, List.nodup_nil⟩, fun a ha b hb e => ?_⟩
    rw [List.mem_singleton] at hb
    exact hn (by rw [← hb, ← e]; exact ha)
/-- from any of them on to the last -/
theorem Ch.on {C : List Str} {e d : Str} (h : Ch L k C e) (S : Str → Prop) (cl : ∀ a b, S a → getS L a = some b → S b) (hd : d ∈ C) (sd : S d) : S e := by
  induction h with
  | one => rw [← List.mem_singleton.mp hd]; exact sd
  | snoc h1 h2 h3 ih =>
    rcases List.mem_append.mp hd with z | z
    · exact cl _ _ (ih z) h2
    · rw [← List.mem_singleton.mp z]; exact sd
theorem Ch.all {C : List Str} {e : Str} (h : Ch L k C e) (S : Str → Prop) (cl : ∀ a b, S a → getS L a = some b → S b) (sk : S k) : ∀ c ∈ C, S c := by
  induction h with
  | one => intro c hc; rw [List.mem_singleton.mp hc]; exact sk
  | snoc h1 h2 h3 ih =>
    intro c hc
    rcases List.mem_append.mp hc with z | z
    · exact ih c z
    · rw [List.mem_singleton.mp z]; exact cl _ _ (ih _ h1.mem) h2
theorem Ch.img {C : List Str} {e : Str} (h : Ch L k C e) : ∀ c ∈ C, c = e ∨ ∃ b ∈ C, getS L c = some b := by
  induction h with
  | one => intro c hc; exact .inl (List.mem_singleton.mp hc)
  | snoc h1 h2 h3 ih =>
    intro c hc
    rcases List.mem_append.mp hc with z | z
    · rcases ih c z with rfl | ⟨b, hb, e'⟩
      · exact .inr ⟨_, List.mem_append_right _ (List.mem_singleton.mpr rfl), h2⟩
      · exact .inr ⟨b, List.mem_append_left _ hb, e'⟩
    · exact .inl (List.mem_singleton.mp z)
theorem Ch.pre {C : List Str} {e : Str} (h : Ch L k C e) : ∀ c ∈ C, c = k ∨ ∃ b ∈ C, b ≠ e ∧ getS L b = some c := by
  induction h with
  | one => intro c hc; exact .inl (List.mem_singleton.mp hc)
  | snoc h1 h2 h3 ih =>
    intro c hc
    rcases List.mem_append.mp hc with z | z
    · rcases ih c z with rfl | ⟨b, hb, _, e'⟩
      · exact .inl rfl
      · exact .inr ⟨b, List.mem_append_left _ hb, fun w => h3 (by rw [← w]; exact hb), e'⟩
    · rw [List.mem_singleton.mp z]
      exact .inr ⟨_, List.mem_append_left _ h1.mem, fun w => h3 (by rw [← w]; exact h1.mem), h2⟩
theorem Ch.keys {C : List Str} {e : Str} (h : Ch L k C e) : C.length ≤ L.length + 1 := by
  have key : ∃ C' : List Str, (∀ c ∈ C', c ∈ L.map (·.1)) ∧ C'.Nodup ∧ C.length = C'.length + 1 := by
    cases h with
    | one => exact ⟨[], by simp, List.nodup_nil, rfl⟩
    | @snoc C e y h1 h2 h3 =>
      refine ⟨C, fun c hc => ?_, h1.nodup, by simp⟩
      rcases h1.img c hc with rfl | ⟨b, _, e'⟩
      · exact List.mem_map.mpr ⟨_, getS_mem h2, rfl⟩
      · exact List.mem_map.mpr ⟨_, getS_mem e', rfl⟩
  obtain ⟨C', h1, h2, h3⟩ := key
  by_cases l : C'.length ≤ L.length
  · omega
  · exfalso
    obtain ⟨_, h5⟩ := pigeon C' (L.map (·.1)) h2 h1 (by rw [List.length_map]; omega)
    have h6 : ∀ (A B : List Str), A.Nodup → (∀ a ∈ A, a ∈ B) → A.length ≤ B.length := by
      intro A
      induction A with
      | nil => intro B _ _; exact Nat.zero_le _
      | cons a A ih =>
        intro B n h
        rw [List.nodup_cons] at n
        have := ih (B.erase a) n.2 fun x hx => (List.mem_erase_of_ne fun e : x = a => n.1 (e ▸ hx)).mpr (h x (List.mem_cons_of_mem _ hx))
        have ha := h a List.mem_cons_self
        rw [List.length_erase_of_mem ha] at this
        have := List.length_pos_of_mem ha
        rw [List.length_cons]
        omega
    have := h6 C' _ h2 h1
    rw [List.length_map] at this
    omega
theorem grow_ch (hL : L.length ≤ 10) : ∀ (n : Nat) {C : List Str} {e : Str}, Ch L k C e → 12 ≤ n + C.length → ∃ e', Ch L k (growS L n C) e' ∧ ∀ y, getS L e' = some y → y ∈ growS L n C
  | 0, C, e, h, hn => by have := h.keys; omega
  | n + 1, C, e, h, hn => by
    unfold growS
    rw [h.last]
    simp only
    cases hy : getS L e with
    | none => exact ⟨e, h, fun y z => by rw [hy] at z; cases z⟩
    | some y =>
      simp only
      by_cases c : y ∉ C ∧ C.length < 12
      · rw [if_pos c]
        exact grow_ch hL n (h.snoc hy c.1) (by rw [List.length_append, List.length_singleton]; omega)
      · rw [if_neg c]
        refine ⟨e, h, fun y' z => ?_⟩
        rw [hy] at z; cases z
        have := h.keys
        by_cases z : y ∈ C
        · exact z
        · exact absurd ⟨z, by omega⟩ c
def ringS (L : Prs) (k : Str) : List Str := growS L 12 [k]
/-- k lies on a ring -/
def isRing (L : Prs) (k : Str) : Prop := ∃ e, (ringS L k).getLast? = some e ∧ getS L e = some k
theorem ring_ch (hL : L.length ≤ 10) (k : Str) : ∃ e, Ch L k (ringS L k) e ∧ ∀ y, getS L e = some y → y ∈ ringS L k := grow_ch hL 12 .one (by simp)
theorem isRing_ch (hL : L.length ≤ 10) (h : isRing L k) : ∃ e, Ch L k (ringS L k) e ∧ getS L e = some k := by
  obtain ⟨e, h1, _⟩ := ring_ch hL k
  obtain ⟨e', h2, h3⟩ := h
  rw [h1.last] at h2
  cases h2
  exact ⟨e, h1, h3⟩
theorem isRing.all (hL : L.length ≤ 10) (h : isRing L k) (S : Str → Prop) (cl : ∀ a b, S a → getS L a = some b → S b) {d : Str} (hd : d ∈ ringS L k) (sd : S d) : ∀ c ∈ ringS L k, S c := by
  obtain ⟨e, h1, h2⟩ := isRing_ch hL h
  exact h1.all S cl (cl _ _ (h1.on S cl hd sd) h2)
theorem isRing.img (hL : L.length ≤ 10) (h : isRing L k) {c : Str} (hc : c ∈ ringS L k) : ∃ b ∈ ringS L k, getS L c = some b := by
  obtain ⟨e, h1, h2⟩ := isRing_ch hL h
  rcases h1.img c hc with rfl | z
  · exact ⟨k, h1.first, h2⟩
  · exact z
theorem isRing.pre (hL : L.length ≤ 10) (h : isRing L k) {c : Str} (hc : c ∈ ringS L k) : ∃ b ∈ ringS L k, getS L b = some c := by
  obtain ⟨e, h1, h2⟩ := isRing_ch hL h
  rcases h1.pre c hc with rfl | ⟨b, hb, _, z⟩
  · exact ⟨e, h1.mem, h2⟩
  · exact ⟨b, hb, z⟩
theorem ring_self : k ∈ ringS L k := by
  have : ∀ (n : Nat) (C : List Str), k ∈ C → k ∈ growS L n C := by
    intro n
    induction n with
    | zero => exact fun C h => h
    | succ n ih =>
      intro C h
      unfold growS
      split
      · exact h
      · split
        · exact h
        · split
          · exact ih _ (List.mem_append_left _ h)
          · exact h
  exact this _ _ (List.mem_singleton.mpr rfl)
/-- rings that meet are one -/
theorem isRing.same (hL : L.length ≤ 10) {k1 k2 : Str} (h1 : isRing L k1) (h2 : isRing L k2) {d : Str} (d1 : d ∈ ringS L k1) (d2 : d ∈ ringS L k2) : ∀ c ∈ ringS L k2, c ∈ ringS L k1 :=
  h2.all hL (· ∈ ringS L k1) (fun a b ha hb => by
    obtain ⟨b', h3, h4⟩ := h1.img hL ha
    rw [hb] at h4; cases h4
    exact h3) d2 d1
open Classical in
/-- one of each ring -/
noncomputable def repsS (L : Prs) : List Str → List Str → List Str
  | [], _ => []
  | k :: ks, seen => if isRing L k ∧ k ∉ seen then k :: repsS L ks (seen ++ ringS L k) else repsS L ks seen
def Un (L : Prs) (seen : List Str) : Prop := ∀ k, isRing L k → ∀ c ∈ ringS L k, c ∈ seen → ∀ c' ∈ ringS L k, c' ∈ seen
theorem Un.add (hL : L.length ≤ 10) {seen : List Str} (u : Un L seen) (h : isRing L k) : Un L (seen ++ ringS L k) := fun k' h' c hc hs c' hc' => by
  rcases List.mem_append.mp hs with z | z
  · exact List.mem_append_left _ (u k' h' c hc z c' hc')
  · exact List.mem_append_right _ (h.same hL h' z hc c' hc')
theorem reps_ring : ∀ {ks seen : List Str}, ∀ k ∈ repsS L ks seen, isRing L k
  | [], _, k, h => by cases h
  | a :: ks, seen, k, h => by
    unfold repsS at h
    split at h
    · rename_i c
      rcases List.mem_cons.mp h with rfl | z
      · exact c.1
      · exact reps_ring k z
    · exact reps_ring k h
theorem reps_none (hL : L.length ≤ 10) {d : Str} : ∀ {ks seen : List Str}, Un L seen → d ∈ seen → (repsS L ks seen).countP (fun k => decide (d ∈ ringS L k)) = 0
  | [], _, _, _ => rfl
  | a :: ks, seen, u, hd => by
    unfold repsS
    split
    · rename_i c
      rw [List.countP_cons, reps_none hL (u.add hL c.1) (List.mem_append_left _ hd)]
      have : d ∉ ringS L a := fun z => c.2 (u a c.1 d z hd a ring_self)
      simp [this]
    · exact reps_none hL u hd
theorem reps_one (hL : L.length ≤ 10) {d : Str} (hr : isRing L d) : ∀ {ks seen : List Str}, Un L seen → d ∉ seen → d ∈ ks → (repsS L ks seen).countP (fun k => decide (d ∈ ringS L k)) = 1
  | a :: ks, seen, u, hd, hk => by
    unfold repsS
    split
    · rename_i c
      by_cases z : d ∈ ringS L a
      · rw [List.countP_cons, reps_none hL (u.add hL c.1) (List.mem_append_right _ z)]
        simp [z]
      · have da : d ≠ a := fun e => z (by rw [e]; exact ring_self)
        have dk : d ∈ ks := (List.mem_cons.mp hk).resolve_left da
        rw [List.countP_cons, reps_one hL hr (u.add hL c.1) (fun w => (List.mem_append.mp w).elim hd z) dk]
        simp [z]
    · rename_i c
      have da : d ≠ a := fun e => c ⟨e ▸ hr, e ▸ hd⟩
      exact reps_one hL hr u hd ((List.mem_cons.mp hk).resolve_left da)
end
/-! ### the rings that are yet to be parted -/
def Alive (L0 : Prs) (t : Od) (k : Str) : Prop := (∀ c ∈ ringS L0 k, (∃ q ∈ t.L, q.1 = c) ∧ c ∉ t.R) ∧ ∀ q ∈ t.L, q.2 ∈ ringS L0 k → q.1 ∈ ringS L0 k
open Classical in
noncomputable def yet (L0 : Prs) (Ks : List Str) (t : Od) : Nat := (repsS L0 Ks []).countP fun k => decide (Alive L0 t k)
section
variable {L0 : Prs} {t : Od}
theorem alive_made {t' : Od} (g : Good t) {d src x : Str} {R' : List Str} (m : Made t d src x R' t') {k : Str} : Alive L0 t' k ↔ Alive L0 t k := by
  obtain ⟨hR, hs, hx, rfl⟩ := m
  have mS := getS_mem hs
  have sub : ∀ q ∈ dropS t.L d, q ∈ t.L ∧ q.1 ≠ d := fun q h => mem_drop.mp h
  have dR : d ∈ t.R := by rw [hR]; exact List.mem_cons_self
  have up : ∀ r ∈ R', r ∈ t.R := fun r h => by rw [hR]; exact List.mem_cons_of_mem _ h
  constructor
  · intro ⟨h1, h2⟩
    have h1' : ∀ c ∈ ringS L0 k, (∃ q ∈ t.L, q.1 = c) ∧ c ≠ d ∧ c ∉ t.R := fun c hc => by
      obtain ⟨⟨q, hq, e⟩, hn⟩ := h1 c hc
      obtain ⟨a, b⟩ := sub q hq
      refine ⟨⟨q, a, e⟩, by rw [← e]; exact b, fun z => ?_⟩
      rw [hR] at z
      rcases List.mem_cons.mp z with z | z
      · exact b (e.trans z)
      · refine hn ?_
        show c ∈ (if x = src ∧ (getS (dropS t.L d) src).isSome = true then R' ++ [src] else R')
        split
        · exact List.mem_append_left _ z
        · exact z
    refine ⟨fun c hc => ⟨(h1' c hc).1, (h1' c hc).2.2⟩, fun q hq hc => ?_⟩
    by_cases qd : q.1 = d
    · exfalso
      have e2 : getS t.L q.1 = some q.2 := mem_getS g.kn hq
      rw [qd, hs] at e2
      have e3 : src = q.2 := Option.some.inj e2
      rw [← e3] at hc
      obtain ⟨⟨q', hq', e'⟩, hn⟩ := h1 src hc
      obtain ⟨b1, b2, b3⟩ := h1' src hc
      have hP := (g.ra q' (sub q' hq').1 (by rw [e']; exact b3)).2
      rw [e', hx] at hP
      refine hn ?_
      show src ∈ (if x = src ∧ (getS (dropS t.L d) src).isSome = true then R' ++ [src] else R')
      obtain ⟨v, hv⟩ := getS_some_of (p := dropS t.L d) (k := src) ⟨q', hq', e'⟩
      rw [if_pos ⟨Option.some.inj hP, by rw [hv]; rfl⟩]
      exact List.mem_append_right _ (List.mem_singleton.mpr rfl)
    · exact h2 q (mem_drop.mpr ⟨hq, qd⟩) hc
  · intro ⟨h1, h2⟩
    refine ⟨fun c hc => ?_, fun q hq hc => h2 q (sub q hq).1 hc⟩
    obtain ⟨⟨q, hq, e⟩, hn⟩ := h1 c hc
    refine ⟨⟨q, mem_drop.mpr ⟨hq, fun z => hn (by rw [← e, z]; exact dR)⟩, e⟩, fun z => ?_⟩
    have z : c ∈ (if x = src ∧ (getS (dropS t.L d) src).isSome = true then R' ++ [src] else R') := z
    split at z
    · rcases List.mem_append.mp z with z | z
      · exact hn (up c z)
      · rw [List.mem_singleton.mp z] at hc
        exact (h1 d (h2 _ mS hc)).2 dR
    · exact hn (up c z)
theorem alive_part (hL : L0.length ≤ 10) (g : Good t) (hsub : ∀ q ∈ t.L, getS L0 q.1 = some q.2) (hR : t.R = []) {d src : Str} {L' : Prs} (h : t.L = (d, src) :: L') :
    isRing L0 d ∧ ∀ k, isRing L0 k → (d ∈ ringS L0 k → Alive L0 t k) ∧ (Alive L0 t.part k ↔ Alive L0 t k ∧ d ∉ ringS L0 k) := by
  have m : (d, src) ∈ t.L := by rw [h]; exact List.mem_cons_self
  obtain ⟨nd, b, _, _⟩ := g.perm hR
  have cl : ∀ a c, (∃ q ∈ t.L, q.1 = a) → getS L0 a = some c → ∃ q ∈ t.L, q.1 = c := by
    rintro a c ⟨q, hq, rfl⟩ e
    rw [hsub q hq] at e
    cases e
    exact b q hq
  have inj : ∀ q ∈ t.L, ∀ q' ∈ t.L, q.2 = q'.2 → q.1 = q'.1 := by
    have key : ∀ (l : Prs), (l.map (·.2)).Nodup → ∀ q ∈ l, ∀ q' ∈ l, q.2 = q'.2 → q.1 = q'.1 := by
      intro l
      induction l with
      | nil => intro _ q hq; cases hq
      | cons a l ih =>
        intro n q hq q' hq' e
        rw [List.map_cons, List.nodup_cons] at n
        rcases List.mem_cons.mp hq with rfl | z
        · rcases List.mem_cons.mp hq' with rfl | y
          · rfl
          · exact absurd (List.mem_map.mpr ⟨q', y, e.symm⟩) n.1
        · rcases List.mem_cons.mp hq' with rfl | y
          · exact absurd (List.mem_map.mpr ⟨q, z, e⟩) n.1
          · exact ih n.2 q z q' y e
    exact key _ nd
  refine ⟨?_, fun k hk => ?_⟩
  · obtain ⟨e, h1, h2⟩ := ring_ch hL d
    have all := h1.all (fun a => ∃ q ∈ t.L, q.1 = a) cl ⟨_, m, rfl⟩
    obtain ⟨q, hq, eq⟩ := all e h1.mem
    have hy : getS L0 e = some q.2 := by rw [← eq]; exact hsub q hq
    have hm := h2 _ hy
    rcases h1.pre _ hm with z | ⟨c, hc, ne, e'⟩
    · exact ⟨e, h1.last, by rw [hy, z]⟩
    · exfalso
      obtain ⟨q', hq', eq'⟩ := all c hc
      rw [← eq', hsub q' hq'] at e'
      exact ne (by rw [← eq', ← eq]; exact inj q' hq' q hq (Option.some.inj e'))
  · have ep := (g.part hR h).1
    refine ⟨fun hd => ?_, ?_⟩
    · have all := hk.all hL (fun a => ∃ q ∈ t.L, q.1 = a) cl hd ⟨_, m, rfl⟩
      refine ⟨fun c hc => ⟨all c hc, by rw [hR]; simp⟩, fun q hq hc => ?_⟩
      obtain ⟨c, hc', e'⟩ := hk.pre hL hc
      obtain ⟨q', hq', eq'⟩ := all c hc'
      rw [← eq', hsub q' hq'] at e'
      rw [← inj q' hq' q hq (Option.some.inj e'), eq']
      exact hc'
    · rw [ep]
      constructor
      · intro ⟨h1, h2⟩
        refine ⟨⟨fun c hc => ⟨(h1 c hc).1, by rw [hR]; simp⟩, h2⟩, fun z => (h1 d z).2 (List.mem_singleton.mpr rfl)⟩
      · intro ⟨⟨h1, h2⟩, hn⟩
        refine ⟨fun c hc => ⟨(h1 c hc).1, fun z => hn ?_⟩, h2⟩
        rw [← List.mem_singleton.mp z]; exact hc
end
end Co
namespace Co
open PySem L2
/-! ### a whole run -/
theorem count_split {α : Type} (p q : α → Prop) [DecidablePred p] [DecidablePred q] : ∀ (l : List α), (∀ a ∈ l, q a → p a) → l.countP (fun a => decide (p a)) = l.countP (fun a => decide (q a)) + l.countP (fun a => decide (p a ∧ ¬ q a))
  | [], _ => rfl
  | a :: l, h => by
    have ih := count_split p q l fun a ha => h a (List.mem_cons_of_mem _ ha)
    rw [List.countP_cons, List.countP_cons, List.countP_cons, ih]
    by_cases hq : q a
    · have hp := h a List.mem_cons_self hq
      simp only [hq, hp, decide_true, if_true, not_true, and_false, decide_false, Bool.false_eq_true, if_false]
      omega
    · by_cases hp : p a
      · simp only [hq, hp, decide_true, if_true, not_false_iff, and_true, decide_false, Bool.false_eq_true, if_false]
        omega
      · simp only [hq, hp, decide_false, Bool.false_eq_true, if_false, false_and]
        omega
theorem count_same {α : Type} (p q : α → Prop) {_ : DecidablePred p} {_ : DecidablePred q} (l : List α) (h : ∀ a ∈ l, (p a ↔ q a)) : l.countP (fun a => decide (p a)) = l.countP (fun a => decide (q a)) :=
  List.countP_congr fun a ha => by rw [decide_eq_true_eq, decide_eq_true_eq]; exact h a ha
/-- all that is known of a state on the way -/
structure Way {β : Type} (f : Str → β) (L0 : Prs) (t : Od) : Prop where
  good : Good t
  holds : Holds f L0 t
open Classical in
theorem Way.step {β : Type} {f : Str → β} {L0 : Prs} {Ks : List Str} {t : Od} (hL : L0.length ≤ 10) (hK : ∀ q ∈ L0, q.1 ∈ Ks) (w : Way f L0 t) (hne : t.L ≠ []) :
    t.mid.R ≠ [] ∧ Good t.mid ∧ t.mid.L = t.L ∧ Way f L0 t.step ∧ t.step.L.length + 1 = t.L.length ∧ t.step.M.length + yet L0 Ks t.step = t.M.length + yet L0 Ks t + 1 := by
  obtain ⟨g, h⟩ := w
  have mid : t.mid.R ≠ [] ∧ Good t.mid ∧ t.mid.L = t.L ∧ Holds f L0 t.mid ∧ t.mid.M.length + yet L0 Ks t.mid = t.M.length + yet L0 Ks t := by
    unfold Od.mid
    by_cases hR : t.R = []
    · rw [if_pos hR]
      obtain ⟨d, src, L', eL⟩ : ∃ d src L', t.L = (d, src) :: L' := by
        cases e : t.L with
        | nil => exact absurd e hne
        | cons q L' => exact ⟨q.1, q.2, L', rfl⟩
      obtain ⟨ep, gp⟩ := g.part hR eL
      obtain ⟨r1, r2⟩ := alive_part hL g h.sub hR eL
      have m : (d, src) ∈ t.L := by rw [eL]; exact List.mem_cons_self
      refine ⟨by rw [ep]; simp, gp, by rw [ep], h.part g hR eL, ?_⟩
      have dK : d ∈ Ks := by
        have := getS_mem (h.sub _ m)
        exact hK _ this
      have c1 : (repsS L0 Ks []).countP (fun k => decide (d ∈ ringS L0 k)) = 1 := reps_one hL r1 (fun _ _ _ _ z => absurd z (by simp)) (by simp) dK
      have e1 : yet L0 Ks t = (repsS L0 Ks []).countP (fun k => decide (d ∈ ringS L0 k)) + yet L0 Ks t.part := by
        unfold yet
        rw [count_split (fun k => Alive L0 t k) (fun k => d ∈ ringS L0 k) _ fun k hk => (r2 k (reps_ring k hk)).1]
        congr 1
        exact (count_same (fun k => Alive L0 t.part k) (fun k => Alive L0 t k ∧ ¬ d ∈ ringS L0 k) _ fun k hk => (r2 k (reps_ring k hk)).2).symm
      have e2 : t.part.M.length = t.M.length + 1 := by rw [ep]; simp
      omega
    · rw [if_neg hR]
      exact ⟨hR, g, rfl, h, rfl⟩
  obtain ⟨m1, m2, m3, m4, m5⟩ := mid
  obtain ⟨d, src, x, R', md⟩ := m2.pop m1
  have e3 : yet L0 Ks t.step = yet L0 Ks t.mid := count_same _ _ _ fun k hk => alive_made m2 md
  have e4 : t.step.M.length = t.mid.M.length + 1 := by
    have := md.eq
    show t.mid.pop.M.length = _
    rw [this]
    simp
  have e5 : t.step.L.length + 1 = t.L.length := by
    have := md.eq
    show t.mid.pop.L.length + 1 = _
    rw [this]
    have := drop_len m2.kn md.hs
    rw [← m3]
    exact this
  exact ⟨m1, m2, m3, ⟨m2.made md, m4.made m2 md⟩, e5, by omega⟩
theorem Way.run {β : Type} {f : Str → β} {L0 : Prs} {Ks : List Str} (hL : L0.length ≤ 10) (hK : ∀ q ∈ L0, q.1 ∈ Ks) : ∀ (n : Nat) {t : Od}, Way f L0 t → t.L.length ≤ n →
    Way f L0 (t.run n) ∧ (t.run n).L = [] ∧ (t.run n).M.length + yet L0 Ks (t.run n) = t.M.length + yet L0 Ks t + t.L.length
  | 0, t, w, h => by
    have : t.L = [] := List.eq_nil_of_length_eq_zero (by omega)
    unfold Od.run
    exact ⟨w, this, by rw [this]; simp⟩
  | n + 1, t, w, h => by
    unfold Od.run
    by_cases e : t.L = []
    · rw [if_pos e]
      exact ⟨w, e, by rw [e]; simp⟩
    · rw [if_neg e]
      obtain ⟨_, _, _, w', l1, l2⟩ := w.step (Ks := Ks) hL hK e
      obtain ⟨r1, r2, r3⟩ := Way.run hL hK n w' (by omega)
      exact ⟨r1, r2, by omega⟩
open Classical in
theorem yet_none {L0 : Prs} {Ks : List Str} {t : Od} (h : t.L = []) : yet L0 Ks t = 0 := by
  unfold yet
  rw [List.countP_eq_zero]
  intro k hk
  rw [decide_eq_true_eq]
  intro ⟨h1, _⟩
  obtain ⟨⟨q, hq, _⟩, _⟩ := h1 k ring_self
  rw [h] at hq
  cases hq
/-! ### the start -/
/-- the moves that move -/
def movS (ms : Prs) : Prs := ms.filter fun q => decide (q.1 ≠ q.2)
def selfS (vs : List Str) : Prs := vs.foldl (fun p v => putS p v v) []
def startO (L : Prs) : Od := ⟨L, selfS (L.map (·.2)), (L.map (·.1)).filter (fun k => decide (k ∉ L.map (·.2))), []⟩
theorem getS_self (vs : List Str) (k : Str) : getS (selfS vs) k = if k ∈ vs then some k else none := by
  have key : ∀ (vs : List Str) (p : Prs), getS (vs.foldl (fun p v => putS p v v) p) k = if k ∈ vs then some k else getS p k := by
    intro vs
    induction vs with
    | nil => intro p; simp
    | cons v vs ih =>
      intro p
      rw [List.foldl_cons, ih, getS_put]
      by_cases h1 : k ∈ vs
      · simp [h1]
      · by_cases h2 : k = v
        · simp [h2]
        · simp [h1, h2]
  exact key vs []
theorem Way.start {β : Type} (f : Str → β) {L : Prs} (kn : (L.map (·.1)).Nodup) (ne : ∀ q ∈ L, q.1 ≠ q.2) (nt : ∀ q ∈ L, q.1 ≠ "t") : Way f L (startO L) := by
  have src : ∀ q ∈ L, getS (selfS (L.map (·.2))) q.2 = some q.2 := fun q hq => by
    rw [getS_self, if_pos (List.mem_map.mpr ⟨q, hq, rfl⟩)]
  refine ⟨⟨kn, fun r h => ?_, kn.sublist List.filter_sublist, fun q hq => ⟨_, src q hq⟩, fun r h q hq e => ?_, ne, nt, fun q hq hn => ?_, fun q hq x hx hne => ?_⟩, ⟨fun q hq x hx => ?_, fun q hq => rfl, fun d hd hn => ?_, fun q hq => mem_getS kn hq⟩⟩
  · obtain ⟨q, hq, rfl⟩ := List.mem_map.mp (List.mem_filter.mp h).1
    exact getS_some_of ⟨q, hq, rfl⟩
  · have := (List.mem_filter.mp h).2
    rw [decide_eq_true_eq] at this
    exact absurd (List.mem_map.mpr ⟨q, hq, e⟩) this
  · have hm : q.1 ∈ L.map (·.2) := by
      by_cases z : q.1 ∈ L.map (·.2)
      · exact z
      · exact absurd (show q.1 ∈ (L.map (·.1)).filter (fun k => decide (k ∉ L.map (·.2))) from List.mem_filter.mpr ⟨List.mem_map.mpr ⟨q, hq, rfl⟩, decide_eq_true z⟩) hn
    refine ⟨List.mem_map.mp hm, ?_⟩
    show getS (selfS (L.map (·.2))) q.1 = _
    rw [getS_self, if_pos hm]
  · exact absurd (Option.some.inj ((src q hq).symm.trans hx)).symm hne
  · have := Option.some.inj ((src q hq).symm.trans hx)
    rw [← this]
    rfl
  · have hn : getS L d = none := hn
    rw [hn]
    rfl
def pureS (L : Prs) (k : Str) : Prop := ∀ q ∈ L, q.2 ∈ ringS L k → q.1 ∈ ringS L k
theorem alive_start {L : Prs} (hL : L.length ≤ 10) {k : Str} (h : isRing L k) : Alive L (startO L) k ↔ pureS L k := by
  refine ⟨fun z => z.2, fun z => ⟨fun c hc => ⟨?_, fun w => ?_⟩, z⟩⟩
  · obtain ⟨b, _, e⟩ := h.img hL hc
    exact ⟨_, getS_mem e, rfl⟩
  · obtain ⟨b, _, e⟩ := h.pre hL hc
    have := (List.mem_filter.mp w).2
    rw [decide_eq_true_eq] at this
    exact this (List.mem_map.mpr ⟨_, getS_mem e, rfl⟩)
open Classical in
noncomputable def ringsN (L : Prs) (Ks : List Str) : Nat := (repsS L Ks []).countP fun k => decide (pureS L k)
/-- the moves, in their order -/
def ordS (L : Prs) : Prs := ((startO L).run L.length).M
/-- what the order brings about, and how long it is -/
theorem ordS_ok {β : Type} (f : Str → β) {L : Prs} (hL : L.length ≤ 10) {Ks : List Str} (hK : ∀ q ∈ L, q.1 ∈ Ks) (kn : (L.map (·.1)).Nodup) (ne : ∀ q ∈ L, q.1 ≠ q.2) (nt : ∀ q ∈ L, q.1 ≠ "t") :
    (∀ d : Str, d ≠ "t" → conts f (ordS L) d = f ((getS L d).getD d)) ∧ (ordS L).length = L.length + ringsN L Ks := by
  obtain ⟨w, e, l⟩ := Way.run hL hK L.length (Way.start f kn ne nt) (Nat.le_refl _)
  refine ⟨fun d hd => w.holds.i3 d hd (by rw [e]; rfl), ?_⟩
  rw [yet_none e] at l
  have e2 : yet L Ks (startO L) = ringsN L Ks := count_same _ _ _ fun k hk => alive_start hL (reps_ring k hk)
  have e3 : (startO L).M.length = 0 := rfl
  have e4 : (startO L).L.length = L.length := rfl
  show ((startO L).run L.length).M.length = _
  omega
end Co
namespace Co
open PySem L2
/-! ### the walk through the ordering -/
theorem OrdTo.trans {s s1 s2 : S} {o l p r m : Nat} {t1 t2 : Od} (a : OrdTo s o l p r m s1 t1) (b : OrdTo s1 o l p r m s2 t2) : OrdTo s o l p r m s2 t2 :=
  ⟨b.at_, b.next.trans a.next, fun x h1 h2 h3 h4 => (b.same x h1 h2 h3 h4).trans (a.same x h1 h2 h3 h4)⟩
abbrev PartF (F : Nat → List D → S → R D) (j : Nat) : Prop := ∀ {s : S} {o l p r m : Nat} {t : Od} (h : OrdAt s o l p r m t) (hL : t.L ≠ []) (hl : t.L.length ≤ 1000) (hR : t.R.length < 1000) (hM : t.M.length < 1000) (hP : t.P.length < 1000) {Q : D → S → Prop} {E : XP}
    (hQ : ∀ s', OrdTo s o l p r m s' t.part → Q .non s'), wp (F j [.ref o] s) Q E
abbrev MakeF (F : Nat → List D → S → R D) (j : Nat) : Prop := ∀ {s : S} {o l p r m : Nat} {t : Od} {d src x : Str} (h : OrdAt s o l p r m t) (h1 : getS t.L d = some src) (h2 : getS t.P src = some x) (hR : t.R.length < 1000) (hM : t.M.length < 1000) (hP : t.P.length < 1000) {Q : D → S → Prop} {E : XP}
    (hQ : ∀ s', OrdTo s o l p r m s' (t.make d) → Q .non s'), wp (F j [.ref o, .str d] s) Q E
theorem recv_of {s : S} {o l p r m : Nat} {t : Od} (h : OrdAt s o l p r m t) {n : Str} (hn : noField n (ordFs l p r m) = true) : recvD "Ordering" n (.ref o) s = some o := by
  simp only [recvD, h.ho, hn, and_self, if_true]
theorem nf_make {l p r m : Nat} : noField "make" (ordFs l p r m) = true := by
  unfold noField ordFs
  simp only [List.any_cons, List.any_nil]
  decide
theorem nf_part {l p r m : Nat} : noField "part" (ordFs l p r m) = true := by
  unfold noField ordFs
  simp only [List.any_cons, List.any_nil]
  decide
theorem nf_all {l p r m : Nat} : noField "make_all" (ordFs l p r m) = true := by
  unfold noField ordFs
  simp only [List.any_cons, List.any_nil]
  decide
theorem part_len (t : Od) : t.part.M.length ≤ t.M.length + 1 ∧ t.part.P.length ≤ t.P.length + 1 ∧ t.part.R.length ≤ t.R.length + 1 := by
  unfold Od.part
  split
  · exact ⟨Nat.le_succ _, Nat.le_succ _, Nat.le_succ _⟩
  · refine ⟨?_, putS_len, ?_⟩
    · show (t.M ++ [_]).length ≤ _; rw [List.length_append]; exact Nat.le_refl _
    · show (t.R ++ [_]).length ≤ _; rw [List.length_append]; exact Nat.le_refl _
theorem mid_len (t : Od) : t.mid.M.length ≤ t.M.length + 1 ∧ t.mid.P.length ≤ t.P.length + 1 ∧ t.mid.R.length ≤ t.R.length + 1 := by
  unfold Od.mid
  split
  · exact part_len t
  · exact ⟨Nat.le_succ _, Nat.le_succ _, Nat.le_succ _⟩
theorem Made.len {t t' : Od} {d src x : Str} {R' : List Str} (m : Made t d src x R' t') : t'.M.length ≤ t.M.length + 1 ∧ t'.P.length ≤ t.P.length + 1 ∧ t'.R.length ≤ t.R.length := by
  rw [m.eq, m.hR]
  refine ⟨?_, putS_len, ?_⟩
  · show (t.M ++ [_]).length ≤ _; rw [List.length_append]; exact Nat.le_refl _
  · show (if _ then R' ++ [src] else R').length ≤ _
    split
    · rw [List.length_append]; exact Nat.le_refl _
    · exact Nat.le_succ _
theorem loop_gen {F : Nat → List D → S → R D} {G : Nat → D} {jp jm : Nat} (hp : PartF F jp) (hm : MakeF F jm) {s : S} {o l p r m : Nat} {t : Od} (h : OrdAt s o l p r m t) (mr : t.mid.R ≠ []) (mg : Good t.mid) (ml : t.mid.L = t.L) (hL : t.L ≠ []) (hl : t.L.length ≤ 10) (hR : t.R.length ≤ 100) (hM : t.M.length ≤ 100) (hP : t.P.length ≤ 100)
    {Q : QS} (hQ : ∀ s', OrdTo s o l p r m s' t.step → Q .nx [some (.ref o)] s') : wps ((ev F G (ordLoopC jp jm)).s [some (.ref o)] s) Q := by
  have second : ∀ {s1 : S}, OrdTo s o l p r m s1 t.mid → wps ((ev F G (.seq (.ex (.meth "Ordering" "make" jm (.var 0) (.cons (.pop (.fld "Ordering" "ready" (.var 0)) (.int 0)) .nil))) .skip)).s [some (.ref o)] s1) Q := by
    intro s1 b
    obtain ⟨d, src, x, R', md⟩ := mg.pop mr
    have h1 := b.at_
    simp only [ev, wps_seq, wps_if, wps_ret, wps_nx, wps_fl, wps_expr, wps_set, wps_setT, wps_setI, wps_setF, wps_lks, wp_bool, wp_tru, wp_notM, wp_andM, wp_orM, wp_ifM, wp_op2, wp_op1, wp_arg, wp_cons, wp_nil, wp_lit, wp_mth, wp_meth, wp_mk, wp_pop, wp_get2, wp_lck, wp_v, wp_ok, wps_ok, List.map_cons, List.map_nil, List.length_cons, List.length_nil, Nat.zero_add, Nat.reduceAdd, Nat.reduceSub, List.replicate_zero, List.replicate_succ, List.cons_append, List.nil_append, List.append_nil, List.getElem?_cons_zero, List.getElem?_cons_succ, List.set_cons_zero, List.set_cons_succ, blF, mtF, opF, cmF, f_add, f_sub, f_mul, f_mod, f_fdiv, f_pow, f_lt, f_le, f_gt, f_ge, f_eqi, f_eqs, f_int, f_neg, upd_heap, upd_next, all_heap, all_next, Bool.false_eq_true, if_true, if_false, decide_eq_true_eq, Nat.sub_self]
    rw [recv_of h1 nf_make]
    simp only [ev, wps_seq, wps_if, wps_ret, wps_nx, wps_fl, wps_expr, wps_set, wps_setT, wps_setI, wps_setF, wps_lks, wp_bool, wp_tru, wp_notM, wp_andM, wp_orM, wp_ifM, wp_op2, wp_op1, wp_arg, wp_cons, wp_nil, wp_lit, wp_mth, wp_meth, wp_mk, wp_pop, wp_get2, wp_lck, wp_v, wp_ok, wps_ok, List.map_cons, List.map_nil, List.length_cons, List.length_nil, Nat.zero_add, Nat.reduceAdd, Nat.reduceSub, List.replicate_zero, List.replicate_succ, List.cons_append, List.nil_append, List.append_nil, List.getElem?_cons_zero, List.getElem?_cons_succ, List.set_cons_zero, List.set_cons_succ, blF, mtF, opF, cmF, f_add, f_sub, f_mul, f_mod, f_fdiv, f_pow, f_lt, f_le, f_gt, f_ge, f_eqi, f_eqs, f_int, f_neg, upd_heap, upd_next, all_heap, all_next, Bool.false_eq_true, if_true, if_false, decide_eq_true_eq, Nat.sub_self]
    rw [fld_of h1.ho fs_ready]
    simp only [ev, wps_seq, wps_if, wps_ret, wps_nx, wps_fl, wps_expr, wps_set, wps_setT, wps_setI, wps_setF, wps_lks, wp_bool, wp_tru, wp_notM, wp_andM, wp_orM, wp_ifM, wp_op2, wp_op1, wp_arg, wp_cons, wp_nil, wp_lit, wp_mth, wp_meth, wp_mk, wp_pop, wp_get2, wp_lck, wp_v, wp_ok, wps_ok, List.map_cons, List.map_nil, List.length_cons, List.length_nil, Nat.zero_add, Nat.reduceAdd, Nat.reduceSub, List.replicate_zero, List.replicate_succ, List.cons_append, List.nil_append, List.append_nil, List.getElem?_cons_zero, List.getElem?_cons_succ, List.set_cons_zero, List.set_cons_succ, blF, mtF, opF, cmF, f_add, f_sub, f_mul, f_mod, f_fdiv, f_pow, f_lt, f_le, f_gt, f_ge, f_eqi, f_eqs, f_int, f_neg, upd_heap, upd_next, all_heap, all_next, Bool.false_eq_true, if_true, if_false, decide_eq_true_eq, Nat.sub_self]
    have hr1 := h1.hr
    rw [md.hR] at hr1
    have e1 : isLst (.ref r) s1 = true := by simp [isLst, lstOf, hr1]
    have e2 : pop1F (.ref r) [.int 0] s1 = .ok (.str d) (s1.upd r (.lst (R'.map .str))) := by
      have z : Ix63 0 := ⟨by decide, by decide⟩
      simp [pop1F, hlOf, hr1, z, seqIndex?]
    simp only [e1, e2, ev, wps_seq, wps_if, wps_ret, wps_nx, wps_fl, wps_expr, wps_set, wps_setT, wps_setI, wps_setF, wps_lks, wp_bool, wp_tru, wp_notM, wp_andM, wp_orM, wp_ifM, wp_op2, wp_op1, wp_arg, wp_cons, wp_nil, wp_lit, wp_mth, wp_meth, wp_mk, wp_pop, wp_get2, wp_lck, wp_v, wp_ok, wps_ok, List.map_cons, List.map_nil, List.length_cons, List.length_nil, Nat.zero_add, Nat.reduceAdd, Nat.reduceSub, List.replicate_zero, List.replicate_succ, List.cons_append, List.nil_append, List.append_nil, List.getElem?_cons_zero, List.getElem?_cons_succ, List.set_cons_zero, List.set_cons_succ, blF, mtF, opF, cmF, f_add, f_sub, f_mul, f_mod, f_fdiv, f_pow, f_lt, f_le, f_gt, f_ge, f_eqi, f_eqs, f_int, f_neg, upd_heap, upd_next, all_heap, all_next, Bool.false_eq_true, if_true, if_false, decide_eq_true_eq, Nat.sub_self]
    generalize hs2 : s1.upd r (.lst (R'.map .str)) = s2
    have g2 : ∀ b, b ≠ r → s2.heap b = s1.heap b := fun b hb => by rw [← hs2, upd_heap, if_neg hb]
    obtain ⟨n1, n2, n3, n4, n5, n6, n7, n8, n9, n10⟩ := h1.ne
    have l3 := h1.small
    have at2 : OrdAt s2 o l p r m ⟨t.mid.L, t.mid.P, R', t.mid.M⟩ := by
      refine ⟨?_, (g2 o n3).trans h1.ho, (g2 l n6).trans h1.hl, (g2 p n8).trans h1.hp, by rw [← hs2, upd_heap, if_pos rfl], (g2 m (Ne.symm n10)).trans h1.hm, h1.ne, l3.1, ?_, l3.2.2⟩
      · rw [← hs2]
        exact h1.wf.upd (h1.wf.lt hr1) (below_strs _ _)
      · have := l3.2.1
        rw [md.hR, List.length_cons] at this
        show R'.length ≤ 1000
        omega
    obtain ⟨a1, a2, a3⟩ := mid_len t
    rw [md.hR, List.length_cons] at a3
    refine hm at2 (d := d) (src := src) (x := x) md.hs md.hx (by show R'.length < 1000; omega) (by show t.mid.M.length < 1000; omega) (by show t.mid.P.length < 1000; omega) fun s' c => ?_
    have e3 : (⟨t.mid.L, t.mid.P, R', t.mid.M⟩ : Od).make d = t.step := by
      show _ = t.mid.pop
      unfold Od.pop
      rw [md.hR]
    rw [e3] at c
    refine hQ s' ⟨c.at_, c.next.trans ?_, fun b' b1 b2 b3 b4 => (c.same b' b1 b2 b3 b4).trans ((g2 b' b3).trans (b.same b' b1 b2 b3 b4))⟩
    rw [← hs2]
    exact b.next
  generalize hsec : (ev F G (.seq (.ex (.meth "Ordering" "make" jm (.var 0) (.cons (.pop (.fld "Ordering" "ready" (.var 0)) (.int 0)) .nil))) .skip)).s = sec at second
  have el : (ev F G (ordLoopC jp jm)).s = seqM (ev F G (.ifs (.tnot (.tru (.fld "Ordering" "ready" (.var 0)))) (.seq (.ex (.meth "Ordering" "part" jp (.var 0) .nil)) .skip) .skip)).s sec := by
    rw [← hsec]
    simp only [ordLoopC, ev]
  rw [el]
  simp only [ev, wps_seq, wps_if, wps_ret, wps_nx, wps_fl, wps_expr, wps_set, wps_setT, wps_setI, wps_setF, wps_lks, wp_bool, wp_tru, wp_notM, wp_andM, wp_orM, wp_ifM, wp_op2, wp_op1, wp_arg, wp_cons, wp_nil, wp_lit, wp_mth, wp_meth, wp_mk, wp_pop, wp_get2, wp_lck, wp_v, wp_ok, wps_ok, List.map_cons, List.map_nil, List.length_cons, List.length_nil, Nat.zero_add, Nat.reduceAdd, Nat.reduceSub, List.replicate_zero, List.replicate_succ, List.cons_append, List.nil_append, List.append_nil, List.getElem?_cons_zero, List.getElem?_cons_succ, List.set_cons_zero, List.set_cons_succ, blF, mtF, opF, cmF, f_add, f_sub, f_mul, f_mod, f_fdiv, f_pow, f_lt, f_le, f_gt, f_ge, f_eqi, f_eqs, f_int, f_neg, upd_heap, upd_next, all_heap, all_next, Bool.false_eq_true, if_true, if_false, decide_eq_true_eq, Nat.sub_self]
  rw [fld_of h.ho fs_ready]
  simp only [ev, wps_seq, wps_if, wps_ret, wps_nx, wps_fl, wps_expr, wps_set, wps_setT, wps_setI, wps_setF, wps_lks, wp_bool, wp_tru, wp_notM, wp_andM, wp_orM, wp_ifM, wp_op2, wp_op1, wp_arg, wp_cons, wp_nil, wp_lit, wp_mth, wp_meth, wp_mk, wp_pop, wp_get2, wp_lck, wp_v, wp_ok, wps_ok, List.map_cons, List.map_nil, List.length_cons, List.length_nil, Nat.zero_add, Nat.reduceAdd, Nat.reduceSub, List.replicate_zero, List.replicate_succ, List.cons_append, List.nil_append, List.append_nil, List.getElem?_cons_zero, List.getElem?_cons_succ, List.set_cons_zero, List.set_cons_succ, blF, mtF, opF, cmF, f_add, f_sub, f_mul, f_mod, f_fdiv, f_pow, f_lt, f_le, f_gt, f_ge, f_eqi, f_eqs, f_int, f_neg, upd_heap, upd_next, all_heap, all_next, Bool.false_eq_true, if_true, if_false, decide_eq_true_eq, Nat.sub_self]
  have e1 : truD (.ref r) s = some (!(t.R.map D.str).isEmpty) := by simp [truD, seqOf, lstOf, h.hr]
  rw [e1]
  by_cases hR0 : t.R = []
  · simp only [hR0, List.map_nil, List.isEmpty_nil, Bool.not_true, Bool.not_false, ev, wps_seq, wps_if, wps_ret, wps_nx, wps_fl, wps_expr, wps_set, wps_setT, wps_setI, wps_setF, wps_lks, wp_bool, wp_tru, wp_notM, wp_andM, wp_orM, wp_ifM, wp_op2, wp_op1, wp_arg, wp_cons, wp_nil, wp_lit, wp_mth, wp_meth, wp_mk, wp_pop, wp_get2, wp_lck, wp_v, wp_ok, wps_ok, List.map_cons, List.map_nil, List.length_cons, List.length_nil, Nat.zero_add, Nat.reduceAdd, Nat.reduceSub, List.replicate_zero, List.replicate_succ, List.cons_append, List.nil_append, List.append_nil, List.getElem?_cons_zero, List.getElem?_cons_succ, List.set_cons_zero, List.set_cons_succ, blF, mtF, opF, cmF, f_add, f_sub, f_mul, f_mod, f_fdiv, f_pow, f_lt, f_le, f_gt, f_ge, f_eqi, f_eqs, f_int, f_neg, upd_heap, upd_next, all_heap, all_next, Bool.false_eq_true, if_true, if_false, decide_eq_true_eq, Nat.sub_self]
    rw [recv_of h nf_part]
    simp only [ev, wps_seq, wps_if, wps_ret, wps_nx, wps_fl, wps_expr, wps_set, wps_setT, wps_setI, wps_setF, wps_lks, wp_bool, wp_tru, wp_notM, wp_andM, wp_orM, wp_ifM, wp_op2, wp_op1, wp_arg, wp_cons, wp_nil, wp_lit, wp_mth, wp_meth, wp_mk, wp_pop, wp_get2, wp_lck, wp_v, wp_ok, wps_ok, List.map_cons, List.map_nil, List.length_cons, List.length_nil, Nat.zero_add, Nat.reduceAdd, Nat.reduceSub, List.replicate_zero, List.replicate_succ, List.cons_append, List.nil_append, List.append_nil, List.getElem?_cons_zero, List.getElem?_cons_succ, List.set_cons_zero, List.set_cons_succ, blF, mtF, opF, cmF, f_add, f_sub, f_mul, f_mod, f_fdiv, f_pow, f_lt, f_le, f_gt, f_ge, f_eqi, f_eqs, f_int, f_neg, upd_heap, upd_next, all_heap, all_next, Bool.false_eq_true, if_true, if_false, decide_eq_true_eq, Nat.sub_self]
    have em : t.mid = t.part := by unfold Od.mid; rw [if_pos hR0]
    refine hp h hL (by omega) (by omega) (by omega) (by omega) fun s' b => ?_
    rw [← em] at b
    exact second b
  · have e2 : (t.R.map D.str).isEmpty = false := by
      cases e : t.R with
      | nil => exact absurd e hR0
      | cons a l => rfl
    simp only [e2, Bool.not_true, Bool.not_false, ev, wps_seq, wps_if, wps_ret, wps_nx, wps_fl, wps_expr, wps_set, wps_setT, wps_setI, wps_setF, wps_lks, wp_bool, wp_tru, wp_notM, wp_andM, wp_orM, wp_ifM, wp_op2, wp_op1, wp_arg, wp_cons, wp_nil, wp_lit, wp_mth, wp_meth, wp_mk, wp_pop, wp_get2, wp_lck, wp_v, wp_ok, wps_ok, List.map_cons, List.map_nil, List.length_cons, List.length_nil, Nat.zero_add, Nat.reduceAdd, Nat.reduceSub, List.replicate_zero, List.replicate_succ, List.cons_append, List.nil_append, List.append_nil, List.getElem?_cons_zero, List.getElem?_cons_succ, List.set_cons_zero, List.set_cons_succ, blF, mtF, opF, cmF, f_add, f_sub, f_mul, f_mod, f_fdiv, f_pow, f_lt, f_le, f_gt, f_ge, f_eqi, f_eqs, f_int, f_neg, upd_heap, upd_next, all_heap, all_next, Bool.false_eq_true, if_true, if_false, decide_eq_true_eq, Nat.sub_self]
    have em : t.mid = t := by unfold Od.mid; rw [if_neg hR0]
    rw [em] at second
    exact second ⟨h, rfl, fun _ _ _ _ _ => rfl⟩
theorem all_gen {F : Nat → List D → S → R D} {G : Nat → D} {jp jm : Nat} (hp : PartF F jp) (hm : MakeF F jm) {s : S} {o l p r m : Nat} {L : Prs} (hl : L.length ≤ 10) (kn : (L.map (·.1)).Nodup) (ne : ∀ q ∈ L, q.1 ≠ q.2) (nt : ∀ q ∈ L, q.1 ≠ "t") (h : OrdAt s o l p r m (startO L)) {Q : D → S → Prop} {E : XP}
    (hQ : ∀ s', OrdTo s o l p r m s' ((startO L).run L.length) → Q (.tup ((ordS L).map mv)) s') : wp (callB 1 1 (ev F G (ordAllC jp jm)).s [.ref o] s) Q E := by
  generalize hb1 : ordLoopC jp jm = lc
  refine wp_callB rfl ?_
  unfold ordAllC
  rw [hb1]
  generalize hb2 : (ev F G lc).s = b2
  simp only [ev, wps_seq, wps_if, wps_ret, wps_nx, wps_fl, wps_expr, wps_set, wps_setT, wps_setI, wps_setF, wps_lks, wp_bool, wp_tru, wp_notM, wp_andM, wp_orM, wp_ifM, wp_op2, wp_op1, wp_arg, wp_cons, wp_nil, wp_lit, wp_mth, wp_meth, wp_mk, wp_pop, wp_get2, wp_lck, wp_v, wp_ok, wps_ok, List.map_cons, List.map_nil, List.length_cons, List.length_nil, Nat.zero_add, Nat.reduceAdd, Nat.reduceSub, List.replicate_zero, List.replicate_succ, List.cons_append, List.nil_append, List.append_nil, List.getElem?_cons_zero, List.getElem?_cons_succ, List.set_cons_zero, List.set_cons_succ, blF, mtF, opF, cmF, f_add, f_sub, f_mul, f_mod, f_fdiv, f_pow, f_lt, f_le, f_gt, f_ge, f_eqi, f_eqs, f_int, f_neg, upd_heap, upd_next, all_heap, all_next, Bool.false_eq_true, if_true, if_false, decide_eq_true_eq, Nat.sub_self, hb2]
  have sL : ∀ vs : List Str, (selfS vs).length ≤ vs.length := by
    have key : ∀ (vs : List Str) (p : Prs), (vs.foldl (fun p v => putS p v v) p).length ≤ p.length + vs.length := by
      intro vs
      induction vs with
      | nil => intro p; exact Nat.le_refl _
      | cons v vs ih =>
        intro p
        have := ih (putS p v v)
        have := putS_len (p := p) (k := v) (v := v)
        rw [List.foldl_cons, List.length_cons]
        omega
    intro vs
    have := key vs []
    rw [List.length_nil, Nat.zero_add] at this
    exact this
  refine wps_while (fun n env s' => env = [some (.ref o)] ∧ ∃ t, OrdTo s o l p r m s' t ∧ Way (β := Str) id L t ∧ t.L.length = n ∧ t.run n = (startO L).run L.length ∧ n ≤ 10 ∧ t.M.length + 3 * n ≤ 60 ∧ t.P.length + 3 * n ≤ 60 ∧ t.R.length + 3 * n ≤ 60) (n := L.length)
    ⟨rfl, startO L, ⟨h, rfl, fun _ _ _ _ _ => rfl⟩, Way.start id kn ne nt, rfl, rfl, hl, ?_, ?_, ?_⟩ fun n env s' => ?_
  · show 0 + 3 * L.length ≤ 60; omega
  · have := sL (L.map (·.2))
    rw [List.length_map] at this
    show (selfS (L.map (·.2))).length + 3 * L.length ≤ 60
    omega
  · have : ((L.map (·.1)).filter (fun k => decide (k ∉ L.map (·.2)))).length ≤ (L.map (·.1)).length := List.length_filter_le _ _
    rw [List.length_map] at this
    show ((L.map (·.1)).filter (fun k => decide (k ∉ L.map (·.2)))).length + 3 * L.length ≤ 60
    omega
  · rintro ⟨rfl, t, b, w, hn, hr, hn10, hM, hP, hR⟩
    simp only [ev, wps_seq, wps_if, wps_ret, wps_nx, wps_fl, wps_expr, wps_set, wps_setT, wps_setI, wps_setF, wps_lks, wp_bool, wp_tru, wp_notM, wp_andM, wp_orM, wp_ifM, wp_op2, wp_op1, wp_arg, wp_cons, wp_nil, wp_lit, wp_mth, wp_meth, wp_mk, wp_pop, wp_get2, wp_lck, wp_v, wp_ok, wps_ok, List.map_cons, List.map_nil, List.length_cons, List.length_nil, Nat.zero_add, Nat.reduceAdd, Nat.reduceSub, List.replicate_zero, List.replicate_succ, List.cons_append, List.nil_append, List.append_nil, List.getElem?_cons_zero, List.getElem?_cons_succ, List.set_cons_zero, List.set_cons_succ, blF, mtF, opF, cmF, f_add, f_sub, f_mul, f_mod, f_fdiv, f_pow, f_lt, f_le, f_gt, f_ge, f_eqi, f_eqs, f_int, f_neg, upd_heap, upd_next, all_heap, all_next, Bool.false_eq_true, if_true, if_false, decide_eq_true_eq, Nat.sub_self]
    rw [fld_of b.at_.ho fs_left]
    simp only [ev, wps_seq, wps_if, wps_ret, wps_nx, wps_fl, wps_expr, wps_set, wps_setT, wps_setI, wps_setF, wps_lks, wp_bool, wp_tru, wp_notM, wp_andM, wp_orM, wp_ifM, wp_op2, wp_op1, wp_arg, wp_cons, wp_nil, wp_lit, wp_mth, wp_meth, wp_mk, wp_pop, wp_get2, wp_lck, wp_v, wp_ok, wps_ok, List.map_cons, List.map_nil, List.length_cons, List.length_nil, Nat.zero_add, Nat.reduceAdd, Nat.reduceSub, List.replicate_zero, List.replicate_succ, List.cons_append, List.nil_append, List.append_nil, List.getElem?_cons_zero, List.getElem?_cons_succ, List.set_cons_zero, List.set_cons_succ, blF, mtF, opF, cmF, f_add, f_sub, f_mul, f_mod, f_fdiv, f_pow, f_lt, f_le, f_gt, f_ge, f_eqi, f_eqs, f_int, f_neg, upd_heap, upd_next, all_heap, all_next, Bool.false_eq_true, if_true, if_false, decide_eq_true_eq, Nat.sub_self]
    have e1 : truD (.ref l) s' = some (!(kd t.L).isEmpty) := by simp [truD, seqOf, lstOf, b.at_.hl]
    rw [e1]
    by_cases hL0 : t.L = []
    · have hk : kd t.L = [] := by rw [hL0]; rfl
      simp only [hk, List.isEmpty_nil, Bool.not_true, ev, wps_seq, wps_if, wps_ret, wps_nx, wps_fl, wps_expr, wps_set, wps_setT, wps_setI, wps_setF, wps_lks, wp_bool, wp_tru, wp_notM, wp_andM, wp_orM, wp_ifM, wp_op2, wp_op1, wp_arg, wp_cons, wp_nil, wp_lit, wp_mth, wp_meth, wp_mk, wp_pop, wp_get2, wp_lck, wp_v, wp_ok, wps_ok, List.map_cons, List.map_nil, List.length_cons, List.length_nil, Nat.zero_add, Nat.reduceAdd, Nat.reduceSub, List.replicate_zero, List.replicate_succ, List.cons_append, List.nil_append, List.append_nil, List.getElem?_cons_zero, List.getElem?_cons_succ, List.set_cons_zero, List.set_cons_succ, blF, mtF, opF, cmF, f_add, f_sub, f_mul, f_mod, f_fdiv, f_pow, f_lt, f_le, f_gt, f_ge, f_eqi, f_eqs, f_int, f_neg, upd_heap, upd_next, all_heap, all_next, Bool.false_eq_true, if_true, if_false, decide_eq_true_eq, Nat.sub_self]
      rw [fld_of b.at_.ho fs_made]
      have et : t = (startO L).run L.length := by
        rw [← hr]
        cases n with
        | zero => rfl
        | succ n => unfold Od.run; rw [if_pos hL0]
      have e3 : tupB false [.ref m] s' = .ok (.tup (t.M.map mv)) s' := by
        have hlen : (t.M.map mv).length ≤ LINE := by rw [line_is, List.length_map]; omega
        simp [tupB, lstOf, b.at_.hm, mkC, mkT]
        simpa using hlen
      simp only [e3, ev, wps_seq, wps_if, wps_ret, wps_nx, wps_fl, wps_expr, wps_set, wps_setT, wps_setI, wps_setF, wps_lks, wp_bool, wp_tru, wp_notM, wp_andM, wp_orM, wp_ifM, wp_op2, wp_op1, wp_arg, wp_cons, wp_nil, wp_lit, wp_mth, wp_meth, wp_mk, wp_pop, wp_get2, wp_lck, wp_v, wp_ok, wps_ok, List.map_cons, List.map_nil, List.length_cons, List.length_nil, Nat.zero_add, Nat.reduceAdd, Nat.reduceSub, List.replicate_zero, List.replicate_succ, List.cons_append, List.nil_append, List.append_nil, List.getElem?_cons_zero, List.getElem?_cons_succ, List.set_cons_zero, List.set_cons_succ, blF, mtF, opF, cmF, f_add, f_sub, f_mul, f_mod, f_fdiv, f_pow, f_lt, f_le, f_gt, f_ge, f_eqi, f_eqs, f_int, f_neg, upd_heap, upd_next, all_heap, all_next, Bool.false_eq_true, if_true, if_false, decide_eq_true_eq, Nat.sub_self]
      rw [gc_wf b.next b.at_.wf]
      subst et
      exact hQ s' b
    · have hk : (kd t.L).isEmpty = false := by
        cases e : t.L with
        | nil => exact absurd e hL0
        | cons a l => rfl
      simp only [hk, Bool.not_false, ev, wps_seq, wps_if, wps_ret, wps_nx, wps_fl, wps_expr, wps_set, wps_setT, wps_setI, wps_setF, wps_lks, wp_bool, wp_tru, wp_notM, wp_andM, wp_orM, wp_ifM, wp_op2, wp_op1, wp_arg, wp_cons, wp_nil, wp_lit, wp_mth, wp_meth, wp_mk, wp_pop, wp_get2, wp_lck, wp_v, wp_ok, wps_ok, List.map_cons, List.map_nil, List.length_cons, List.length_nil, Nat.zero_add, Nat.reduceAdd, Nat.reduceSub, List.replicate_zero, List.replicate_succ, List.cons_append, List.nil_append, List.append_nil, List.getElem?_cons_zero, List.getElem?_cons_succ, List.set_cons_zero, List.set_cons_succ, blF, mtF, opF, cmF, f_add, f_sub, f_mul, f_mod, f_fdiv, f_pow, f_lt, f_le, f_gt, f_ge, f_eqi, f_eqs, f_int, f_neg, upd_heap, upd_next, all_heap, all_next, Bool.false_eq_true, if_true, if_false, decide_eq_true_eq, Nat.sub_self]
      obtain ⟨m1, m2, m3, w', l1, _⟩ := w.step (Ks := L.map (·.1)) (by omega) (fun q hq => List.mem_map.mpr ⟨q, hq, rfl⟩) hL0
      subst hb2
      subst hb1
      refine loop_gen hp hm b.at_ m1 m2 m3 hL0 (by omega) (by omega) (by omega) (by omega) fun s2 c => ?_
      obtain ⟨d, src, x, R', md⟩ := m2.pop m1
      obtain ⟨a1, a2, a3⟩ := md.len
      obtain ⟨c1, c2, c3⟩ := mid_len t
      have a1 : t.step.M.length ≤ t.mid.M.length + 1 := a1
      have a2 : t.step.P.length ≤ t.mid.P.length + 1 := a2
      have a3 : t.step.R.length ≤ t.mid.R.length := a3
      cases n with
      | zero => exact absurd (List.eq_nil_of_length_eq_zero hn) hL0
      | succ n =>
        refine ⟨n, Nat.lt_succ_self n, rfl, t.step, b.trans c, w', by omega, ?_, by omega, by omega, by omega, by omega⟩
        rw [← hr]
        conv => rhs; unfold Od.run
        rw [if_neg hL0]
end Co
namespace Co
open PySem L2
theorem dcL_pure {t : Tg} {gd : Option (Nat × Ob)} {own : List Nat} {tst : ME Bool} {ek ev : ME D} {env : Env} {s : S} (f : D → Option (Key × D)) (hg : GdOk gd s) :
    ∀ (ds : List D) (acc : List (Key × D)), (∀ d ∈ ds, ∃ env1, asg t d s (wipeE env own) = some env1 ∧ (match f d with
      | none => tst env1 s = .ok false s
      | some (k, v) => tst env1 s = .ok true s ∧ ek env1 s = .ok (dOfKey k) s ∧ ev env1 s = .ok v s)) → acc.length + ds.length ≤ LINE → dcL t gd own tst ek ev env ds acc s = .ok ((ds.filterMap f).foldl (fun a kv => putD a kv.1 kv.2) acc) s
  | [], acc, _, _ => by
    unfold dcL
    rw [if_pos hg]
    rfl
  | d :: ds, acc, h, hl => by
    obtain ⟨env1, h1, h2⟩ := h d List.mem_cons_self
    rw [List.length_cons] at hl
    unfold dcL
    rw [if_pos hg, h1]
    simp only
    cases hf : f d with
    | none =>
      rw [hf] at h2
      rw [h2]
      simp only [nox, bd_ok, Bool.false_eq_true, if_false]
      rw [dcL_pure f hg ds acc (fun d hd => h d (List.mem_cons_of_mem _ hd)) (by omega), List.filterMap_cons, hf]
    | some kv =>
      obtain ⟨k, v⟩ := kv
      rw [hf] at h2
      obtain ⟨h3, h4, h5⟩ := h2
      rw [h3]
      simp only [nox, bd_ok, if_true]
      rw [h4]
      simp only [bd_ok]
      rw [h5]
      simp only [bd_ok]
      have ek : keyOf (dOfKey k) = some k := by cases k <;> rfl
      rw [ek]
      simp only
      have hp : (putD acc k v).length ≤ acc.length + 1 := by
        unfold putD
        split
        · rw [List.length_map]; omega
        · rw [List.length_append]; exact Nat.le_refl _
      rw [if_pos (by omega), dcL_pure f hg ds (putD acc k v) (fun d hd => h d (List.mem_cons_of_mem _ hd)) (by omega), List.filterMap_cons, hf, List.foldl_cons]
theorem wp_dc {t : Tg} {it : ME Itm} {own : List Nat} {tst : ME Bool} {ek ev : ME D} {env : Env} {s s1 : S} {ds : List D} {gd : Option (Nat × Ob)} {Q : D → S → Prop} {E : XP} (hi : it env s = .ok (ds, gd) s1) (f : D → Option (Key × D)) (hg : GdOk gd s1)
    (h : ∀ d ∈ ds, ∃ env1, asg t d s1 (wipeE env own) = some env1 ∧ (match f d with
      | none => tst env1 s1 = .ok false s1
      | some (k, v) => tst env1 s1 = .ok true s1 ∧ ek env1 s1 = .ok (dOfKey k) s1 ∧ ev env1 s1 = .ok v s1)) (hl : ds.length ≤ LINE) (hQ : Q (.ref s1.next) (s1.alloc (.dK ((ds.filterMap f).foldl (fun a kv => putD a kv.1 kv.2) [])))) : wp (dcM true t it own tst ek ev env s) Q E := by
  unfold dcM
  rw [hi, bd_ok, dcL_pure f hg ds [] h (by simpa using hl)]
  exact hQ
/-- pairs put one by one -/
theorem fold_put : ∀ (l p : Prs), ((p ++ l).map (·.1)).Nodup → l.foldl (fun a q => putS a q.1 q.2) p = p ++ l
  | [], p, _ => by simp
  | (a, b) :: l, p, n => by
    have e : putS p a b = p ++ [(a, b)] := by
      unfold putS
      rw [if_neg]
      intro z
      obtain ⟨q, hq, e⟩ := List.any_eq_true.mp z
      rw [List.map_append, List.map_cons, List.nodup_append] at n
      exact n.2.2 q.1 (List.mem_map.mpr ⟨q, hq, rfl⟩) a List.mem_cons_self (of_decide_eq_true e)
    rw [List.foldl_cons]
    show l.foldl (fun a q => putS a q.1 q.2) (putS p a b) = _
    rw [e, fold_put l (p ++ [(a, b)]) (by simpa using n)]
    simp
theorem fold_kd (l : Prs) (p : Prs) : (l.map fun q => ((Sum.inr q.1 : Key), D.str q.2)).foldl (fun a kv => putD a kv.1 kv.2) (kd p) = kd (l.foldl (fun a q => putS a q.1 q.2) p) := by
  induction l generalizing p with
  | nil => rfl
  | cons q l ih =>
    rw [List.map_cons, List.foldl_cons, List.foldl_cons]
    show List.foldl _ (putD (kd p) (.inr q.1) (.str q.2)) _ = _
    rw [putD_kd]
    exact ih _
theorem mov_nodup {ms : Prs} (h : (ms.map (·.1)).Nodup) : ((movS ms).map (·.1)).Nodup := h.sublist (List.filter_sublist.map _)
def fMov (d : D) : Option (Key × D) := match d with
  | .tup [.str a, .str b] => if a ≠ b then some (.inr a, .str b) else none
  | _ => none
theorem fMov_all (ms : Prs) : (ms.map mv).filterMap fMov = (movS ms).map fun q => ((Sum.inr q.1 : Key), D.str q.2) := by
  induction ms with
  | nil => rfl
  | cons q ms ih =>
    rw [List.map_cons, List.filterMap_cons]
    unfold movS at ih ⊢
    rw [List.filter_cons]
    by_cases h : q.1 ≠ q.2
    · have e : fMov (mv q) = some (.inr q.1, .str q.2) := if_pos h
      rw [e, if_pos (decide_eq_true h), List.map_cons]
      simp only
      rw [ih]
    · have e : fMov (mv q) = none := if_neg h
      rw [e, if_neg (by simpa using h)]
      exact ih
def fSelf (d : D) : Option (Key × D) := match d with
  | .str a => some (.inr a, .str a)
  | _ => none
theorem fSelf_all (vs : List Str) : ((vs.map D.str).filterMap fSelf).foldl (fun a kv => putD a kv.1 kv.2) [] = kd (selfS vs) := by
  have key : ∀ (vs : List Str) (p : Prs), ((vs.map D.str).filterMap fSelf).foldl (fun a kv => putD a kv.1 kv.2) (kd p) = kd (vs.foldl (fun p v => putS p v v) p) := by
    intro vs
    induction vs with
    | nil => intro p; rfl
    | cons v vs ih =>
      intro p
      rw [List.map_cons, List.filterMap_cons]
      simp only [fSelf, List.foldl_cons]
      rw [putD_kd]
      exact ih _
  exact key vs []
def fFree (vs : List Str) (d : D) : Option D := match d with
  | .str a => if a ∉ vs then some (.str a) else none
  | _ => none
theorem fFree_all (vs ks : List Str) : (ks.map D.str).filterMap (fFree vs) = (ks.filter fun k => decide (k ∉ vs)).map .str := by
  induction ks with
  | nil => rfl
  | cons k ks ih =>
    rw [List.map_cons, List.filterMap_cons, List.filter_cons]
    by_cases h : k ∉ vs
    · have e : fFree vs (.str k) = some (.str k) := if_pos h
      rw [e, if_pos (decide_eq_true h), List.map_cons]
      simp only
      rw [ih]
    · have e : fFree vs (.str k) = none := if_neg h
      rw [e, if_neg (by simpa using h)]
      exact ih
end Co
namespace Co
open PySem L2
theorem cm_ne {F : Nat → List D → S → R D} {G : Nat → D} {i j : Nat} {env : Env} {s : S} {a b : Str} (hi : env[i]? = some (some (.str a))) (hj : env[j]? = some (some (.str b))) : (ev F G (.tcmp .ne (.var i) (.var j))).t env s = .ok (decide (a ≠ b)) s := by
  simp only [ev, boolM, op2M, varM, hi, hj, bd_ok, cmF, f_eqs, if_true]
  by_cases h : a = b <;> simp [h]
theorem getVar {F : Nat → List D → S → R D} {G : Nat → D} {i : Nat} {env : Env} {s : S} {d : D} (hi : env[i]? = some (some d)) : (ev F G (.var i)).x env s = .ok d s := by
  simp only [ev, varM, hi]
theorem setFF_of {s : S} {o : Nat} {f : Str} {v : D} {fs : List (Str × D)} (h : s.heap o = some (.ins "Ordering" fs)) (hl : fs.length < 1000) : setFF "Ordering" f (.ref o) v s = some (s.upd o (.ins "Ordering" (putFD f v fs))) := by
  simp only [setFF, h, hl, and_self, if_true]
theorem keysD_kd (p : Prs) : keysD (kd p) = (p.map (·.1)).map .str := by
  unfold keysD kd
  rw [List.map_map, List.map_map]
  rfl
theorem vals_kd (p : Prs) : (kd p).map (·.2) = (p.map (·.2)).map .str := by
  unfold kd
  rw [List.map_map, List.map_map]
  rfl
theorem inr_any (vs : List Str) (a : Str) (s : S) : inF true (.str a) (.lv (vs.map .str)) s = .ok (.bl (decide (a ∉ vs))) s := by
  have h1 : (vs.map D.str).all flatD = true := by
    rw [List.all_eq_true]
    intro d hd
    obtain ⟨x, _, rfl⟩ := List.mem_map.mp hd
    rfl
  have h2 : ((vs.map D.str).any fun d => eqFl d (.str a)) = decide (a ∈ vs) := by
    rw [List.any_map]
    by_cases h : a ∈ vs
    · rw [decide_eq_true h, List.any_eq_true]
      exact ⟨a, h, by simp [eqFl]⟩
    · rw [decide_eq_false h, List.any_eq_false]
      intro x hx
      simp [eqFl]
      exact fun e => h (e ▸ hx)
  have h3 : flatD (.str a) = true := rfl
  simp only [inF, memD, seqOf, lstOf, h1, h3, h2, and_self, if_true]
  by_cases h : a ∈ vs <;> simp [h]
theorem lk_fld {env : Env} {s : S} {o l : Nat} {f : Str} {fs : List (Str × D)} {kvs : List (Key × D)} (he : env[0]? = some (some (.ref o))) (ho : s.heap o = some (.ins "Ordering" fs)) (hf : fs.lookup f = some (.ref l)) (hl : s.heap l = some (.dK kvs)) :
    lkAt (op1M (fldF "Ordering" f) (varM 0) env s) s = some (l, .lk kvs) := by
  simp only [op1M, varM, he, bd_ok, fld_of ho hf, lkAt, hl, lkOb, Option.map_some]
theorem val_fld {env : Env} {s : S} {o l : Nat} {f : Str} {fs : List (Str × D)} {kvs : List (Key × D)} (he : env[0]? = some (some (.ref o))) (ho : s.heap o = some (.ins "Ordering" fs)) (hf : fs.lookup f = some (.ref l)) (hl : s.heap l = some (.lk kvs)) :
    valItM (op1M (fldF "Ordering" f) (varM 0)) env s = .ok (kvs.map (·.2), some (l, .lk kvs)) s := by
  simp only [valItM, op1M, varM, he, bd_ok, fld_of ho hf, valIt, lkOf, hl]
theorem key_fld {env : Env} {s : S} {o l : Nat} {f : Str} {fs : List (Str × D)} {kvs : List (Key × D)} (he : env[0]? = some (some (.ref o))) (ho : s.heap o = some (.ins "Ordering" fs)) (hf : fs.lookup f = some (.ref l)) (hl : s.heap l = some (.lk kvs)) :
    anyItM (op1M (fldF "Ordering" f) (varM 0)) env s = .ok (keysD kvs, some (l, .lk kvs)) s := by
  simp only [anyItM, op1M, varM, he, bd_ok, fld_of ho hf, anyIt, lkOf, hl]
theorem init_gen {F : Nat → List D → S → R D} {G : Nat → D} {s : S} (w : s.Wf) {X : D} {ms : Prs} (hX : ∀ s, anyIt X s = .ok (ms.map mv, none) s) (hn : (ms.map (·.1)).Nodup) (hl : ms.length ≤ 10) {Q : D → S → Prop} {E : XP}
    (hQ : ∀ s', OrdAt s' s.next (s.next + 1) (s.next + 2) (s.next + 3) (s.next + 4) (startO (movS ms)) → (∀ b, b < s.next → s'.heap b = s.heap b) → s'.next = s.next + 5 → Q .non s') :
    wp (callB 2 5 (ev F G ordInitC).s [.ref s.next, X] (s.alloc (.ins "Ordering" []))) Q E := by
  have hlen : (movS ms).length ≤ 10 := Nat.le_trans (List.length_filter_le _ _) hl
  generalize ho : s.next = o
  generalize hs0 : s.alloc (.ins "Ordering" []) = s0
  have n0 : s0.next = o + 1 := by rw [← hs0, ← ho]; rfl
  have h0 : s0.heap o = some (.ins "Ordering" []) := by rw [← hs0, all_heap, if_pos ho.symm]
  have p0 : ∀ b, b ≠ o → s0.heap b = s.heap b := fun b hb => by rw [← hs0, all_heap, if_neg (by rw [ho]; exact hb)]
  have w0 : s0.Wf := by rw [← hs0]; exact w.alloc trivial
  have fr : ∀ b, o < b → s0.heap b = none := fun b hb => w0.out b (by rw [n0]; exact hb)
  have LN := line_is
  refine wp_callB rfl ?_
  simp only [ordInitC, ev, wps_seq, wps_if, wps_ret, wps_nx, wps_fl, wps_expr, wps_set, wps_setT, wps_setI, wps_setF, wps_lks, wp_bool, wp_tru, wp_notM, wp_andM, wp_orM, wp_ifM, wp_op2, wp_op1, wp_arg, wp_cons, wp_nil, wp_lit, wp_mth, wp_meth, wp_mk, wp_pop, wp_get2, wp_lck, wp_v, wp_ok, wps_ok, List.map_cons, List.map_nil, List.length_cons, List.length_nil, Nat.zero_add, Nat.reduceAdd, Nat.reduceSub, List.replicate_zero, List.replicate_succ, List.cons_append, List.nil_append, List.append_nil, List.getElem?_cons_zero, List.getElem?_cons_succ, List.set_cons_zero, List.set_cons_succ, blF, mtF, opF, cmF, f_add, f_sub, f_mul, f_mod, f_fdiv, f_pow, f_lt, f_le, f_gt, f_ge, f_eqi, f_eqs, f_int, f_neg, upd_heap, upd_next, all_heap, all_next, Bool.false_eq_true, if_true, if_false, decide_eq_true_eq, Nat.sub_self]
  -- left
  refine wp_dc (s1 := s0) (ds := ms.map mv) (gd := none) ?_ fMov trivial (fun d hd => ?_) (by rw [LN, List.length_map]; omega) ?_
  · simp only [anyItM, varM, List.getElem?_cons_zero, List.getElem?_cons_succ, bd_ok]
    exact hX s0
  · obtain ⟨⟨a, b⟩, _, rfl⟩ := List.mem_map.mp hd
    refine ⟨_, rfl, ?_⟩
    have c := cm_ne (F := F) (G := G) (i := 4) (j := 3) (env := [some (.ref o), some X, none, some (.str b), some (.str a)]) (s := s0) rfl rfl
    by_cases h : a ≠ b
    · have e : fMov (mv (a, b)) = some (.inr a, .str b) := if_pos h
      rw [e]
      rw [decide_eq_true h] at c
      exact ⟨c, rfl, rfl⟩
    · have e : fMov (mv (a, b)) = none := if_neg h
      rw [e]
      rw [decide_eq_false h] at c
      exact c
  rw [fMov_all, show ([] : List (Key × D)) = kd [] from rfl, fold_kd, fold_put _ [] (by simpa using mov_nodup hn), List.nil_append]
  generalize hM : movS ms = L at hlen hQ
  generalize hs1 : s0.alloc (.dK (kd L)) = s1
  have n1 : s1.next = o + 2 := by rw [← hs1, all_next, n0]
  have h1 : s1.heap o = some (.ins "Ordering" []) := by rw [← hs1, all_heap, if_neg (by omega), h0]
  rw [setFF_of h1 (by decide)]
  simp only [ev, wps_seq, wps_if, wps_ret, wps_nx, wps_fl, wps_expr, wps_set, wps_setT, wps_setI, wps_setF, wps_lks, wp_bool, wp_tru, wp_notM, wp_andM, wp_orM, wp_ifM, wp_op2, wp_op1, wp_arg, wp_cons, wp_nil, wp_lit, wp_mth, wp_meth, wp_mk, wp_pop, wp_get2, wp_lck, wp_v, wp_ok, wps_ok, List.map_cons, List.map_nil, List.length_cons, List.length_nil, Nat.zero_add, Nat.reduceAdd, Nat.reduceSub, List.replicate_zero, List.replicate_succ, List.cons_append, List.nil_append, List.append_nil, List.getElem?_cons_zero, List.getElem?_cons_succ, List.set_cons_zero, List.set_cons_succ, blF, mtF, opF, cmF, f_add, f_sub, f_mul, f_mod, f_fdiv, f_pow, f_lt, f_le, f_gt, f_ge, f_eqi, f_eqs, f_int, f_neg, upd_heap, upd_next, all_heap, all_next, Bool.false_eq_true, if_true, if_false, decide_eq_true_eq, Nat.sub_self, n0]
  generalize hs2 : s1.upd o (.ins "Ordering" (putFD "left" (.ref (o + 1)) [])) = s2
  have n2 : s2.next = o + 2 := by rw [← hs2, upd_next, n1]
  have h2 : s2.heap o = some (.ins "Ordering" [("left", .ref (o + 1))]) := by rw [← hs2, upd_heap, if_pos rfl]; rfl
  have l2 : s2.heap (o + 1) = some (.dK (kd L)) := by rw [← hs2, upd_heap, if_neg (by omega), ← hs1, all_heap, if_pos n0.symm]
  have p2 : ∀ b, b < o → s2.heap b = s.heap b := fun b hb => by rw [← hs2, upd_heap, if_neg (by omega), ← hs1, all_heap, if_neg (by omega), p0 b (by omega)]
  have q2 : ∀ b, o + 2 ≤ b → s2.heap b = none := fun b hb => by rw [← hs2, upd_heap, if_neg (by omega), ← hs1, all_heap, if_neg (by omega), fr b (by omega)]
  rw [← hs1] at hs2
  clear hs1 h1 n1
  clear s1
  have f2 : ([("left", .ref (o + 1))] : List (Str × D)).lookup ("left" : Str) = some (.ref (o + 1)) := by rw [List.lookup_cons]; rfl
  rw [lk_fld (l := o + 1) (kvs := kd L) rfl h2 f2 l2]
  simp only
  generalize hs3 : s2.upd (o + 1) (.lk (kd L)) = s3
  have n3 : s3.next = o + 2 := by rw [← hs3, upd_next, n2]
  have h3 : s3.heap o = some (.ins "Ordering" [("left", .ref (o + 1))]) := by rw [← hs3, upd_heap, if_neg (by omega), h2]
  have l3 : s3.heap (o + 1) = some (.lk (kd L)) := by rw [← hs3, upd_heap, if_pos rfl]
  refine wp_dc (s1 := s3) (ds := (kd L).map (·.2)) (gd := some (o + 1, .lk (kd L))) (val_fld rfl h3 f2 l3) fSelf l3 (fun d hd => ?_) (by rw [LN, List.length_map]; unfold kd; rw [List.length_map]; omega) ?_
  · rw [vals_kd] at hd
    obtain ⟨a, _, rfl⟩ := List.mem_map.mp hd
    exact ⟨_, rfl, rfl, rfl, rfl⟩
  rw [vals_kd, fSelf_all, n3]
  generalize hs4 : s3.alloc (.dK (kd (selfS (L.map (·.2))))) = s4
  have n4 : s4.next = o + 3 := by rw [← hs4, all_next, n3]
  have l4 : s4.heap (o + 1) = some (.lk (kd L)) := by rw [← hs4, all_heap, if_neg (by omega), l3]
  rw [l4]
  simp only [ulOb]
  generalize hs5 : s4.upd (o + 1) (.dK (kd L)) = s5
  have h5 : s5.heap o = some (.ins "Ordering" [("left", .ref (o + 1))]) := by rw [← hs5, upd_heap, if_neg (by omega), ← hs4, all_heap, if_neg (by omega), h3]
  rw [setFF_of h5 (by simp)]
  simp only
  generalize hs6 : s5.upd o (.ins "Ordering" (putFD "present" (.ref (o + 2)) [("left", .ref (o + 1))])) = s6
  have n6 : s6.next = o + 3 := by rw [← hs6, upd_next, ← hs5, upd_next, n4]
  have h6 : s6.heap o = some (.ins "Ordering" [("left", .ref (o + 1)), ("present", .ref (o + 2))]) := by rw [← hs6, upd_heap, if_pos rfl]; rfl
  have l6 : s6.heap (o + 1) = some (.dK (kd L)) := by rw [← hs6, upd_heap, if_neg (by omega), ← hs5, upd_heap, if_pos rfl]
  have m6 : s6.heap (o + 2) = some (.dK (kd (selfS (L.map (·.2))))) := by rw [← hs6, upd_heap, if_neg (by omega), ← hs5, upd_heap, if_neg (by omega), ← hs4, all_heap, if_pos n3.symm]
  have p6 : ∀ b, b < o → s6.heap b = s.heap b := fun b hb => by rw [← hs6, upd_heap, if_neg (by omega), ← hs5, upd_heap, if_neg (by omega), ← hs4, all_heap, if_neg (by omega), ← hs3, upd_heap, if_neg (by omega), p2 b hb]
  have q6 : ∀ b, o + 3 ≤ b → s6.heap b = none := fun b hb => by rw [← hs6, upd_heap, if_neg (by omega), ← hs5, upd_heap, if_neg (by omega), ← hs4, all_heap, if_neg (by omega), ← hs3, upd_heap, if_neg (by omega), q2 b (by omega)]
  have f6 : ([("left", .ref (o + 1)), ("present", .ref (o + 2))] : List (Str × D)).lookup ("left" : Str) = some (.ref (o + 1)) := by rw [List.lookup_cons]; rfl
  rw [fld_of h6 f6]
  simp only [ev, wps_seq, wps_if, wps_ret, wps_nx, wps_fl, wps_expr, wps_set, wps_setT, wps_setI, wps_setF, wps_lks, wp_bool, wp_tru, wp_notM, wp_andM, wp_orM, wp_ifM, wp_op2, wp_op1, wp_arg, wp_cons, wp_nil, wp_lit, wp_mth, wp_meth, wp_mk, wp_pop, wp_get2, wp_lck, wp_v, wp_ok, wps_ok, List.map_cons, List.map_nil, List.length_cons, List.length_nil, Nat.zero_add, Nat.reduceAdd, Nat.reduceSub, List.replicate_zero, List.replicate_succ, List.cons_append, List.nil_append, List.append_nil, List.getElem?_cons_zero, List.getElem?_cons_succ, List.set_cons_zero, List.set_cons_succ, blF, mtF, opF, cmF, f_add, f_sub, f_mul, f_mod, f_fdiv, f_pow, f_lt, f_le, f_gt, f_ge, f_eqi, f_eqs, f_int, f_neg, upd_heap, upd_next, all_heap, all_next, Bool.false_eq_true, if_true, if_false, decide_eq_true_eq, Nat.sub_self]
  have e6 : lvalF false (.ref (o + 1)) s6 = .ok (.lv ((L.map (·.2)).map .str)) s6 := by
    have z : (kd L).length ≤ LINE := by rw [LN]; unfold kd; rw [List.length_map]; omega
    rw [← vals_kd]
    simp [lvalF, dicOf, l6, mkL, z]
  simp only [e6, ev, wps_seq, wps_if, wps_ret, wps_nx, wps_fl, wps_expr, wps_set, wps_setT, wps_setI, wps_setF, wps_lks, wp_bool, wp_tru, wp_notM, wp_andM, wp_orM, wp_ifM, wp_op2, wp_op1, wp_arg, wp_cons, wp_nil, wp_lit, wp_mth, wp_meth, wp_mk, wp_pop, wp_get2, wp_lck, wp_v, wp_ok, wps_ok, List.map_cons, List.map_nil, List.length_cons, List.length_nil, Nat.zero_add, Nat.reduceAdd, Nat.reduceSub, List.replicate_zero, List.replicate_succ, List.cons_append, List.nil_append, List.append_nil, List.getElem?_cons_zero, List.getElem?_cons_succ, List.set_cons_zero, List.set_cons_succ, blF, mtF, opF, cmF, f_add, f_sub, f_mul, f_mod, f_fdiv, f_pow, f_lt, f_le, f_gt, f_ge, f_eqi, f_eqs, f_int, f_neg, upd_heap, upd_next, all_heap, all_next, Bool.false_eq_true, if_true, if_false, decide_eq_true_eq, Nat.sub_self]
  rw [lk_fld (l := o + 1) (kvs := kd L) rfl h6 f6 l6]
  simp only
  generalize hs7 : s6.upd (o + 1) (.lk (kd L)) = s7
  have n7 : s7.next = o + 3 := by rw [← hs7, upd_next, n6]
  have h7 : s7.heap o = some (.ins "Ordering" [("left", .ref (o + 1)), ("present", .ref (o + 2))]) := by rw [← hs7, upd_heap, if_neg (by omega), h6]
  have l7 : s7.heap (o + 1) = some (.lk (kd L)) := by rw [← hs7, upd_heap, if_pos rfl]
  refine wp_lc (s1 := s7) (ds := keysD (kd L)) (gd := some (o + 1, .lk (kd L))) (key_fld rfl h7 f6 l7) (fFree (L.map (·.2))) l7 (fun d hd => ?_) (by rw [LN]; unfold keysD kd; rw [List.length_map, List.length_map]; omega) ?_
  · rw [keysD_kd] at hd
    obtain ⟨a, _, rfl⟩ := List.mem_map.mp hd
    refine ⟨_, rfl, ?_⟩
    have c := inr_any (L.map (·.2)) a s7
    have c2 : ∀ b, inF true (.str a) (.lv ((L.map (·.2)).map .str)) s7 = .ok (.bl b) s7 → boolM (op2M (cmF .nin) (varM 4) (varM 2)) [some (.ref o), some X, some (.lv ((L.map (·.2)).map .str)), none, some (.str a)] s7 = .ok b s7 := by
      intro b hb
      simp only [boolM, op2M, varM, List.getElem?_cons_zero, List.getElem?_cons_succ, bd_ok, cmF, hb]
    by_cases h : a ∉ L.map (·.2)
    · have e : fFree (L.map (·.2)) (.str a) = some (.str a) := if_pos h
      rw [e]
      rw [decide_eq_true h] at c
      exact ⟨c2 _ c, rfl⟩
    · have e : fFree (L.map (·.2)) (.str a) = none := if_neg h
      rw [e]
      rw [decide_eq_false h] at c
      exact c2 _ c
  rw [keysD_kd, fFree_all]
  generalize hRR : (L.map (·.1)).filter (fun k => decide (k ∉ L.map (·.2))) = RR
  have eRR : (startO L).R = RR := hRR
  have lRR : RR.length ≤ 10 := by
    rw [← hRR]
    refine Nat.le_trans (List.length_filter_le _ _) ?_
    rw [List.length_map]; exact hlen
  have e7 : mkL true (RR.map D.str) s7 = .ok (.ref (o + 3)) (s7.alloc (.lst (RR.map .str))) := by
    have z : (RR.map D.str).length ≤ LINE := by rw [LN, List.length_map]; omega
    simp only [mkL, z, if_true, n7]
  rw [e7]
  simp only [ev, wps_seq, wps_if, wps_ret, wps_nx, wps_fl, wps_expr, wps_set, wps_setT, wps_setI, wps_setF, wps_lks, wp_bool, wp_tru, wp_notM, wp_andM, wp_orM, wp_ifM, wp_op2, wp_op1, wp_arg, wp_cons, wp_nil, wp_lit, wp_mth, wp_meth, wp_mk, wp_pop, wp_get2, wp_lck, wp_v, wp_ok, wps_ok, List.map_cons, List.map_nil, List.length_cons, List.length_nil, Nat.zero_add, Nat.reduceAdd, Nat.reduceSub, List.replicate_zero, List.replicate_succ, List.cons_append, List.nil_append, List.append_nil, List.getElem?_cons_zero, List.getElem?_cons_succ, List.set_cons_zero, List.set_cons_succ, blF, mtF, opF, cmF, f_add, f_sub, f_mul, f_mod, f_fdiv, f_pow, f_lt, f_le, f_gt, f_ge, f_eqi, f_eqs, f_int, f_neg, upd_heap, upd_next, all_heap, all_next, Bool.false_eq_true, if_true, if_false, decide_eq_true_eq, Nat.sub_self]
  rw [if_neg (by omega : ¬ o + 1 = s7.next), l7]
  simp only [ulOb]
  generalize hs8 : (s7.alloc (.lst (RR.map .str))).upd (o + 1) (.dK (kd L)) = s8
  have h8 : s8.heap o = some (.ins "Ordering" [("left", .ref (o + 1)), ("present", .ref (o + 2))]) := by rw [← hs8, upd_heap, if_neg (by omega), all_heap, if_neg (by omega), h7]
  rw [setFF_of h8 (by simp)]
  simp only [ev, wps_seq, wps_if, wps_ret, wps_nx, wps_fl, wps_expr, wps_set, wps_setT, wps_setI, wps_setF, wps_lks, wp_bool, wp_tru, wp_notM, wp_andM, wp_orM, wp_ifM, wp_op2, wp_op1, wp_arg, wp_cons, wp_nil, wp_lit, wp_mth, wp_meth, wp_mk, wp_pop, wp_get2, wp_lck, wp_v, wp_ok, wps_ok, List.map_cons, List.map_nil, List.length_cons, List.length_nil, Nat.zero_add, Nat.reduceAdd, Nat.reduceSub, List.replicate_zero, List.replicate_succ, List.cons_append, List.nil_append, List.append_nil, List.getElem?_cons_zero, List.getElem?_cons_succ, List.set_cons_zero, List.set_cons_succ, blF, mtF, opF, cmF, f_add, f_sub, f_mul, f_mod, f_fdiv, f_pow, f_lt, f_le, f_gt, f_ge, f_eqi, f_eqs, f_int, f_neg, upd_heap, upd_next, all_heap, all_next, Bool.false_eq_true, if_true, if_false, decide_eq_true_eq, Nat.sub_self]
  generalize hs9 : s8.upd o (.ins "Ordering" (putFD "ready" (.ref (o + 3)) [("left", .ref (o + 1)), ("present", .ref (o + 2))])) = s9
  have n9 : s9.next = o + 4 := by rw [← hs9, upd_next, ← hs8, upd_next, all_next, n7]
  have h9 : s9.heap o = some (.ins "Ordering" [("left", .ref (o + 1)), ("present", .ref (o + 2)), ("ready", .ref (o + 3))]) := by rw [← hs9, upd_heap, if_pos rfl]; rfl
  have l9 : s9.heap (o + 1) = some (.dK (kd L)) := by rw [← hs9, upd_heap, if_neg (by omega), ← hs8, upd_heap, if_pos rfl]
  have m9 : s9.heap (o + 2) = some (.dK (kd (selfS (L.map (·.2))))) := by rw [← hs9, upd_heap, if_neg (by omega), ← hs8, upd_heap, if_neg (by omega), all_heap, if_neg (by omega), ← hs7, upd_heap, if_neg (by omega), m6]
  have r9 : s9.heap (o + 3) = some (.lst (RR.map .str)) := by rw [← hs9, upd_heap, if_neg (by omega), ← hs8, upd_heap, if_neg (by omega), all_heap, if_pos n7.symm]
  have p9 : ∀ b, b < o → s9.heap b = s.heap b := fun b hb => by rw [← hs9, upd_heap, if_neg (by omega), ← hs8, upd_heap, if_neg (by omega), all_heap, if_neg (by omega), ← hs7, upd_heap, if_neg (by omega), p6 b hb]
  have q9 : ∀ b, o + 4 ≤ b → s9.heap b = none := fun b hb => by rw [← hs9, upd_heap, if_neg (by omega), ← hs8, upd_heap, if_neg (by omega), all_heap, if_neg (by omega), ← hs7, upd_heap, if_neg (by omega), q6 b (by omega)]
  have e9 : mkL true [] s9 = .ok (.ref (o + 4)) (s9.alloc (.lst [])) := by
    simp [mkL, n9]
  rw [e9]
  simp only [ev, wps_seq, wps_if, wps_ret, wps_nx, wps_fl, wps_expr, wps_set, wps_setT, wps_setI, wps_setF, wps_lks, wp_bool, wp_tru, wp_notM, wp_andM, wp_orM, wp_ifM, wp_op2, wp_op1, wp_arg, wp_cons, wp_nil, wp_lit, wp_mth, wp_meth, wp_mk, wp_pop, wp_get2, wp_lck, wp_v, wp_ok, wps_ok, List.map_cons, List.map_nil, List.length_cons, List.length_nil, Nat.zero_add, Nat.reduceAdd, Nat.reduceSub, List.replicate_zero, List.replicate_succ, List.cons_append, List.nil_append, List.append_nil, List.getElem?_cons_zero, List.getElem?_cons_succ, List.set_cons_zero, List.set_cons_succ, blF, mtF, opF, cmF, f_add, f_sub, f_mul, f_mod, f_fdiv, f_pow, f_lt, f_le, f_gt, f_ge, f_eqi, f_eqs, f_int, f_neg, upd_heap, upd_next, all_heap, all_next, Bool.false_eq_true, if_true, if_false, decide_eq_true_eq, Nat.sub_self]
  generalize hs10 : s9.alloc (.lst []) = s10
  have h10 : s10.heap o = some (.ins "Ordering" [("left", .ref (o + 1)), ("present", .ref (o + 2)), ("ready", .ref (o + 3))]) := by rw [← hs10, all_heap, if_neg (by omega), h9]
  rw [setFF_of h10 (by simp)]
  simp only [ev, wps_seq, wps_if, wps_ret, wps_nx, wps_fl, wps_expr, wps_set, wps_setT, wps_setI, wps_setF, wps_lks, wp_bool, wp_tru, wp_notM, wp_andM, wp_orM, wp_ifM, wp_op2, wp_op1, wp_arg, wp_cons, wp_nil, wp_lit, wp_mth, wp_meth, wp_mk, wp_pop, wp_get2, wp_lck, wp_v, wp_ok, wps_ok, List.map_cons, List.map_nil, List.length_cons, List.length_nil, Nat.zero_add, Nat.reduceAdd, Nat.reduceSub, List.replicate_zero, List.replicate_succ, List.cons_append, List.nil_append, List.append_nil, List.getElem?_cons_zero, List.getElem?_cons_succ, List.set_cons_zero, List.set_cons_succ, blF, mtF, opF, cmF, f_add, f_sub, f_mul, f_mod, f_fdiv, f_pow, f_lt, f_le, f_gt, f_ge, f_eqi, f_eqs, f_int, f_neg, upd_heap, upd_next, all_heap, all_next, Bool.false_eq_true, if_true, if_false, decide_eq_true_eq, Nat.sub_self]
  generalize hs11 : s10.upd o (.ins "Ordering" (putFD "made" (.ref (o + 4)) [("left", .ref (o + 1)), ("present", .ref (o + 2)), ("ready", .ref (o + 3))])) = s11
  have n11 : s11.next = o + 5 := by rw [← hs11, upd_next, ← hs10, all_next, n9]
  have h11 : s11.heap o = some (.ins "Ordering" (ordFs (o + 1) (o + 2) (o + 3) (o + 4))) := by rw [← hs11, upd_heap, if_pos rfl]; rfl
  have l11 : s11.heap (o + 1) = some (.dK (kd L)) := by rw [← hs11, upd_heap, if_neg (by omega), ← hs10, all_heap, if_neg (by omega), l9]
  have m11 : s11.heap (o + 2) = some (.dK (kd (selfS (L.map (·.2))))) := by rw [← hs11, upd_heap, if_neg (by omega), ← hs10, all_heap, if_neg (by omega), m9]
  have r11 : s11.heap (o + 3) = some (.lst (RR.map .str)) := by rw [← hs11, upd_heap, if_neg (by omega), ← hs10, all_heap, if_neg (by omega), r9]
  have t11 : s11.heap (o + 4) = some (.lst []) := by rw [← hs11, upd_heap, if_neg (by omega), ← hs10, all_heap, if_pos n9.symm]
  have p11 : ∀ b, b < o → s11.heap b = s.heap b := fun b hb => by rw [← hs11, upd_heap, if_neg (by omega), ← hs10, all_heap, if_neg (by omega), p9 b hb]
  have q11 : ∀ b, o + 5 ≤ b → s11.heap b = none := fun b hb => by rw [← hs11, upd_heap, if_neg (by omega), ← hs10, all_heap, if_neg (by omega), q9 b (by omega)]
  have ng : ¬ gcOk (o + 1) [D.non] s11 := fun z => by
    have := z.2 o _ (Nat.lt_succ_self o) h11
    have : o + 1 < o + 1 := this.1
    exact Nat.lt_irrefl _ this
  have eg : gcS (o + 1) [D.non] s11 = s11 := by unfold gcS; rw [if_neg ng]
  rw [eg]
  have w11 : s11.Wf := by
    refine ⟨fun a ha => q11 a (by rw [n11] at ha; exact ha), fun a ob e => ?_⟩
    rw [n11]
    by_cases a0 : a < o
    · rw [p11 a a0] at e
      have := w.inn a ob e
      rw [ho] at this
      exact this.mono (by omega)
    · by_cases a1 : a = o
      · rw [a1, h11] at e; cases e
        exact ⟨by show o + 1 < o + 5; omega, by show o + 2 < o + 5; omega, by show o + 3 < o + 5; omega, by show o + 4 < o + 5; omega, trivial⟩
      · by_cases a2 : a = o + 1
        · rw [a2, l11] at e; cases e; exact below_kd _ _
        · by_cases a3 : a = o + 2
          · rw [a3, m11] at e; cases e; exact below_kd _ _
          · by_cases a4 : a = o + 3
            · rw [a4, r11] at e; cases e; exact below_strs _ _
            · by_cases a5 : a = o + 4
              · rw [a5, t11] at e; cases e; trivial
              · rw [q11 a (by omega)] at e; cases e
  rw [ho] at hQ
  refine hQ s11 ⟨w11, h11, l11, m11, by rw [eRR]; exact r11, t11, by omega, ?_⟩ p11 n11
  refine ⟨?_, by rw [eRR]; omega, by show 0 ≤ 1000; omega⟩
  have key : ∀ (vs : List Str) (p : Prs), (vs.foldl (fun p v => putS p v v) p).length ≤ p.length + vs.length := by
    intro vs
    induction vs with
    | nil => intro p; exact Nat.le_refl _
    | cons v vs ih =>
      intro p
      have := ih (putS p v v)
      have := putS_len (p := p) (k := v) (v := v)
      rw [List.foldl_cons, List.length_cons]
      omega
  have := key (L.map (·.2)) []
  rw [List.length_nil, Nat.zero_add, List.length_map] at this
  show (selfS (L.map (·.2))).length ≤ 1000
  unfold selfS
  omega
end Co
namespace Co
open PySem L2
abbrev InitF (F : Nat → List D → S → R D) (j : Nat) : Prop := ∀ {s : S} (w : s.Wf) {X : D} {ms : Prs} (hX : ∀ s, anyIt X s = .ok (ms.map mv, none) s) (hn : (ms.map (·.1)).Nodup) (hl : ms.length ≤ 10) {Q : D → S → Prop} {E : XP}
    (hQ : ∀ s', OrdAt s' s.next (s.next + 1) (s.next + 2) (s.next + 3) (s.next + 4) (startO (movS ms)) → (∀ b, b < s.next → s'.heap b = s.heap b) → s'.next = s.next + 5 → Q .non s'),
    wp (F j [.ref s.next, X] (s.alloc (.ins "Ordering" []))) Q E
abbrev AllF (F : Nat → List D → S → R D) (j : Nat) : Prop := ∀ {s : S} {o l p r m : Nat} {L : Prs} (hl : L.length ≤ 10) (kn : (L.map (·.1)).Nodup) (ne : ∀ q ∈ L, q.1 ≠ q.2) (nt : ∀ q ∈ L, q.1 ≠ "t") (h : OrdAt s o l p r m (startO L)) {Q : D → S → Prop} {E : XP}
    (hQ : ∀ s', OrdTo s o l p r m s' ((startO L).run L.length) → Q (.tup ((ordS L).map mv)) s'), wp (F j [.ref o] s) Q E
theorem mov_mem {ms : Prs} {q : Str × Str} : q ∈ movS ms ↔ q ∈ ms ∧ q.1 ≠ q.2 := by
  unfold movS
  rw [List.mem_filter, decide_eq_true_eq]
theorem order_gen {F : Nat → List D → S → R D} {G : Nat → D} {ja ji : Nat} (hi : InitF F ji) (ha : AllF F ja) {s : S} (w : s.Wf) {X : D} {ms : Prs} (hX : ∀ s, anyIt X s = .ok (ms.map mv, none) s) (hn : (ms.map (·.1)).Nodup) (hl : ms.length ≤ 10) (nt : ∀ q ∈ ms, q.1 ≠ "t") {Q : D → S → Prop} {E : XP}
    (hQ : Q (.tup ((ordS (movS ms)).map mv)) s) : wp (callB 1 1 (ev F G (ordC ja ji)).s [X] s) Q E := by
  refine wp_callB rfl ?_
  simp only [ordC, ev, wps_seq, wps_if, wps_ret, wps_nx, wps_fl, wps_expr, wps_set, wps_setT, wps_setI, wps_setF, wps_lks, wp_bool, wp_tru, wp_notM, wp_andM, wp_orM, wp_ifM, wp_op2, wp_op1, wp_arg, wp_cons, wp_nil, wp_lit, wp_mth, wp_meth, wp_mk, wp_pop, wp_get2, wp_lck, wp_v, wp_ok, wps_ok, List.map_cons, List.map_nil, List.length_cons, List.length_nil, Nat.zero_add, Nat.reduceAdd, Nat.reduceSub, List.replicate_zero, List.replicate_succ, List.cons_append, List.nil_append, List.append_nil, List.getElem?_cons_zero, List.getElem?_cons_succ, List.set_cons_zero, List.set_cons_succ, blF, mtF, opF, cmF, f_add, f_sub, f_mul, f_mod, f_fdiv, f_pow, f_lt, f_le, f_gt, f_ge, f_eqi, f_eqs, f_int, f_neg, upd_heap, upd_next, all_heap, all_next, Bool.false_eq_true, if_true, if_false, decide_eq_true_eq, Nat.sub_self]
  refine hi w hX hn hl fun s' at_ below nx => ?_
  simp only
  rw [recv_of at_ nf_all]
  simp only
  refine ha (Nat.le_trans (List.length_filter_le _ _) hl) (mov_nodup hn) (fun q hq => (mov_mem.mp hq).2) (fun q hq => nt q (mov_mem.mp hq).1) at_ fun s2 b => ?_
  rw [gc_pure w (fun a ha => ?_) (belowL_of fun d hd => ?_)]
  · exact hQ
  · rw [b.same a (by omega) (by omega) (by omega) (by omega), below a ha]
  · rw [List.mem_singleton.mp hd]
    exact below_mvs _ _
/-! ### the moves are done -/
def mapC (f : Str → D) (ks : List Str) : List (Key × D) := ks.map fun k => (.inr k, f k)
/-- a dict that holds f, as far as ks go -/
def HoldsD (kvs : List (Key × D)) (f : Str → D) (ks : List Str) : Prop := ∀ k ∈ ks, getK kvs (.inr k) = some (f k)
theorem getK_put {kvs : List (Key × D)} {k k' : Key} {v : D} : getK (putD kvs k v) k' = if k' = k then some v else getK kvs k' := by
  unfold putD
  by_cases h : (kvs.any fun q => decide (q.1 = k)) = true
  · rw [if_pos h]
    obtain ⟨q0, hq0, e0⟩ := List.any_eq_true.mp h
    by_cases e : k' = k
    · subst e
      rw [if_pos rfl]
      clear h
      induction kvs with
      | nil => cases hq0
      | cons q p ih =>
        unfold getK
        rw [List.map_cons, List.find?_cons]
        by_cases z : q.1 = k'
        · simp [z]
        · simp only [z, if_false, decide_false]
          rcases List.mem_cons.mp hq0 with y | y
          · subst y; exact absurd (of_decide_eq_true e0) z
          · exact ih y
    · rw [if_neg e]
      clear h hq0
      induction kvs with
      | nil => rfl
      | cons q p ih =>
        unfold getK at ih ⊢
        rw [List.map_cons, List.find?_cons, List.find?_cons]
        by_cases z : q.1 = k
        · have z' : ¬ q.1 = k' := fun y => e (y.symm.trans z)
          have z2 : ¬ k = k' := fun y => e y.symm
          simp only [z, if_true, z2, decide_false]
          exact ih
        · simp only [z, if_false]
          by_cases y : q.1 = k'
          · simp [y]
          · simp only [y, decide_false]; exact ih
  · rw [if_neg h]
    have hn : ∀ q ∈ kvs, ¬ q.1 = k := fun q hq z => h (List.any_eq_true.mpr ⟨q, hq, decide_eq_true z⟩)
    unfold getK
    rw [List.find?_append]
    by_cases e : k' = k
    · subst e
      rw [if_pos rfl]
      have : kvs.find? (fun q => decide (q.1 = k')) = none := List.find?_eq_none.mpr fun q hq z => hn q hq (of_decide_eq_true z)
      rw [this]
      simp
    · rw [if_neg e]
      have e2 : ¬ k = k' := fun z => e z.symm
      cases kvs.find? (fun q => decide (q.1 = k')) <;> simp [e2]
theorem putD_len {kvs : List (Key × D)} {k : Key} {v : D} : (putD kvs k v).length ≤ kvs.length + 1 := by
  unfold putD
  split
  · rw [List.length_map]; omega
  · rw [List.length_append]; exact Nat.le_refl _
theorem putD_keys {kvs : List (Key × D)} {k : Key} {v d : D} (h : getK kvs k = some d) : (putD kvs k v).map (·.1) = kvs.map (·.1) := by
  have e : (kvs.any fun kv => decide (kv.1 = k)) = true := by
    unfold getK at h
    obtain ⟨kv, h1, _⟩ := Option.map_eq_some_iff.mp h
    rw [List.any_eq_true]
    exact ⟨kv, List.mem_of_find?_eq_some h1, by have := List.find?_some h1; exact this⟩
  unfold putD
  rw [if_pos e, List.map_map]
  refine List.map_congr_left fun kv _ => ?_
  simp only [Function.comp]
  split <;> rfl
/-- do_moves: a new dict, behind the moves -/
theorem do_gen {F : Nat → List D → S → R D} {G : Nat → D} {s : S} (w : s.Wf) {a : Nat} {kvs : List (Key × D)} (ha : s.heap a = some (.dK kvs)) {f : Str → D} {ks : List Str} (hk : HoldsD kvs f ks) {M : Prs} (hM : ∀ q ∈ M, q.1 ∈ ks ∧ q.2 ∈ ks) (hl : kvs.length + M.length ≤ 1000) (hf : ∀ k, ∀ n, below n (f k)) (hkf : ∀ q ∈ kvs, ∀ n, below n q.2)
    {X : D} (hX : ∀ s, anyIt X s = .ok (M.map mv, none) s) {Q : D → S → Prop} {E : XP}
    (hQ : ∀ kvs', HoldsD kvs' (conts f M) ks → (∀ q ∈ kvs', ∀ n, below n q.2) → kvs'.map (·.1) = kvs.map (·.1) → Q (.ref s.next) (s.alloc (.dK kvs'))) : wp (callB 2 5 (ev F G doC).s [X, .ref a] s) Q E := by
  generalize hb : (ev F G doLoopC).s = b
  refine wp_callB rfl ?_
  simp only [doC, ev, wps_seq, wps_if, wps_ret, wps_nx, wps_fl, wps_expr, wps_set, wps_setT, wps_setI, wps_setF, wps_lks, wp_bool, wp_tru, wp_notM, wp_andM, wp_orM, wp_ifM, wp_op2, wp_op1, wp_arg, wp_cons, wp_nil, wp_lit, wp_mth, wp_meth, wp_mk, wp_pop, wp_get2, wp_lck, wp_v, wp_ok, wps_ok, List.map_cons, List.map_nil, List.length_cons, List.length_nil, Nat.zero_add, Nat.reduceAdd, Nat.reduceSub, List.replicate_zero, List.replicate_succ, List.cons_append, List.nil_append, List.append_nil, List.getElem?_cons_zero, List.getElem?_cons_succ, List.set_cons_zero, List.set_cons_succ, blF, mtF, opF, cmF, f_add, f_sub, f_mul, f_mod, f_fdiv, f_pow, f_lt, f_le, f_gt, f_ge, f_eqi, f_eqs, f_int, f_neg, upd_heap, upd_next, all_heap, all_next, Bool.false_eq_true, if_true, if_false, decide_eq_true_eq, Nat.sub_self, hb]
  have e1 : dicF [.ref a] s = .ok (.ref s.next) (s.alloc (.dK kvs)) := by simp [dicF, dseqOf, lstOf, dicOf, ha]
  simp only [e1, ev, wps_seq, wps_if, wps_ret, wps_nx, wps_fl, wps_expr, wps_set, wps_setT, wps_setI, wps_setF, wps_lks, wp_bool, wp_tru, wp_notM, wp_andM, wp_orM, wp_ifM, wp_op2, wp_op1, wp_arg, wp_cons, wp_nil, wp_lit, wp_mth, wp_meth, wp_mk, wp_pop, wp_get2, wp_lck, wp_v, wp_ok, wps_ok, List.map_cons, List.map_nil, List.length_cons, List.length_nil, Nat.zero_add, Nat.reduceAdd, Nat.reduceSub, List.replicate_zero, List.replicate_succ, List.cons_append, List.nil_append, List.append_nil, List.getElem?_cons_zero, List.getElem?_cons_succ, List.set_cons_zero, List.set_cons_succ, blF, mtF, opF, cmF, f_add, f_sub, f_mul, f_mod, f_fdiv, f_pow, f_lt, f_le, f_gt, f_ge, f_eqi, f_eqs, f_int, f_neg, upd_heap, upd_next, all_heap, all_next, Bool.false_eq_true, if_true, if_false, decide_eq_true_eq, Nat.sub_self]
  have hi : anyItM (varM 0) [some X, some (D.ref a), some (D.ref s.next), none, none] (s.alloc (.dK kvs)) = .ok (M.map mv, none) (s.alloc (.dK kvs)) := by
    simp only [anyItM, varM, List.getElem?_cons_zero, bd_ok]
    exact hX _
  refine wps_for (fun i env t => ∃ (x3 x4 : Option D) (kv : List (Key × D)), env = [some X, some (D.ref a), some (D.ref s.next), x3, x4] ∧ t = s.alloc (.dK kv) ∧ HoldsD kv (conts f (M.take i)) ks ∧ kv.length ≤ kvs.length + i ∧ (∀ q ∈ kv, ∀ n, below n q.2) ∧ kv.map (·.1) = kvs.map (·.1)) hi
    ⟨none, none, kvs, rfl, rfl, hk, Nat.le_refl _, hkf, rfl⟩ (fun _ _ _ _ _ => trivial) (fun i d env t hd hi => ?_) fun env t hi => ?_
  · obtain ⟨x3, x4, kv, rfl, rfl, hh, hkl, hbl, hke⟩ := hi
    rw [List.getElem?_map] at hd
    obtain ⟨q, hq, rfl⟩ := Option.map_eq_some_iff.mp hd
    have hlt : i < M.length := (List.getElem?_eq_some_iff.mp hq).1
    obtain ⟨m1, m2⟩ := hM q (List.mem_of_getElem? hq)
    refine ⟨_, rfl, ?_⟩
    subst hb
    simp only [doLoopC, ev, wps_seq, wps_if, wps_ret, wps_nx, wps_fl, wps_expr, wps_set, wps_setT, wps_setI, wps_setF, wps_lks, wp_bool, wp_tru, wp_notM, wp_andM, wp_orM, wp_ifM, wp_op2, wp_op1, wp_arg, wp_cons, wp_nil, wp_lit, wp_mth, wp_meth, wp_mk, wp_pop, wp_get2, wp_lck, wp_v, wp_ok, wps_ok, List.map_cons, List.map_nil, List.length_cons, List.length_nil, Nat.zero_add, Nat.reduceAdd, Nat.reduceSub, List.replicate_zero, List.replicate_succ, List.cons_append, List.nil_append, List.append_nil, List.getElem?_cons_zero, List.getElem?_cons_succ, List.set_cons_zero, List.set_cons_succ, blF, mtF, opF, cmF, f_add, f_sub, f_mul, f_mod, f_fdiv, f_pow, f_lt, f_le, f_gt, f_ge, f_eqi, f_eqs, f_int, f_neg, upd_heap, upd_next, all_heap, all_next, Bool.false_eq_true, if_true, if_false, decide_eq_true_eq, Nat.sub_self, List.set_cons_zero, List.set_cons_succ, asgL]
    have hs : (s.alloc (.dK kv)).heap s.next = some (.dK kv) := if_pos rfl
    have e2 : ixF (.ref s.next) (.str q.2) (s.alloc (.dK kv)) = .ok (conts f (M.take i) q.2) (s.alloc (.dK kv)) := by
      simp [ixF, seqOf, lstOf, hs, dget, dicOf, keyOf, hh q.2 m2]
    simp only [e2, ev, wps_seq, wps_if, wps_ret, wps_nx, wps_fl, wps_expr, wps_set, wps_setT, wps_setI, wps_setF, wps_lks, wp_bool, wp_tru, wp_notM, wp_andM, wp_orM, wp_ifM, wp_op2, wp_op1, wp_arg, wp_cons, wp_nil, wp_lit, wp_mth, wp_meth, wp_mk, wp_pop, wp_get2, wp_lck, wp_v, wp_ok, wps_ok, List.map_cons, List.map_nil, List.length_cons, List.length_nil, Nat.zero_add, Nat.reduceAdd, Nat.reduceSub, List.replicate_zero, List.replicate_succ, List.cons_append, List.nil_append, List.append_nil, List.getElem?_cons_zero, List.getElem?_cons_succ, List.set_cons_zero, List.set_cons_succ, blF, mtF, opF, cmF, f_add, f_sub, f_mul, f_mod, f_fdiv, f_pow, f_lt, f_le, f_gt, f_ge, f_eqi, f_eqs, f_int, f_neg, upd_heap, upd_next, all_heap, all_next, Bool.false_eq_true, if_true, if_false, decide_eq_true_eq, Nat.sub_self]
    have e3 : Co.putF (.ref s.next) (.str q.1) (conts f (M.take i) q.2) (s.alloc (.dK kv)) = some (s.alloc (.dK (putD kv (.inr q.1) (conts f (M.take i) q.2)))) := by
      have lP : kv.length < LINE := by rw [line_is]; omega
      simp only [Co.putF, hs, keyOf, lP, if_true, alloc_upd]
    simp only [e3, ev, wps_seq, wps_if, wps_ret, wps_nx, wps_fl, wps_expr, wps_set, wps_setT, wps_setI, wps_setF, wps_lks, wp_bool, wp_tru, wp_notM, wp_andM, wp_orM, wp_ifM, wp_op2, wp_op1, wp_arg, wp_cons, wp_nil, wp_lit, wp_mth, wp_meth, wp_mk, wp_pop, wp_get2, wp_lck, wp_v, wp_ok, wps_ok, List.map_cons, List.map_nil, List.length_cons, List.length_nil, Nat.zero_add, Nat.reduceAdd, Nat.reduceSub, List.replicate_zero, List.replicate_succ, List.cons_append, List.nil_append, List.append_nil, List.getElem?_cons_zero, List.getElem?_cons_succ, List.set_cons_zero, List.set_cons_succ, blF, mtF, opF, cmF, f_add, f_sub, f_mul, f_mod, f_fdiv, f_pow, f_lt, f_le, f_gt, f_ge, f_eqi, f_eqs, f_int, f_neg, upd_heap, upd_next, all_heap, all_next, Bool.false_eq_true, if_true, if_false, decide_eq_true_eq, Nat.sub_self]
    have et : M.take (i + 1) = M.take i ++ [q] := by
      rw [List.take_add_one, hq]; rfl
    refine ⟨_, _, _, rfl, rfl, fun k hk' => ?_, ?_, fun y hy n => ?_, (putD_keys (hh q.1 m1)).trans hke⟩
    · rw [et, conts_snoc, getK_put]
      unfold putC
      by_cases z : k = q.1
      · rw [z, if_pos rfl, if_pos rfl]
      · rw [if_neg z, if_neg fun y => z (Sum.inr.inj y)]
        exact hh k hk'
    · have := putD_len (kvs := kv) (k := .inr q.1) (v := conts f (M.take i) q.2)
      omega
    · have hb2 : ∀ n, below n (conts f (M.take i) q.2) := by
        have key : ∀ (M : Prs) (f : Str → D), (∀ k n, below n (f k)) → ∀ k n, below n (conts f M k) := by
          intro M
          induction M with
          | nil => exact fun f h => h
          | cons a M ih =>
            intro f h
            exact ih (putC f a) fun k n => by unfold putC; split <;> exact h _ _
        exact key _ _ hf _
      unfold putD at hy
      split at hy
      · obtain ⟨z, hz, rfl⟩ := List.mem_map.mp hy
        split
        · exact hb2 n
        · exact hbl z hz n
      · rcases List.mem_append.mp hy with z | z
        · exact hbl y z n
        · rw [List.mem_singleton.mp z]; exact hb2 n
  · obtain ⟨x3, x4, kv, rfl, rfl, hh, hkl, hbl, hke⟩ := hi
    simp only [ev, wps_seq, wps_if, wps_ret, wps_nx, wps_fl, wps_expr, wps_set, wps_setT, wps_setI, wps_setF, wps_lks, wp_bool, wp_tru, wp_notM, wp_andM, wp_orM, wp_ifM, wp_op2, wp_op1, wp_arg, wp_cons, wp_nil, wp_lit, wp_mth, wp_meth, wp_mk, wp_pop, wp_get2, wp_lck, wp_v, wp_ok, wps_ok, List.map_cons, List.map_nil, List.length_cons, List.length_nil, Nat.zero_add, Nat.reduceAdd, Nat.reduceSub, List.replicate_zero, List.replicate_succ, List.cons_append, List.nil_append, List.append_nil, List.getElem?_cons_zero, List.getElem?_cons_succ, List.set_cons_zero, List.set_cons_succ, blF, mtF, opF, cmF, f_add, f_sub, f_mul, f_mod, f_fdiv, f_pow, f_lt, f_le, f_gt, f_ge, f_eqi, f_eqs, f_int, f_neg, upd_heap, upd_next, all_heap, all_next, Bool.false_eq_true, if_true, if_false, decide_eq_true_eq, Nat.sub_self]
    rw [List.length_map, List.take_length] at hh
    have hg : gcS s.next [D.ref s.next] (s.alloc (.dK kv)) = s.alloc (.dK kv) := by
      unfold gcS
      rw [if_neg]
      intro z
      have : s.next < s.next := z.1.1
      exact Nat.lt_irrefl _ this
    rw [hg]
    exact hQ kv hh hbl hke
end Co
namespace Co
open PySem L2
/-! ### the law's own ordering -/
def loMakeC : C := (.seq
 (.set 5 (.pop (.var 3) (.int 0)))
 (.seq
 (.set 6 (.ix (.lc false (.name 7) [7] (.it (.var 1)) (.tcmp .eq (.ix (.var 7) (.int 0)) (.var 5)) (.ix (.var 7) (.int 1))) (.int 0)))
 (.seq
 (.ex (.mt .app (.var 4) (.cons (.tup (.cons (.var 5) (.cons (.ix (.var 2) (.var 6)) .nil))) .nil)))
 (.seq
 (.set 1 (.lc false (.name 7) [7] (.it (.var 1)) (.tcmp .ne (.ix (.var 7) (.int 0)) (.var 5)) (.var 7)))
 (.seq
 (.set 8 (.ix (.var 2) (.var 6)))
 (.seq
 (.setI (.var 2) (.var 6) (.var 5))
 (.seq
 (.ifs (.tand (.tcmp .eq (.var 8) (.var 6)) (.tand1 (.tcmp .in_ (.var 6) (.lc false (.name 7) [7] (.it (.var 1)) .yes (.ix (.var 7) (.int 0)))))) (.seq
 (.ex (.mt .app (.var 3) (.cons (.var 6) .nil)))
 .skip) .skip)
 .skip)))))))
def loPartC : C := (.seq
 (.set 5 (.ix (.ix (.var 1) (.int 0)) (.int 0)))
 (.seq
 (.ex (.mt .app (.var 4) (.cons (.tup (.cons (.str "t") (.cons (.var 5) .nil))) .nil)))
 (.seq
 (.setI (.var 2) (.var 5) (.str "t"))
 (.seq
 (.ex (.mt .app (.var 3) (.cons (.var 5) .nil)))
 .skip))))
def loLoopC : C := (.seq
 (.ifs (.tcmp .gt (.blt .len false (.cons (.var 3) .nil)) (.int 0)) loMakeC loPartC)
 .skip)
def loSelfC : C := (.seq
 (.setI (.var 2) (.var 6) (.var 6))
 .skip)
def loC : C := (.seq
 (.set 1 (.lc false (.name 7) [7] (.it (.var 0)) (.tcmp .ne (.ix (.var 7) (.int 0)) (.ix (.var 7) (.int 1))) (.var 7)))
 (.seq
 (.set 2 .dnew)
 (.seq
 (.fors (.tup [5, 6]) (.it (.var 1)) loSelfC)
 (.seq
 (.setC 3 true (.name 7) [7] (.it (.var 1)) (.tcmp .nin (.ix (.var 7) (.int 0)) (.lc false (.name 9) [9] (.it (.var 1)) .yes (.ix (.var 9) (.int 1)))) (.ix (.var 7) (.int 0)))
 (.seq
 (.set 4 (.lst true .nil))
 (.seq
 (.whl (.tcmp .gt (.blt .len false (.cons (.var 1) .nil)) (.int 0)) loLoopC)
 (.seq
 (.ret (.blt .tup false (.cons (.var 4) .nil)))
 .skip)))))))
section
variable {F : Nat → List D → S → R D} {G : Nat → D} {env : Env} {s : S}
theorem ix_mv0 (q : Str × Str) : ixF (mv q) (.int 0) s = .ok (.str q.1) s := by simp [mv, ixF, seqOf, lstOf, atI, ixN]
theorem ix_mv1 (q : Str × Str) : ixF (mv q) (.int 1) s = .ok (.str q.2) s := by simp [mv, ixF, seqOf, lstOf, atI, ixN]
theorem ev_ix0 {i : Nat} {q : Str × Str} (h : env[i]? = some (some (mv q))) : op2M ixF (varM i) (litM (.int 0)) env s = .ok (.str q.1) s := by
  simp only [op2M, varM, litM, h, bd_ok, ix_mv0]
theorem ev_ix1 {i : Nat} {q : Str × Str} (h : env[i]? = some (some (mv q))) : op2M ixF (varM i) (litM (.int 1)) env s = .ok (.str q.2) s := by
  simp only [op2M, varM, litM, h, bd_ok, ix_mv1]
theorem it_lv {i : Nat} {ds : List D} (h : env[i]? = some (some (.lv ds))) : anyItM (varM i) env s = .ok (ds, none) s := by
  simp [anyItM, varM, h, bd_ok, anyIt, lkOf, lkTOf, lstIt, lstOf, gdOf]
theorem filt_at (L : Prs) (d : Str) : ((L.filter fun q => decide (q.1 = d)).map fun q => D.str q.2)[0]? = (getS L d).map .str := by
  unfold getS
  induction L with
  | nil => rfl
  | cons q L ih =>
    rw [List.filter_cons, List.find?_cons]
    by_cases h : q.1 = d
    · simp [h]
    · simp only [h, decide_false, Bool.false_eq_true, if_false]
      exact ih
/-- a choice of pairs, by a test -/
def fPick (c : Str × Str → Prop) [DecidablePred c] (g : Str × Str → D) (d : D) : Option D := match d with
  | .tup [.str a, .str b] => if c (a, b) then some (g (a, b)) else none
  | _ => none
theorem fPick_all (c : Str × Str → Prop) [DecidablePred c] (g : Str × Str → D) (L : Prs) : (L.map mv).filterMap (fPick c g) = (L.filter fun q => decide (c q)).map g := by
  induction L with
  | nil => rfl
  | cons q L ih =>
    rw [List.map_cons, List.filterMap_cons, List.filter_cons]
    by_cases h : c q
    · have e : fPick c g (mv q) = some (g q) := if_pos h
      rw [e, if_pos (decide_eq_true h), List.map_cons]
      simp only
      rw [ih]
    · have e : fPick c g (mv q) = none := if_neg h
      rw [e, if_neg (by simpa using h)]
      exact ih
/-- a comprehension that picks pairs -/
theorem wp_pick {m : Bool} {t : Tg} {it : ME Itm} {own : List Nat} {tst : ME Bool} {elt : ME D} {s1 : S} {L : Prs} {gd : Option (Nat × Ob)} {Q : D → S → Prop} {E : XP} (hi : it env s = .ok (L.map mv, gd) s1) (c : Str × Str → Prop) [DecidablePred c] (g : Str × Str → D) (hg : GdOk gd s1)
    (h : ∀ q ∈ L, ∃ env1, asg t (mv q) s1 (wipeE env own) = some env1 ∧ tst env1 s1 = .ok (decide (c q)) s1 ∧ elt env1 s1 = .ok (g q) s1) (hl : L.length ≤ LINE) (hQ : wp (mkL m ((L.filter fun q => decide (c q)).map g) s1) Q E) : wp (lcM m t it own tst elt env s) Q E := by
  refine wp_lc hi (fPick c g) hg (fun d hd => ?_) (by rw [List.length_map]; exact hl) (by rw [fPick_all]; exact hQ)
  obtain ⟨q, hq, rfl⟩ := List.mem_map.mp hd
  obtain ⟨env1, h1, h2, h3⟩ := h q hq
  refine ⟨env1, h1, ?_⟩
  by_cases z : c q
  · have e : fPick c g (mv q) = some (g q) := if_pos z
    rw [e]
    rw [decide_eq_true z] at h2
    exact ⟨h2, h3⟩
  · have e : fPick c g (mv q) = none := if_neg z
    rw [e]
    rw [decide_eq_false z] at h2
    exact h2
theorem mkL_lv {ds : List D} (h : ds.length ≤ 1000) : mkL false ds s = .ok (.lv ds) s := by
  have z : ds.length ≤ LINE := by rw [line_is]; omega
  simp only [mkL, z, if_true, Bool.false_eq_true, if_false]
theorem mkL_ref {ds : List D} (h : ds.length ≤ 1000) : mkL true ds s = .ok (.ref s.next) (s.alloc (.lst ds)) := by
  have z : ds.length ≤ LINE := by rw [line_is]; omega
  simp only [mkL, z, if_true]
end
/-- the heap amid the law's own ordering -/
structure LoAt (s0 s : S) (a b c : Nat) (t : Od) : Prop where
  ha : s.heap a = some (.dK (kd t.P))
  hb : s.heap b = some (.lst (t.R.map .str))
  hc : s.heap c = some (.lst (t.M.map mv))
  ne : a ≠ b ∧ a ≠ c ∧ b ≠ c
  old : s0.next ≤ a ∧ s0.next ≤ b ∧ s0.next ≤ c
  same : ∀ x, x < s0.next → s.heap x = s0.heap x
theorem LoAt.upda {s0 s : S} {a b c : Nat} {t : Od} (h : LoAt s0 s a b c t) (P : Prs) : LoAt s0 (s.upd a (.dK (kd P))) a b c ⟨t.L, P, t.R, t.M⟩ := by
  obtain ⟨n1, n2, n3⟩ := h.ne
  obtain ⟨o1, o2, o3⟩ := h.old
  exact ⟨by rw [upd_heap, if_pos rfl], by rw [upd_heap, if_neg (Ne.symm n1)]; exact h.hb, by rw [upd_heap, if_neg (Ne.symm n2)]; exact h.hc, h.ne, h.old, fun x hx => by rw [upd_heap, if_neg (by omega)]; exact h.same x hx⟩
theorem LoAt.updb {s0 s : S} {a b c : Nat} {t : Od} (h : LoAt s0 s a b c t) (R : List Str) : LoAt s0 (s.upd b (.lst (R.map .str))) a b c ⟨t.L, t.P, R, t.M⟩ := by
  obtain ⟨n1, n2, n3⟩ := h.ne
  obtain ⟨o1, o2, o3⟩ := h.old
  exact ⟨by rw [upd_heap, if_neg n1]; exact h.ha, by rw [upd_heap, if_pos rfl], by rw [upd_heap, if_neg (Ne.symm n3)]; exact h.hc, h.ne, h.old, fun x hx => by rw [upd_heap, if_neg (by omega)]; exact h.same x hx⟩
theorem LoAt.updc {s0 s : S} {a b c : Nat} {t : Od} (h : LoAt s0 s a b c t) (M : Prs) : LoAt s0 (s.upd c (.lst (M.map mv))) a b c ⟨t.L, t.P, t.R, M⟩ := by
  obtain ⟨n1, n2, n3⟩ := h.ne
  obtain ⟨o1, o2, o3⟩ := h.old
  exact ⟨by rw [upd_heap, if_neg n2]; exact h.ha, by rw [upd_heap, if_neg n3]; exact h.hb, by rw [upd_heap, if_pos rfl], h.ne, h.old, fun x hx => by rw [upd_heap, if_neg (by omega)]; exact h.same x hx⟩
theorem LoAt.left {s0 s : S} {a b c : Nat} {t : Od} (h : LoAt s0 s a b c t) (L : Prs) : LoAt s0 s a b c ⟨L, t.P, t.R, t.M⟩ := ⟨h.ha, h.hb, h.hc, h.ne, h.old, h.same⟩
section
variable {F : Nat → List D → S → R D} {G : Nat → D} {s0 s : S} {a b c : Nat} {t : Od} {X : D} {x5 x6 x7 x8 x9 : Option D}
theorem LoAt.app {M : Prs} {q : Str × Str} (h : s.heap c = some (.lst (M.map mv))) (hl : M.length ≤ 1000) : appF (.ref c) [mv q] s = .ok .non (s.upd c (.lst ((M ++ [q]).map mv))) := by
  have z : (M.map mv).length < LINE := by rw [line_is, List.length_map]; omega
  simp only [appF, hlOf, h, z, if_true]
  rw [List.map_append]
  rfl
theorem LoAt.apr {M : List Str} {q : Str} (h : s.heap c = some (.lst (M.map .str))) (hl : M.length ≤ 1000) : appF (.ref c) [.str q] s = .ok .non (s.upd c (.lst ((M ++ [q]).map .str))) := by
  have z : (M.map D.str).length < LINE := by rw [line_is, List.length_map]; omega
  simp only [appF, hlOf, h, z, if_true]
  rw [List.map_append]
  rfl
theorem LoAt.put {P : Prs} {k v : Str} (h : s.heap a = some (.dK (kd P))) (hl : P.length ≤ 1000) : Co.putF (.ref a) (.str k) (.str v) s = some (s.upd a (.dK (kd (putS P k v)))) := by
  have z : (kd P).length < LINE := by rw [line_is]; unfold kd; rw [List.length_map]; omega
  simp only [Co.putF, h, keyOf, z, if_true, putD_kd]
theorem LoAt.get {P : Prs} {k v : Str} (h : s.heap a = some (.dK (kd P))) (e : getS P k = some v) : ixF (.ref a) (.str k) s = .ok (.str v) s := by
  simp [ixF, seqOf, lstOf, h, dget, dicOf, keyOf, getK_kd, e]
theorem mkT2 {x y : D} : mkT [x, y] s = .ok (.tup [x, y]) s := by
  unfold mkT
  rw [if_pos (by rw [line_is]; simp)]
theorem lo_part (h : LoAt s0 s a b c t) {d src : Str} {L' : Prs} (hL : t.L = (d, src) :: L') (hR : t.R.length ≤ 1000) (hM : t.M.length ≤ 1000) (hP : t.P.length ≤ 1000) {Q : QS}
    (hQ : ∀ s' x5, LoAt s0 s' a b c t.part → Q .nx [some X, some (.lv (t.L.map mv)), some (.ref a), some (.ref b), some (.ref c), x5, x6, x7, x8, x9] s') :
    wps ((ev F G loPartC).s [some X, some (.lv (t.L.map mv)), some (.ref a), some (.ref b), some (.ref c), x5, x6, x7, x8, x9] s) Q := by
  simp only [loPartC, ev, wps_seq, wps_if, wps_ret, wps_nx, wps_fl, wps_expr, wps_set, wps_setT, wps_setI, wps_setF, wps_lks, wp_bool, wp_tru, wp_notM, wp_andM, wp_orM, wp_ifM, wp_op2, wp_op1, wp_arg, wp_cons, wp_nil, wp_lit, wp_mth, wp_meth, wp_mk, wp_pop, wp_get2, wp_lck, wp_v, wp_ok, wps_ok, List.map_cons, List.map_nil, List.length_cons, List.length_nil, Nat.zero_add, Nat.reduceAdd, Nat.reduceSub, List.replicate_zero, List.replicate_succ, List.cons_append, List.nil_append, List.append_nil, List.getElem?_cons_zero, List.getElem?_cons_succ, List.set_cons_zero, List.set_cons_succ, blF, mtF, opF, cmF, f_add, f_sub, f_mul, f_mod, f_fdiv, f_pow, f_lt, f_le, f_gt, f_ge, f_eqi, f_eqs, f_int, f_neg, upd_heap, upd_next, all_heap, all_next, Bool.false_eq_true, if_true, if_false, decide_eq_true_eq, Nat.sub_self]
  have e1 : ixF (.lv (t.L.map mv)) (.int 0) s = .ok (mv (d, src)) s := by rw [hL]; simp [ixF, seqOf, lstOf, atI, ixN]
  have e2 : isLst (.ref c) s = true := by simp [isLst, lstOf, h.hc]
  have e3 : appF (.ref c) [.tup [.str "t", .str d]] s = _ := LoAt.app (q := ("t", d)) h.hc hM
  simp only [e1, ix_mv0, e2, mkT2, e3, ev, wps_seq, wps_if, wps_ret, wps_nx, wps_fl, wps_expr, wps_set, wps_setT, wps_setI, wps_setF, wps_lks, wp_bool, wp_tru, wp_notM, wp_andM, wp_orM, wp_ifM, wp_op2, wp_op1, wp_arg, wp_cons, wp_nil, wp_lit, wp_mth, wp_meth, wp_mk, wp_pop, wp_get2, wp_lck, wp_v, wp_ok, wps_ok, List.map_cons, List.map_nil, List.length_cons, List.length_nil, Nat.zero_add, Nat.reduceAdd, Nat.reduceSub, List.replicate_zero, List.replicate_succ, List.cons_append, List.nil_append, List.append_nil, List.getElem?_cons_zero, List.getElem?_cons_succ, List.set_cons_zero, List.set_cons_succ, blF, mtF, opF, cmF, f_add, f_sub, f_mul, f_mod, f_fdiv, f_pow, f_lt, f_le, f_gt, f_ge, f_eqi, f_eqs, f_int, f_neg, upd_heap, upd_next, all_heap, all_next, Bool.false_eq_true, if_true, if_false, decide_eq_true_eq, Nat.sub_self]
  have h2 := h.updc (t.M ++ [(("t" : Str), d)])
  generalize s.upd c (.lst ((t.M ++ [(("t" : Str), d)]).map mv)) = s2 at h2 ⊢
  have e4 : Co.putF (.ref a) (.str d) (.str "t") s2 = _ := LoAt.put h2.ha hP
  simp only [e4, ev, wps_seq, wps_if, wps_ret, wps_nx, wps_fl, wps_expr, wps_set, wps_setT, wps_setI, wps_setF, wps_lks, wp_bool, wp_tru, wp_notM, wp_andM, wp_orM, wp_ifM, wp_op2, wp_op1, wp_arg, wp_cons, wp_nil, wp_lit, wp_mth, wp_meth, wp_mk, wp_pop, wp_get2, wp_lck, wp_v, wp_ok, wps_ok, List.map_cons, List.map_nil, List.length_cons, List.length_nil, Nat.zero_add, Nat.reduceAdd, Nat.reduceSub, List.replicate_zero, List.replicate_succ, List.cons_append, List.nil_append, List.append_nil, List.getElem?_cons_zero, List.getElem?_cons_succ, List.set_cons_zero, List.set_cons_succ, blF, mtF, opF, cmF, f_add, f_sub, f_mul, f_mod, f_fdiv, f_pow, f_lt, f_le, f_gt, f_ge, f_eqi, f_eqs, f_int, f_neg, upd_heap, upd_next, all_heap, all_next, Bool.false_eq_true, if_true, if_false, decide_eq_true_eq, Nat.sub_self]
  have h3 := h2.upda (putS t.P d "t")
  generalize s2.upd a (.dK (kd (putS t.P d "t"))) = s3 at h3 ⊢
  have e5 : isLst (.ref b) s3 = true := by simp [isLst, lstOf, h3.hb]
  have e6 : appF (.ref b) [.str d] s3 = _ := LoAt.apr h3.hb hR
  simp only [e5, e6, ev, wps_seq, wps_if, wps_ret, wps_nx, wps_fl, wps_expr, wps_set, wps_setT, wps_setI, wps_setF, wps_lks, wp_bool, wp_tru, wp_notM, wp_andM, wp_orM, wp_ifM, wp_op2, wp_op1, wp_arg, wp_cons, wp_nil, wp_lit, wp_mth, wp_meth, wp_mk, wp_pop, wp_get2, wp_lck, wp_v, wp_ok, wps_ok, List.map_cons, List.map_nil, List.length_cons, List.length_nil, Nat.zero_add, Nat.reduceAdd, Nat.reduceSub, List.replicate_zero, List.replicate_succ, List.cons_append, List.nil_append, List.append_nil, List.getElem?_cons_zero, List.getElem?_cons_succ, List.set_cons_zero, List.set_cons_succ, blF, mtF, opF, cmF, f_add, f_sub, f_mul, f_mod, f_fdiv, f_pow, f_lt, f_le, f_gt, f_ge, f_eqi, f_eqs, f_int, f_neg, upd_heap, upd_next, all_heap, all_next, Bool.false_eq_true, if_true, if_false, decide_eq_true_eq, Nat.sub_self]
  have h4 := h3.updb (t.R ++ [d])
  refine hQ _ _ ?_
  have ep : t.part = ⟨t.L, putS t.P d "t", t.R ++ [d], t.M ++ [(("t" : Str), d)]⟩ := by unfold Od.part; rw [hL]
  rw [ep]
  exact h4
end
end Co
namespace Co
open PySem L2
section
variable {F : Nat → List D → S → R D} {G : Nat → D} {s0 s : S} {a b c : Nat} {t : Od} {X : D} {x5 x6 x7 x8 x9 : Option D}
theorem in_keys (vs : List Str) (x : Str) (s : S) : inF false (.str x) (.lv (vs.map .str)) s = .ok (.bl (decide (x ∈ vs))) s := by
  have h := inr_any vs x s
  unfold inF at h ⊢
  cases e : memD (.str x) (.lv (vs.map .str)) s with
  | none => rw [e] at h; cases h
  | some k =>
    rw [e] at h
    simp only [if_true, R.ok.injEq, D.bl.injEq, and_true] at h
    simp only [Bool.false_eq_true, if_false]
    have : k = decide (x ∈ vs) := by
      by_cases z : x ∈ vs
      · rw [decide_eq_true z]
        rw [decide_eq_false (by simpa using z)] at h
        simpa using h
      · rw [decide_eq_false z]
        rw [decide_eq_true z] at h
        simpa using h
    rw [this]
theorem ix_zero {ds : List D} {d : D} (h : ds[0]? = some d) : ixF (.lv ds) (.int 0) s = .ok d s := by
  cases ds with
  | nil => cases h
  | cons e ds =>
    cases h
    simp [ixF, seqOf, lstOf, atI, ixN]
theorem lo_make (h : LoAt s0 s a b c t) {d src x : Str} {R' : List Str} {t' : Od} (md : Made t d src x R' t') (hl : t.L.length ≤ 1000) (hR : t.R.length ≤ 1000) (hM : t.M.length ≤ 1000) (hP : t.P.length ≤ 1000) {Q : QS}
    (hQ : ∀ s' x5 x6 x8, LoAt s0 s' a b c t' → Q .nx [some X, some (.lv (t'.L.map mv)), some (.ref a), some (.ref b), some (.ref c), x5, x6, x7, x8, x9] s') :
    wps ((ev F G loMakeC).s [some X, some (.lv (t.L.map mv)), some (.ref a), some (.ref b), some (.ref c), x5, x6, x7, x8, x9] s) Q := by
  obtain ⟨mR, hs, hx, et⟩ := md
  have lR' : R'.length ≤ 1000 := by rw [mR, List.length_cons] at hR; omega
  have lf : ∀ (c : Str × Str → Prop) [DecidablePred c] (g : Str × Str → D), ((t.L.filter fun q => decide (c q)).map g).length ≤ 1000 := fun c _ g => by
    rw [List.length_map]; exact Nat.le_trans (List.length_filter_le _ _) hl
  have hb := h.hb
  rw [mR] at hb
  simp only [loMakeC, ev, wps_seq, wps_if, wps_ret, wps_nx, wps_fl, wps_expr, wps_set, wps_setT, wps_setI, wps_setF, wps_lks, wp_bool, wp_tru, wp_notM, wp_andM, wp_orM, wp_ifM, wp_op2, wp_op1, wp_arg, wp_cons, wp_nil, wp_lit, wp_mth, wp_meth, wp_mk, wp_pop, wp_get2, wp_lck, wp_v, wp_ok, wps_ok, List.map_cons, List.map_nil, List.length_cons, List.length_nil, Nat.zero_add, Nat.reduceAdd, Nat.reduceSub, List.replicate_zero, List.replicate_succ, List.cons_append, List.nil_append, List.append_nil, List.getElem?_cons_zero, List.getElem?_cons_succ, List.set_cons_zero, List.set_cons_succ, blF, mtF, opF, cmF, f_add, f_sub, f_mul, f_mod, f_fdiv, f_pow, f_lt, f_le, f_gt, f_ge, f_eqi, f_eqs, f_int, f_neg, upd_heap, upd_next, all_heap, all_next, Bool.false_eq_true, if_true, if_false, decide_eq_true_eq, Nat.sub_self]
  have e1 : isLst (.ref b) s = true := by simp [isLst, lstOf, hb]
  have e2 : pop1F (.ref b) [.int 0] s = .ok (.str d) (s.upd b (.lst (R'.map .str))) := by
    have z : Ix63 0 := ⟨by decide, by decide⟩
    simp [pop1F, hlOf, hb, z, seqIndex?]
  simp only [e1, e2, ev, wps_seq, wps_if, wps_ret, wps_nx, wps_fl, wps_expr, wps_set, wps_setT, wps_setI, wps_setF, wps_lks, wp_bool, wp_tru, wp_notM, wp_andM, wp_orM, wp_ifM, wp_op2, wp_op1, wp_arg, wp_cons, wp_nil, wp_lit, wp_mth, wp_meth, wp_mk, wp_pop, wp_get2, wp_lck, wp_v, wp_ok, wps_ok, List.map_cons, List.map_nil, List.length_cons, List.length_nil, Nat.zero_add, Nat.reduceAdd, Nat.reduceSub, List.replicate_zero, List.replicate_succ, List.cons_append, List.nil_append, List.append_nil, List.getElem?_cons_zero, List.getElem?_cons_succ, List.set_cons_zero, List.set_cons_succ, blF, mtF, opF, cmF, f_add, f_sub, f_mul, f_mod, f_fdiv, f_pow, f_lt, f_le, f_gt, f_ge, f_eqi, f_eqs, f_int, f_neg, upd_heap, upd_next, all_heap, all_next, Bool.false_eq_true, if_true, if_false, decide_eq_true_eq, Nat.sub_self]
  have h1 := h.updb R'
  generalize s.upd b (.lst (R'.map .str)) = s1 at h1 ⊢
  refine wp_pick (it_lv rfl) (fun q => q.1 = d) (fun q => .str q.2) trivial (fun q hq => ⟨_, rfl, ?_, ?_⟩) (by rw [line_is]; omega) ?_
  · simp only [boolM, op2M, varM, litM, wipeE, List.set_cons_zero, List.set_cons_succ, List.getElem?_cons_zero, List.getElem?_cons_succ, bd_ok, ix_mv0, cmF, f_eqs, Bool.false_eq_true, if_false]
  · simp only [op2M, varM, litM, wipeE, List.set_cons_zero, List.set_cons_succ, List.getElem?_cons_zero, List.getElem?_cons_succ, bd_ok, ix_mv1]
  rw [mkL_lv (lf _ _)]
  have e3 : ixF (.lv ((t.L.filter fun q => decide (q.1 = d)).map fun q => D.str q.2)) (.int 0) s1 = .ok (.str src) s1 := by
    have z := filt_at t.L d
    rw [hs] at z
    exact ix_zero z
  simp only [e3, ev, wps_seq, wps_if, wps_ret, wps_nx, wps_fl, wps_expr, wps_set, wps_setT, wps_setI, wps_setF, wps_lks, wp_bool, wp_tru, wp_notM, wp_andM, wp_orM, wp_ifM, wp_op2, wp_op1, wp_arg, wp_cons, wp_nil, wp_lit, wp_mth, wp_meth, wp_mk, wp_pop, wp_get2, wp_lck, wp_v, wp_ok, wps_ok, List.map_cons, List.map_nil, List.length_cons, List.length_nil, Nat.zero_add, Nat.reduceAdd, Nat.reduceSub, List.replicate_zero, List.replicate_succ, List.cons_append, List.nil_append, List.append_nil, List.getElem?_cons_zero, List.getElem?_cons_succ, List.set_cons_zero, List.set_cons_succ, blF, mtF, opF, cmF, f_add, f_sub, f_mul, f_mod, f_fdiv, f_pow, f_lt, f_le, f_gt, f_ge, f_eqi, f_eqs, f_int, f_neg, upd_heap, upd_next, all_heap, all_next, Bool.false_eq_true, if_true, if_false, decide_eq_true_eq, Nat.sub_self]
  have e4 : isLst (.ref c) s1 = true := by simp [isLst, lstOf, h1.hc]
  have e5 : ixF (.ref a) (.str src) s1 = _ := LoAt.get h1.ha hx
  have e6 : appF (.ref c) [.tup [.str d, .str x]] s1 = _ := LoAt.app (q := (d, x)) h1.hc hM
  simp only [e4, e5, mkT2, e6, ev, wps_seq, wps_if, wps_ret, wps_nx, wps_fl, wps_expr, wps_set, wps_setT, wps_setI, wps_setF, wps_lks, wp_bool, wp_tru, wp_notM, wp_andM, wp_orM, wp_ifM, wp_op2, wp_op1, wp_arg, wp_cons, wp_nil, wp_lit, wp_mth, wp_meth, wp_mk, wp_pop, wp_get2, wp_lck, wp_v, wp_ok, wps_ok, List.map_cons, List.map_nil, List.length_cons, List.length_nil, Nat.zero_add, Nat.reduceAdd, Nat.reduceSub, List.replicate_zero, List.replicate_succ, List.cons_append, List.nil_append, List.append_nil, List.getElem?_cons_zero, List.getElem?_cons_succ, List.set_cons_zero, List.set_cons_succ, blF, mtF, opF, cmF, f_add, f_sub, f_mul, f_mod, f_fdiv, f_pow, f_lt, f_le, f_gt, f_ge, f_eqi, f_eqs, f_int, f_neg, upd_heap, upd_next, all_heap, all_next, Bool.false_eq_true, if_true, if_false, decide_eq_true_eq, Nat.sub_self]
  have h2 := h1.updc (t.M ++ [(d, x)])
  generalize s1.upd c (.lst ((t.M ++ [(d, x)]).map mv)) = s2 at h2 ⊢
  refine wp_pick (it_lv rfl) (fun q => q.1 ≠ d) mv trivial (fun q hq => ⟨_, rfl, ?_, rfl⟩) (by rw [line_is]; omega) ?_
  · simp only [boolM, op2M, varM, litM, wipeE, List.set_cons_zero, List.set_cons_succ, List.getElem?_cons_zero, List.getElem?_cons_succ, bd_ok, ix_mv0, cmF, f_eqs, if_true]
    by_cases z : q.1 = d <;> simp [z]
  rw [mkL_lv (lf _ _)]
  have hd : (t.L.filter fun q => decide (q.1 ≠ d)) = dropS t.L d := rfl
  rw [hd]
  have e7 : ixF (.ref a) (.str src) s2 = _ := LoAt.get h2.ha hx
  simp only [e7, ev, wps_seq, wps_if, wps_ret, wps_nx, wps_fl, wps_expr, wps_set, wps_setT, wps_setI, wps_setF, wps_lks, wp_bool, wp_tru, wp_notM, wp_andM, wp_orM, wp_ifM, wp_op2, wp_op1, wp_arg, wp_cons, wp_nil, wp_lit, wp_mth, wp_meth, wp_mk, wp_pop, wp_get2, wp_lck, wp_v, wp_ok, wps_ok, List.map_cons, List.map_nil, List.length_cons, List.length_nil, Nat.zero_add, Nat.reduceAdd, Nat.reduceSub, List.replicate_zero, List.replicate_succ, List.cons_append, List.nil_append, List.append_nil, List.getElem?_cons_zero, List.getElem?_cons_succ, List.set_cons_zero, List.set_cons_succ, blF, mtF, opF, cmF, f_add, f_sub, f_mul, f_mod, f_fdiv, f_pow, f_lt, f_le, f_gt, f_ge, f_eqi, f_eqs, f_int, f_neg, upd_heap, upd_next, all_heap, all_next, Bool.false_eq_true, if_true, if_false, decide_eq_true_eq, Nat.sub_self]
  have e8 : Co.putF (.ref a) (.str src) (.str d) s2 = _ := LoAt.put h2.ha hP
  simp only [e8, ev, wps_seq, wps_if, wps_ret, wps_nx, wps_fl, wps_expr, wps_set, wps_setT, wps_setI, wps_setF, wps_lks, wp_bool, wp_tru, wp_notM, wp_andM, wp_orM, wp_ifM, wp_op2, wp_op1, wp_arg, wp_cons, wp_nil, wp_lit, wp_mth, wp_meth, wp_mk, wp_pop, wp_get2, wp_lck, wp_v, wp_ok, wps_ok, List.map_cons, List.map_nil, List.length_cons, List.length_nil, Nat.zero_add, Nat.reduceAdd, Nat.reduceSub, List.replicate_zero, List.replicate_succ, List.cons_append, List.nil_append, List.append_nil, List.getElem?_cons_zero, List.getElem?_cons_succ, List.set_cons_zero, List.set_cons_succ, blF, mtF, opF, cmF, f_add, f_sub, f_mul, f_mod, f_fdiv, f_pow, f_lt, f_le, f_gt, f_ge, f_eqi, f_eqs, f_int, f_neg, upd_heap, upd_next, all_heap, all_next, Bool.false_eq_true, if_true, if_false, decide_eq_true_eq, Nat.sub_self]
  have h3 := h2.upda (putS t.P src d)
  generalize s2.upd a (.dK (kd (putS t.P src d))) = s3 at h3 ⊢
  have ldr : (dropS t.L d).length ≤ 1000 := Nat.le_trans dropS_len hl
  by_cases z : x = src
  · simp only [z, ev, wps_seq, wps_if, wps_ret, wps_nx, wps_fl, wps_expr, wps_set, wps_setT, wps_setI, wps_setF, wps_lks, wp_bool, wp_tru, wp_notM, wp_andM, wp_orM, wp_ifM, wp_op2, wp_op1, wp_arg, wp_cons, wp_nil, wp_lit, wp_mth, wp_meth, wp_mk, wp_pop, wp_get2, wp_lck, wp_v, wp_ok, wps_ok, List.map_cons, List.map_nil, List.length_cons, List.length_nil, Nat.zero_add, Nat.reduceAdd, Nat.reduceSub, List.replicate_zero, List.replicate_succ, List.cons_append, List.nil_append, List.append_nil, List.getElem?_cons_zero, List.getElem?_cons_succ, List.set_cons_zero, List.set_cons_succ, blF, mtF, opF, cmF, f_add, f_sub, f_mul, f_mod, f_fdiv, f_pow, f_lt, f_le, f_gt, f_ge, f_eqi, f_eqs, f_int, f_neg, upd_heap, upd_next, all_heap, all_next, Bool.false_eq_true, if_true, if_false, decide_eq_true_eq, Nat.sub_self]
    refine wp_pick (L := dropS t.L d) (it_lv rfl) (fun q => True) (fun q => .str q.1) trivial (fun q hq => ⟨_, rfl, ?_, ?_⟩) (by rw [line_is]; omega) ?_
    · simp only [yesM, decide_true]
    · simp only [op2M, varM, litM, wipeE, List.set_cons_zero, List.set_cons_succ, List.getElem?_cons_zero, List.getElem?_cons_succ, bd_ok, ix_mv0]
    have ef : (((dropS t.L d).filter fun q => decide True).map fun q => D.str q.1) = ((dropS t.L d).map (·.1)).map .str := by
      rw [List.filter_eq_self.mpr fun _ _ => by simp, List.map_map]
      rfl
    rw [ef, mkL_lv (by rw [List.length_map, List.length_map]; exact ldr)]
    simp only [in_keys, ev, wps_seq, wps_if, wps_ret, wps_nx, wps_fl, wps_expr, wps_set, wps_setT, wps_setI, wps_setF, wps_lks, wp_bool, wp_tru, wp_notM, wp_andM, wp_orM, wp_ifM, wp_op2, wp_op1, wp_arg, wp_cons, wp_nil, wp_lit, wp_mth, wp_meth, wp_mk, wp_pop, wp_get2, wp_lck, wp_v, wp_ok, wps_ok, List.map_cons, List.map_nil, List.length_cons, List.length_nil, Nat.zero_add, Nat.reduceAdd, Nat.reduceSub, List.replicate_zero, List.replicate_succ, List.cons_append, List.nil_append, List.append_nil, List.getElem?_cons_zero, List.getElem?_cons_succ, List.set_cons_zero, List.set_cons_succ, blF, mtF, opF, cmF, f_add, f_sub, f_mul, f_mod, f_fdiv, f_pow, f_lt, f_le, f_gt, f_ge, f_eqi, f_eqs, f_int, f_neg, upd_heap, upd_next, all_heap, all_next, Bool.false_eq_true, if_true, if_false, decide_eq_true_eq, Nat.sub_self]
    have iff : (src ∈ (dropS t.L d).map (·.1)) ↔ (getS (dropS t.L d) src).isSome = true := by
      constructor
      · intro hm
        obtain ⟨q, hq, e⟩ := List.mem_map.mp hm
        obtain ⟨v, hv⟩ := getS_some_of ⟨q, hq, e⟩
        rw [hv]; rfl
      · intro hm
        obtain ⟨v, hv⟩ := Option.isSome_iff_exists.mp hm
        exact List.mem_map.mpr ⟨_, getS_mem hv, rfl⟩
    by_cases y : src ∈ (dropS t.L d).map (·.1)
    · simp only [y, ev, wps_seq, wps_if, wps_ret, wps_nx, wps_fl, wps_expr, wps_set, wps_setT, wps_setI, wps_setF, wps_lks, wp_bool, wp_tru, wp_notM, wp_andM, wp_orM, wp_ifM, wp_op2, wp_op1, wp_arg, wp_cons, wp_nil, wp_lit, wp_mth, wp_meth, wp_mk, wp_pop, wp_get2, wp_lck, wp_v, wp_ok, wps_ok, List.map_cons, List.map_nil, List.length_cons, List.length_nil, Nat.zero_add, Nat.reduceAdd, Nat.reduceSub, List.replicate_zero, List.replicate_succ, List.cons_append, List.nil_append, List.append_nil, List.getElem?_cons_zero, List.getElem?_cons_succ, List.set_cons_zero, List.set_cons_succ, blF, mtF, opF, cmF, f_add, f_sub, f_mul, f_mod, f_fdiv, f_pow, f_lt, f_le, f_gt, f_ge, f_eqi, f_eqs, f_int, f_neg, upd_heap, upd_next, all_heap, all_next, Bool.false_eq_true, if_true, if_false, decide_eq_true_eq, Nat.sub_self]
      have e9 : isLst (.ref b) s3 = true := by simp [isLst, lstOf, h3.hb]
      have e10 : appF (.ref b) [.str src] s3 = _ := LoAt.apr h3.hb lR'
      simp only [e9, e10, ev, wps_seq, wps_if, wps_ret, wps_nx, wps_fl, wps_expr, wps_set, wps_setT, wps_setI, wps_setF, wps_lks, wp_bool, wp_tru, wp_notM, wp_andM, wp_orM, wp_ifM, wp_op2, wp_op1, wp_arg, wp_cons, wp_nil, wp_lit, wp_mth, wp_meth, wp_mk, wp_pop, wp_get2, wp_lck, wp_v, wp_ok, wps_ok, List.map_cons, List.map_nil, List.length_cons, List.length_nil, Nat.zero_add, Nat.reduceAdd, Nat.reduceSub, List.replicate_zero, List.replicate_succ, List.cons_append, List.nil_append, List.append_nil, List.getElem?_cons_zero, List.getElem?_cons_succ, List.set_cons_zero, List.set_cons_succ, blF, mtF, opF, cmF, f_add, f_sub, f_mul, f_mod, f_fdiv, f_pow, f_lt, f_le, f_gt, f_ge, f_eqi, f_eqs, f_int, f_neg, upd_heap, upd_next, all_heap, all_next, Bool.false_eq_true, if_true, if_false, decide_eq_true_eq, Nat.sub_self]
      have h4 := (h3.updb (R' ++ [src])).left (dropS t.L d)
      rw [if_pos ⟨z, iff.mp y⟩] at et
      subst et
      exact hQ _ _ _ _ h4
    · simp only [y, ev, wps_seq, wps_if, wps_ret, wps_nx, wps_fl, wps_expr, wps_set, wps_setT, wps_setI, wps_setF, wps_lks, wp_bool, wp_tru, wp_notM, wp_andM, wp_orM, wp_ifM, wp_op2, wp_op1, wp_arg, wp_cons, wp_nil, wp_lit, wp_mth, wp_meth, wp_mk, wp_pop, wp_get2, wp_lck, wp_v, wp_ok, wps_ok, List.map_cons, List.map_nil, List.length_cons, List.length_nil, Nat.zero_add, Nat.reduceAdd, Nat.reduceSub, List.replicate_zero, List.replicate_succ, List.cons_append, List.nil_append, List.append_nil, List.getElem?_cons_zero, List.getElem?_cons_succ, List.set_cons_zero, List.set_cons_succ, blF, mtF, opF, cmF, f_add, f_sub, f_mul, f_mod, f_fdiv, f_pow, f_lt, f_le, f_gt, f_ge, f_eqi, f_eqs, f_int, f_neg, upd_heap, upd_next, all_heap, all_next, Bool.false_eq_true, if_true, if_false, decide_eq_true_eq, Nat.sub_self]
      have h4 := h3.left (dropS t.L d)
      rw [if_neg fun w => y (iff.mpr w.2)] at et
      subst et
      exact hQ _ _ _ _ h4
  · simp only [z, ev, wps_seq, wps_if, wps_ret, wps_nx, wps_fl, wps_expr, wps_set, wps_setT, wps_setI, wps_setF, wps_lks, wp_bool, wp_tru, wp_notM, wp_andM, wp_orM, wp_ifM, wp_op2, wp_op1, wp_arg, wp_cons, wp_nil, wp_lit, wp_mth, wp_meth, wp_mk, wp_pop, wp_get2, wp_lck, wp_v, wp_ok, wps_ok, List.map_cons, List.map_nil, List.length_cons, List.length_nil, Nat.zero_add, Nat.reduceAdd, Nat.reduceSub, List.replicate_zero, List.replicate_succ, List.cons_append, List.nil_append, List.append_nil, List.getElem?_cons_zero, List.getElem?_cons_succ, List.set_cons_zero, List.set_cons_succ, blF, mtF, opF, cmF, f_add, f_sub, f_mul, f_mod, f_fdiv, f_pow, f_lt, f_le, f_gt, f_ge, f_eqi, f_eqs, f_int, f_neg, upd_heap, upd_next, all_heap, all_next, Bool.false_eq_true, if_true, if_false, decide_eq_true_eq, Nat.sub_self]
    have h4 := h3.left (dropS t.L d)
    rw [if_neg fun w => z w.1] at et
    subst et
    exact hQ _ _ _ _ h4
end
end Co
namespace Co
open PySem L2
theorem wp_eq {α : Type} {r : R α} {v : α} {s : S} (h : wp r (fun a s' => a = v ∧ s' = s) (fun _ _ _ => False)) : r = .ok v s := by
  obtain ⟨a, s', h1, h2, h3⟩ := wp_get h
  rw [h1, h2, h3]
theorem wp_dnew {env : Env} {s : S} {Q : D → S → Prop} {E : XP} : wp (dnewM true env s) Q E = Q (.ref s.next) (s.alloc (.dK [])) := rfl
theorem len_lv {ds : List D} {s : S} : lenF [.lv ds] s = .ok (.int ds.length) s := by simp [lenF, lenD, seqOf, lstOf]
theorem len_ref {ds : List D} {s : S} {a : Nat} (h : s.heap a = some (.lst ds)) : lenF [.ref a] s = .ok (.int ds.length) s := by simp [lenF, lenD, seqOf, lstOf, h]
section
variable {F : Nat → List D → S → R D} {G : Nat → D} {s0 s : S} {a b c : Nat} {t : Od} {X : D} {x5 x6 x7 x8 x9 : Option D}
/-- how far the law's loop has yet to go -/
def Od.far (t : Od) : Nat := 2 * t.L.length + if t.R = [] then 1 else 0
theorem lo_loop (h : LoAt s0 s a b c t) (g : Good t) (hne : t.L ≠ []) {n : Nat} (hf : t.far = n) (hl : t.L.length ≤ 10) (hR : t.R.length + n ≤ 100) (hM : t.M.length + n ≤ 100) (hP : t.P.length + n ≤ 100) {Q : QS}
    (hQ : ∀ s' x5 x6 x8 t', LoAt s0 s' a b c t' → Good t' → t'.far < n → t'.run t'.L.length = t.run t.L.length → t'.L.length ≤ 10 → t'.R.length ≤ t.R.length + 1 → t'.M.length ≤ t.M.length + 1 → t'.P.length ≤ t.P.length + 1 →
      Q .nx [some X, some (.lv (t'.L.map mv)), some (.ref a), some (.ref b), some (.ref c), x5, x6, x7, x8, x9] s') :
    wps ((ev F G loLoopC).s [some X, some (.lv (t.L.map mv)), some (.ref a), some (.ref b), some (.ref c), x5, x6, x7, x8, x9] s) Q := by
  obtain ⟨d, src, L', eL⟩ : ∃ d src L', t.L = (d, src) :: L' := by
    cases e : t.L with
    | nil => exact absurd e hne
    | cons q L' => exact ⟨q.1, q.2, L', rfl⟩
  have lpos : 0 < t.L.length := by rw [eL]; exact Nat.succ_pos _
  generalize hm : (ev F G loMakeC).s = mk
  generalize hp : (ev F G loPartC).s = pt
  have el : (ev F G loLoopC).s = seqM (ifS (ev F G (.tcmp .gt (.blt .len false (.cons (.var 3) .nil)) (.int 0))).t mk pt) nxM := by
    rw [← hm, ← hp]
    simp only [loLoopC, ev]
  rw [el]
  simp only [ev, wps_seq, wps_if, wps_ret, wps_nx, wps_fl, wps_expr, wps_set, wps_setT, wps_setI, wps_setF, wps_lks, wp_bool, wp_tru, wp_notM, wp_andM, wp_orM, wp_ifM, wp_op2, wp_op1, wp_arg, wp_cons, wp_nil, wp_lit, wp_mth, wp_meth, wp_mk, wp_pop, wp_get2, wp_lck, wp_v, wp_ok, wps_ok, List.map_cons, List.map_nil, List.length_cons, List.length_nil, Nat.zero_add, Nat.reduceAdd, Nat.reduceSub, List.replicate_zero, List.replicate_succ, List.cons_append, List.nil_append, List.append_nil, List.getElem?_cons_zero, List.getElem?_cons_succ, List.set_cons_zero, List.set_cons_succ, blF, mtF, opF, cmF, f_add, f_sub, f_mul, f_mod, f_fdiv, f_pow, f_lt, f_le, f_gt, f_ge, f_eqi, f_eqs, f_int, f_neg, upd_heap, upd_next, all_heap, all_next, Bool.false_eq_true, if_true, if_false, decide_eq_true_eq, Nat.sub_self]
  rw [len_ref h.hb]
  simp only [ev, wps_seq, wps_if, wps_ret, wps_nx, wps_fl, wps_expr, wps_set, wps_setT, wps_setI, wps_setF, wps_lks, wp_bool, wp_tru, wp_notM, wp_andM, wp_orM, wp_ifM, wp_op2, wp_op1, wp_arg, wp_cons, wp_nil, wp_lit, wp_mth, wp_meth, wp_mk, wp_pop, wp_get2, wp_lck, wp_v, wp_ok, wps_ok, List.map_cons, List.map_nil, List.length_cons, List.length_nil, Nat.zero_add, Nat.reduceAdd, Nat.reduceSub, List.replicate_zero, List.replicate_succ, List.cons_append, List.nil_append, List.append_nil, List.getElem?_cons_zero, List.getElem?_cons_succ, List.set_cons_zero, List.set_cons_succ, blF, mtF, opF, cmF, f_add, f_sub, f_mul, f_mod, f_fdiv, f_pow, f_lt, f_le, f_gt, f_ge, f_eqi, f_eqs, f_int, f_neg, upd_heap, upd_next, all_heap, all_next, Bool.false_eq_true, if_true, if_false, decide_eq_true_eq, Nat.sub_self, List.length_map]
  by_cases hR0 : t.R = []
  · have z : ¬ ((0 : Int) < (t.R.length : Int)) := by rw [hR0]; simp
    simp only [z, ev, wps_seq, wps_if, wps_ret, wps_nx, wps_fl, wps_expr, wps_set, wps_setT, wps_setI, wps_setF, wps_lks, wp_bool, wp_tru, wp_notM, wp_andM, wp_orM, wp_ifM, wp_op2, wp_op1, wp_arg, wp_cons, wp_nil, wp_lit, wp_mth, wp_meth, wp_mk, wp_pop, wp_get2, wp_lck, wp_v, wp_ok, wps_ok, List.map_cons, List.map_nil, List.length_cons, List.length_nil, Nat.zero_add, Nat.reduceAdd, Nat.reduceSub, List.replicate_zero, List.replicate_succ, List.cons_append, List.nil_append, List.append_nil, List.getElem?_cons_zero, List.getElem?_cons_succ, List.set_cons_zero, List.set_cons_succ, blF, mtF, opF, cmF, f_add, f_sub, f_mul, f_mod, f_fdiv, f_pow, f_lt, f_le, f_gt, f_ge, f_eqi, f_eqs, f_int, f_neg, upd_heap, upd_next, all_heap, all_next, Bool.false_eq_true, if_true, if_false, decide_eq_true_eq, Nat.sub_self]
    subst hp
    refine lo_part h eL (by omega) (by omega) (by omega) fun s' x5 h' => ?_
    obtain ⟨ep, gp⟩ := g.part hR0 eL
    have eLp : t.part.L = t.L := by rw [ep]
    have eRp : t.part.R = [d] := by rw [ep]
    obtain ⟨b1, b2, b3⟩ := part_len t
    have eX : some (D.lv (t.L.map mv)) = some (.lv (t.part.L.map mv)) := by rw [eLp]
    simp only
    rw [eX]
    refine hQ _ _ _ _ _ h' gp ?_ ?_ (by rw [eLp]; exact hl) b3 b1 b2
    · unfold Od.far at hf ⊢
      rw [eLp, eRp]
      rw [if_pos hR0] at hf
      rw [if_neg (by simp)]
      omega
    · rw [eLp]
      obtain ⟨k, hk⟩ : ∃ k, t.L.length = k + 1 := ⟨t.L.length - 1, by omega⟩
      rw [hk]
      unfold Od.run
      rw [if_neg hne, if_neg (by rw [eLp]; exact hne)]
      congr 1
      show t.part.mid.pop = t.mid.pop
      unfold Od.mid
      rw [if_neg (by rw [eRp]; simp), if_pos hR0]
  · have z : (0 : Int) < (t.R.length : Int) := by
      have : 0 < t.R.length := List.length_pos_iff.mpr hR0
      omega
    simp only [z, ev, wps_seq, wps_if, wps_ret, wps_nx, wps_fl, wps_expr, wps_set, wps_setT, wps_setI, wps_setF, wps_lks, wp_bool, wp_tru, wp_notM, wp_andM, wp_orM, wp_ifM, wp_op2, wp_op1, wp_arg, wp_cons, wp_nil, wp_lit, wp_mth, wp_meth, wp_mk, wp_pop, wp_get2, wp_lck, wp_v, wp_ok, wps_ok, List.map_cons, List.map_nil, List.length_cons, List.length_nil, Nat.zero_add, Nat.reduceAdd, Nat.reduceSub, List.replicate_zero, List.replicate_succ, List.cons_append, List.nil_append, List.append_nil, List.getElem?_cons_zero, List.getElem?_cons_succ, List.set_cons_zero, List.set_cons_succ, blF, mtF, opF, cmF, f_add, f_sub, f_mul, f_mod, f_fdiv, f_pow, f_lt, f_le, f_gt, f_ge, f_eqi, f_eqs, f_int, f_neg, upd_heap, upd_next, all_heap, all_next, Bool.false_eq_true, if_true, if_false, decide_eq_true_eq, Nat.sub_self]
    obtain ⟨d', src', x', R', md⟩ := g.pop hR0
    subst hm
    refine lo_make h md (by omega) (by omega) (by omega) (by omega) fun s' x5 x6 x8 h' => ?_
    obtain ⟨a1, a2, a3⟩ := md.len
    have e5 : t.pop.L.length + 1 = t.L.length := by
      rw [md.eq]
      exact drop_len g.kn md.hs
    simp only
    refine hQ _ _ _ _ _ h' (g.made md) ?_ ?_ (by omega) (by omega) a1 a2
    · unfold Od.far at hf ⊢
      rw [if_neg hR0] at hf
      split <;> omega
    · rw [← e5]
      conv => rhs; unfold Od.run
      rw [if_neg hne]
      congr 1
      show t.pop = t.mid.pop
      unfold Od.mid
      rw [if_neg hR0]
theorem lo_gen (w : s.Wf) {ms : Prs} (hX : ∀ s, anyIt X s = .ok (ms.map mv, none) s) (hn : (ms.map (·.1)).Nodup) (hl : ms.length ≤ 10) (nt : ∀ q ∈ ms, q.1 ≠ "t") {Q : D → S → Prop} {E : XP}
    (hQ : Q (.tup ((ordS (movS ms)).map mv)) s) : wp (callB 1 10 (ev F G loC).s [X] s) Q E := by
  have LN := line_is
  generalize hlp : (ev F G loLoopC).s = lp
  generalize hsf : (ev F G loSelfC).s = sf
  have el : (ev F G loC).s = (ev F G loC).s := rfl
  refine wp_callB rfl ?_
  unfold loC
  simp only [ev, wps_seq, wps_if, wps_ret, wps_nx, wps_fl, wps_expr, wps_set, wps_setT, wps_setI, wps_setF, wps_lks, wp_bool, wp_tru, wp_notM, wp_andM, wp_orM, wp_ifM, wp_op2, wp_op1, wp_arg, wp_cons, wp_nil, wp_lit, wp_mth, wp_meth, wp_mk, wp_pop, wp_get2, wp_lck, wp_v, wp_ok, wps_ok, List.map_cons, List.map_nil, List.length_cons, List.length_nil, Nat.zero_add, Nat.reduceAdd, Nat.reduceSub, List.replicate_zero, List.replicate_succ, List.cons_append, List.nil_append, List.append_nil, List.getElem?_cons_zero, List.getElem?_cons_succ, List.set_cons_zero, List.set_cons_succ, blF, mtF, opF, cmF, f_add, f_sub, f_mul, f_mod, f_fdiv, f_pow, f_lt, f_le, f_gt, f_ge, f_eqi, f_eqs, f_int, f_neg, upd_heap, upd_next, all_heap, all_next, Bool.false_eq_true, if_true, if_false, decide_eq_true_eq, Nat.sub_self, hlp, hsf]
  refine wp_pick (L := ms) (gd := none) (s1 := s) ?_ (fun q => q.1 ≠ q.2) mv trivial (fun q hq => ⟨_, rfl, ?_, rfl⟩) (by omega) ?_
  · simp only [anyItM, varM, List.getElem?_cons_zero, bd_ok]
    exact hX _
  · simp only [boolM, op2M, varM, litM, wipeE, List.set_cons_zero, List.set_cons_succ, List.getElem?_cons_zero, List.getElem?_cons_succ, bd_ok, ix_mv0, ix_mv1, cmF, f_eqs, if_true]
    by_cases z : q.1 = q.2 <;> simp [z]
  have hm : (ms.filter fun q => decide (q.1 ≠ q.2)) = movS ms := rfl
  rw [hm]
  have hL : (movS ms).length ≤ 10 := Nat.le_trans (List.length_filter_le _ _) hl
  have gL := (Way.start (β := Str) id (mov_nodup hn) (fun q hq => (mov_mem.mp hq).2) (fun q hq => nt q (mov_mem.mp hq).1)).good
  generalize movS ms = L at hL gL hQ ⊢
  rw [mkL_lv (by rw [List.length_map]; omega)]
  simp only [ev, wps_seq, wps_if, wps_ret, wps_nx, wps_fl, wps_expr, wps_set, wps_setT, wps_setI, wps_setF, wps_lks, wp_bool, wp_tru, wp_notM, wp_andM, wp_orM, wp_ifM, wp_op2, wp_op1, wp_arg, wp_cons, wp_nil, wp_lit, wp_mth, wp_meth, wp_mk, wp_pop, wp_get2, wp_lck, wp_v, wp_ok, wps_ok, List.map_cons, List.map_nil, List.length_cons, List.length_nil, Nat.zero_add, Nat.reduceAdd, Nat.reduceSub, List.replicate_zero, List.replicate_succ, List.cons_append, List.nil_append, List.append_nil, List.getElem?_cons_zero, List.getElem?_cons_succ, List.set_cons_zero, List.set_cons_succ, blF, mtF, opF, cmF, f_add, f_sub, f_mul, f_mod, f_fdiv, f_pow, f_lt, f_le, f_gt, f_ge, f_eqi, f_eqs, f_int, f_neg, upd_heap, upd_next, all_heap, all_next, Bool.false_eq_true, if_true, if_false, decide_eq_true_eq, Nat.sub_self, wp_dnew]
  refine wps_for (ds := L.map mv) (gd := none) (s1 := s.alloc (.dK [])) (fun i env t => ∃ x5 x6, env = [some X, some (.lv (L.map mv)), some (.ref s.next), none, none, x5, x6, none, none, none] ∧ t = s.alloc (.dK (kd (selfS ((L.take i).map (·.2))))))
    (it_lv rfl) ⟨none, none, rfl, rfl⟩ (fun _ _ _ _ _ => trivial) (fun i d env t hd hi => ?_) fun env t hi => ?_
  · obtain ⟨x5, x6, rfl, rfl⟩ := hi
    rw [List.getElem?_map] at hd
    obtain ⟨q, hq, rfl⟩ := Option.map_eq_some_iff.mp hd
    have hlt : i < L.length := (List.getElem?_eq_some_iff.mp hq).1
    refine ⟨_, rfl, ?_⟩
    subst hsf
    simp only [loSelfC, ev, wps_seq, wps_if, wps_ret, wps_nx, wps_fl, wps_expr, wps_set, wps_setT, wps_setI, wps_setF, wps_lks, wp_bool, wp_tru, wp_notM, wp_andM, wp_orM, wp_ifM, wp_op2, wp_op1, wp_arg, wp_cons, wp_nil, wp_lit, wp_mth, wp_meth, wp_mk, wp_pop, wp_get2, wp_lck, wp_v, wp_ok, wps_ok, List.map_cons, List.map_nil, List.length_cons, List.length_nil, Nat.zero_add, Nat.reduceAdd, Nat.reduceSub, List.replicate_zero, List.replicate_succ, List.cons_append, List.nil_append, List.append_nil, List.getElem?_cons_zero, List.getElem?_cons_succ, List.set_cons_zero, List.set_cons_succ, blF, mtF, opF, cmF, f_add, f_sub, f_mul, f_mod, f_fdiv, f_pow, f_lt, f_le, f_gt, f_ge, f_eqi, f_eqs, f_int, f_neg, upd_heap, upd_next, all_heap, all_next, Bool.false_eq_true, if_true, if_false, decide_eq_true_eq, Nat.sub_self]
    have hs : (s.alloc (.dK (kd (selfS ((L.take i).map (·.2)))))).heap s.next = some (.dK (kd (selfS ((L.take i).map (·.2))))) := if_pos rfl
    have hln : (selfS ((L.take i).map (·.2))).length ≤ 1000 := by
      have key : ∀ (vs : List Str) (p : Prs), (vs.foldl (fun p v => putS p v v) p).length ≤ p.length + vs.length := by
        intro vs
        induction vs with
        | nil => intro p; exact Nat.le_refl _
        | cons v vs ih =>
          intro p
          have := ih (putS p v v)
          have := putS_len (p := p) (k := v) (v := v)
          rw [List.foldl_cons, List.length_cons]
          omega
      have := key ((L.take i).map (·.2)) []
      rw [List.length_nil, List.length_map, List.length_take] at this
      unfold selfS
      omega
    have e3 : Co.putF (.ref s.next) (.str q.2) (.str q.2) _ = _ := LoAt.put hs hln
    simp only [e3, ev, wps_seq, wps_if, wps_ret, wps_nx, wps_fl, wps_expr, wps_set, wps_setT, wps_setI, wps_setF, wps_lks, wp_bool, wp_tru, wp_notM, wp_andM, wp_orM, wp_ifM, wp_op2, wp_op1, wp_arg, wp_cons, wp_nil, wp_lit, wp_mth, wp_meth, wp_mk, wp_pop, wp_get2, wp_lck, wp_v, wp_ok, wps_ok, List.map_cons, List.map_nil, List.length_cons, List.length_nil, Nat.zero_add, Nat.reduceAdd, Nat.reduceSub, List.replicate_zero, List.replicate_succ, List.cons_append, List.nil_append, List.append_nil, List.getElem?_cons_zero, List.getElem?_cons_succ, List.set_cons_zero, List.set_cons_succ, blF, mtF, opF, cmF, f_add, f_sub, f_mul, f_mod, f_fdiv, f_pow, f_lt, f_le, f_gt, f_ge, f_eqi, f_eqs, f_int, f_neg, upd_heap, upd_next, all_heap, all_next, Bool.false_eq_true, if_true, if_false, decide_eq_true_eq, Nat.sub_self]
    have et : selfS ((L.take (i + 1)).map (·.2)) = putS (selfS ((L.take i).map (·.2))) q.2 q.2 := by
      rw [List.take_add_one, hq]
      unfold selfS
      simp
    refine ⟨_, _, rfl, ?_⟩
    rw [et, alloc_upd]
  · obtain ⟨x5, x6, rfl, rfl⟩ := hi
    rw [List.length_map, List.take_length]
    generalize hs1 : s.alloc (.dK (kd (selfS (L.map (·.2))))) = s1
    have n1 : s1.next = s.next + 1 := by rw [← hs1]; rfl
    have a1 : s1.heap s.next = some (.dK (kd (selfS (L.map (·.2))))) := by rw [← hs1]; exact if_pos rfl
    have p1 : ∀ x, x < s.next → s1.heap x = s.heap x := fun x hx => by rw [← hs1]; exact if_neg (Nat.ne_of_lt hx)
    simp only [ev, wps_seq, wps_if, wps_ret, wps_nx, wps_fl, wps_expr, wps_set, wps_setT, wps_setI, wps_setF, wps_lks, wp_bool, wp_tru, wp_notM, wp_andM, wp_orM, wp_ifM, wp_op2, wp_op1, wp_arg, wp_cons, wp_nil, wp_lit, wp_mth, wp_meth, wp_mk, wp_pop, wp_get2, wp_lck, wp_v, wp_ok, wps_ok, List.map_cons, List.map_nil, List.length_cons, List.length_nil, Nat.zero_add, Nat.reduceAdd, Nat.reduceSub, List.replicate_zero, List.replicate_succ, List.cons_append, List.nil_append, List.append_nil, List.getElem?_cons_zero, List.getElem?_cons_succ, List.set_cons_zero, List.set_cons_succ, blF, mtF, opF, cmF, f_add, f_sub, f_mul, f_mod, f_fdiv, f_pow, f_lt, f_le, f_gt, f_ge, f_eqi, f_eqs, f_int, f_neg, upd_heap, upd_next, all_heap, all_next, Bool.false_eq_true, if_true, if_false, decide_eq_true_eq, Nat.sub_self]
    refine wp_pick (L := L) (it_lv rfl) (fun q => q.1 ∉ L.map (·.2)) (fun q => .str q.1) trivial (fun q hq => ⟨_, rfl, ?_, ?_⟩) (by omega) ?_
    · have inner : ∀ env : Env, env[1]? = some (some (.lv (L.map mv))) → env.length = 10 → lcM false (.name 9) (anyItM (varM 1)) [9] yesM (op2M ixF (varM 9) (litM (.int 1))) env s1 = .ok (.lv ((L.map (·.2)).map .str)) s1 := by
        intro env he hlen
        refine wp_eq (wp_pick (L := L) (it_lv he) (fun q => True) (fun q => .str q.2) trivial (fun q hq => ⟨_, rfl, ?_, ?_⟩) (by omega) ?_)
        · simp only [yesM, decide_true]
        · refine ev_ix1 ?_
          rw [List.getElem?_set_self (by simp only [wipeE, List.length_set]; omega)]
        · have ef : ((L.filter fun q => decide True).map fun q => D.str q.2) = (L.map (·.2)).map .str := by
            rw [List.filter_eq_self.mpr fun _ _ => by simp, List.map_map]
            rfl
          rw [ef, mkL_lv (by rw [List.length_map, List.length_map]; omega)]
          exact ⟨rfl, rfl⟩
      generalize he : ([some X, some (.lv (L.map mv)), some (.ref s.next), none, none, x5, x6, some (mv q), none, none] : Env) = e1
      have i1 := inner e1 (by rw [← he]; rfl) (by rw [← he]; rfl)
      have i2 : op2M ixF (varM 7) (litM (.int 0)) e1 s1 = .ok (.str q.1) s1 := ev_ix0 (by rw [← he]; rfl)
      show boolM (op2M (inF true) (op2M ixF (varM 7) (litM (.int 0))) (lcM false (.name 9) (anyItM (varM 1)) [9] yesM (op2M ixF (varM 9) (litM (.int 1))))) [some X, some (.lv (L.map mv)), some (.ref s.next), none, none, x5, x6, some (mv q), none, none] s1 = _
      rw [he]
      show bd (bd (op2M ixF (varM 7) (litM (.int 0)) e1 s1) fun x s1 => bd (lcM false (.name 9) (anyItM (varM 1)) [9] yesM (op2M ixF (varM 9) (litM (.int 1))) e1 s1) fun y s2 => inF true x y s2) _ = _
      rw [i2, bd_ok, i1, bd_ok, inr_any, bd_ok]
    · exact ev_ix0 rfl
    have ef : ((L.filter fun q => decide (q.1 ∉ L.map (·.2))).map fun q => D.str q.1) = ((startO L).R).map .str := by
      show _ = ((L.map (·.1)).filter (fun k => decide (k ∉ L.map (·.2)))).map D.str
      rw [List.filter_map, List.map_map]
      rfl
    have lR : (startO L).R.length ≤ 10 := by
      show ((L.map (·.1)).filter (fun k => decide (k ∉ L.map (·.2)))).length ≤ 10
      refine Nat.le_trans (List.length_filter_le _ _) ?_
      rw [List.length_map]; exact hL
    rw [ef, mkL_ref (by rw [List.length_map]; omega)]
    simp only [ev, wps_seq, wps_if, wps_ret, wps_nx, wps_fl, wps_expr, wps_set, wps_setT, wps_setI, wps_setF, wps_lks, wp_bool, wp_tru, wp_notM, wp_andM, wp_orM, wp_ifM, wp_op2, wp_op1, wp_arg, wp_cons, wp_nil, wp_lit, wp_mth, wp_meth, wp_mk, wp_pop, wp_get2, wp_lck, wp_v, wp_ok, wps_ok, List.map_cons, List.map_nil, List.length_cons, List.length_nil, Nat.zero_add, Nat.reduceAdd, Nat.reduceSub, List.replicate_zero, List.replicate_succ, List.cons_append, List.nil_append, List.append_nil, List.getElem?_cons_zero, List.getElem?_cons_succ, List.set_cons_zero, List.set_cons_succ, blF, mtF, opF, cmF, f_add, f_sub, f_mul, f_mod, f_fdiv, f_pow, f_lt, f_le, f_gt, f_ge, f_eqi, f_eqs, f_int, f_neg, upd_heap, upd_next, all_heap, all_next, Bool.false_eq_true, if_true, if_false, decide_eq_true_eq, Nat.sub_self]
    rw [mkL_ref (by simp)]
    simp only [ev, wps_seq, wps_if, wps_ret, wps_nx, wps_fl, wps_expr, wps_set, wps_setT, wps_setI, wps_setF, wps_lks, wp_bool, wp_tru, wp_notM, wp_andM, wp_orM, wp_ifM, wp_op2, wp_op1, wp_arg, wp_cons, wp_nil, wp_lit, wp_mth, wp_meth, wp_mk, wp_pop, wp_get2, wp_lck, wp_v, wp_ok, wps_ok, List.map_cons, List.map_nil, List.length_cons, List.length_nil, Nat.zero_add, Nat.reduceAdd, Nat.reduceSub, List.replicate_zero, List.replicate_succ, List.cons_append, List.nil_append, List.append_nil, List.getElem?_cons_zero, List.getElem?_cons_succ, List.set_cons_zero, List.set_cons_succ, blF, mtF, opF, cmF, f_add, f_sub, f_mul, f_mod, f_fdiv, f_pow, f_lt, f_le, f_gt, f_ge, f_eqi, f_eqs, f_int, f_neg, upd_heap, upd_next, all_heap, all_next, Bool.false_eq_true, if_true, if_false, decide_eq_true_eq, Nat.sub_self]
    have lP : (startO L).P.length ≤ 10 := by
      have key : ∀ (vs : List Str) (p : Prs), (vs.foldl (fun p v => putS p v v) p).length ≤ p.length + vs.length := by
        intro vs
        induction vs with
        | nil => intro p; exact Nat.le_refl _
        | cons v vs ih =>
          intro p
          have := ih (putS p v v)
          have := putS_len (p := p) (k := v) (v := v)
          rw [List.foldl_cons, List.length_cons]
          omega
      have := key (L.map (·.2)) []
      rw [List.length_nil, List.length_map] at this
      show (selfS (L.map (·.2))).length ≤ 10
      unfold selfS
      omega
    generalize hs3 : (s1.alloc (.lst ((startO L).R.map .str))).alloc (.lst []) = s3
    have at3 : LoAt s s3 s.next (s.next + 1) (s.next + 2) (startO L) := by
      refine ⟨?_, ?_, ?_, by omega, by omega, fun x hx => ?_⟩
      · rw [← hs3, all_heap, all_next, if_neg (by omega), all_heap, if_neg (by omega)]; exact a1
      · rw [← hs3, all_heap, all_next, if_neg (by omega), all_heap, if_pos (by omega)]
      · rw [← hs3, all_heap, all_next, if_pos (by omega)]; rfl
      · rw [← hs3, all_heap, all_next, if_neg (by omega), all_heap, if_neg (by omega)]; exact p1 x hx
    rw [n1, show s.next + 1 + 1 = s.next + 2 from rfl]
    refine wps_while (fun n env s' => ∃ t x5 x6 x7 x8 x9, env = [some X, some (.lv (t.L.map mv)), some (.ref s.next), some (.ref (s.next + 1)), some (.ref (s.next + 2)), x5, x6, x7, x8, x9] ∧ LoAt s s' s.next (s.next + 1) (s.next + 2) t ∧ Good t ∧ t.far = n ∧ t.run t.L.length = (startO L).run L.length ∧ t.L.length ≤ 10 ∧ t.R.length + n ≤ 100 ∧ t.M.length + n ≤ 100 ∧ t.P.length + n ≤ 100) (n := (startO L).far)
      ⟨startO L, _, _, _, _, _, rfl, at3, gL, rfl, rfl, hL, ?_, ?_, ?_⟩ fun n env s' => ?_
    · have : (startO L).far ≤ 2 * L.length + 1 := by unfold Od.far; show 2 * L.length + _ ≤ _; split <;> omega
      omega
    · have : (startO L).far ≤ 2 * L.length + 1 := by unfold Od.far; show 2 * L.length + _ ≤ _; split <;> omega
      show 0 + (startO L).far ≤ 100
      omega
    · have : (startO L).far ≤ 2 * L.length + 1 := by unfold Od.far; show 2 * L.length + _ ≤ _; split <;> omega
      omega
    · rintro ⟨t, x5, x6, x7, x8, x9, rfl, at_, g, hf, hr, h10, hR, hM, hP⟩
      simp only [ev, wps_seq, wps_if, wps_ret, wps_nx, wps_fl, wps_expr, wps_set, wps_setT, wps_setI, wps_setF, wps_lks, wp_bool, wp_tru, wp_notM, wp_andM, wp_orM, wp_ifM, wp_op2, wp_op1, wp_arg, wp_cons, wp_nil, wp_lit, wp_mth, wp_meth, wp_mk, wp_pop, wp_get2, wp_lck, wp_v, wp_ok, wps_ok, List.map_cons, List.map_nil, List.length_cons, List.length_nil, Nat.zero_add, Nat.reduceAdd, Nat.reduceSub, List.replicate_zero, List.replicate_succ, List.cons_append, List.nil_append, List.append_nil, List.getElem?_cons_zero, List.getElem?_cons_succ, List.set_cons_zero, List.set_cons_succ, blF, mtF, opF, cmF, f_add, f_sub, f_mul, f_mod, f_fdiv, f_pow, f_lt, f_le, f_gt, f_ge, f_eqi, f_eqs, f_int, f_neg, upd_heap, upd_next, all_heap, all_next, Bool.false_eq_true, if_true, if_false, decide_eq_true_eq, Nat.sub_self]
      rw [len_lv]
      simp only [ev, wps_seq, wps_if, wps_ret, wps_nx, wps_fl, wps_expr, wps_set, wps_setT, wps_setI, wps_setF, wps_lks, wp_bool, wp_tru, wp_notM, wp_andM, wp_orM, wp_ifM, wp_op2, wp_op1, wp_arg, wp_cons, wp_nil, wp_lit, wp_mth, wp_meth, wp_mk, wp_pop, wp_get2, wp_lck, wp_v, wp_ok, wps_ok, List.map_cons, List.map_nil, List.length_cons, List.length_nil, Nat.zero_add, Nat.reduceAdd, Nat.reduceSub, List.replicate_zero, List.replicate_succ, List.cons_append, List.nil_append, List.append_nil, List.getElem?_cons_zero, List.getElem?_cons_succ, List.set_cons_zero, List.set_cons_succ, blF, mtF, opF, cmF, f_add, f_sub, f_mul, f_mod, f_fdiv, f_pow, f_lt, f_le, f_gt, f_ge, f_eqi, f_eqs, f_int, f_neg, upd_heap, upd_next, all_heap, all_next, Bool.false_eq_true, if_true, if_false, decide_eq_true_eq, Nat.sub_self, List.length_map]
      by_cases hL0 : t.L = []
      · have z : ¬ ((0 : Int) < (t.L.length : Int)) := by rw [hL0]; simp
        simp only [z, ev, wps_seq, wps_if, wps_ret, wps_nx, wps_fl, wps_expr, wps_set, wps_setT, wps_setI, wps_setF, wps_lks, wp_bool, wp_tru, wp_notM, wp_andM, wp_orM, wp_ifM, wp_op2, wp_op1, wp_arg, wp_cons, wp_nil, wp_lit, wp_mth, wp_meth, wp_mk, wp_pop, wp_get2, wp_lck, wp_v, wp_ok, wps_ok, List.map_cons, List.map_nil, List.length_cons, List.length_nil, Nat.zero_add, Nat.reduceAdd, Nat.reduceSub, List.replicate_zero, List.replicate_succ, List.cons_append, List.nil_append, List.append_nil, List.getElem?_cons_zero, List.getElem?_cons_succ, List.set_cons_zero, List.set_cons_succ, blF, mtF, opF, cmF, f_add, f_sub, f_mul, f_mod, f_fdiv, f_pow, f_lt, f_le, f_gt, f_ge, f_eqi, f_eqs, f_int, f_neg, upd_heap, upd_next, all_heap, all_next, Bool.false_eq_true, if_true, if_false, decide_eq_true_eq, Nat.sub_self]
        have e3 : tupB false [.ref (s.next + 2)] s' = .ok (.tup (t.M.map mv)) s' := by
          have hlen : (t.M.map mv).length ≤ LINE := by rw [line_is, List.length_map]; omega
          simp [tupB, lstOf, at_.hc, mkC, mkT]
          simpa using hlen
        simp only [e3, ev, wps_seq, wps_if, wps_ret, wps_nx, wps_fl, wps_expr, wps_set, wps_setT, wps_setI, wps_setF, wps_lks, wp_bool, wp_tru, wp_notM, wp_andM, wp_orM, wp_ifM, wp_op2, wp_op1, wp_arg, wp_cons, wp_nil, wp_lit, wp_mth, wp_meth, wp_mk, wp_pop, wp_get2, wp_lck, wp_v, wp_ok, wps_ok, List.map_cons, List.map_nil, List.length_cons, List.length_nil, Nat.zero_add, Nat.reduceAdd, Nat.reduceSub, List.replicate_zero, List.replicate_succ, List.cons_append, List.nil_append, List.append_nil, List.getElem?_cons_zero, List.getElem?_cons_succ, List.set_cons_zero, List.set_cons_succ, blF, mtF, opF, cmF, f_add, f_sub, f_mul, f_mod, f_fdiv, f_pow, f_lt, f_le, f_gt, f_ge, f_eqi, f_eqs, f_int, f_neg, upd_heap, upd_next, all_heap, all_next, Bool.false_eq_true, if_true, if_false, decide_eq_true_eq, Nat.sub_self]
        have et : t = (startO L).run L.length := by
          rw [← hr, hL0]
          rfl
        rw [gc_pure w at_.same (belowL_of fun d hd => by rw [List.mem_singleton.mp hd]; exact below_mvs _ _), et]
        exact hQ
      · have z : (0 : Int) < (t.L.length : Int) := by
          have : 0 < t.L.length := List.length_pos_iff.mpr hL0
          omega
        simp only [z, ev, wps_seq, wps_if, wps_ret, wps_nx, wps_fl, wps_expr, wps_set, wps_setT, wps_setI, wps_setF, wps_lks, wp_bool, wp_tru, wp_notM, wp_andM, wp_orM, wp_ifM, wp_op2, wp_op1, wp_arg, wp_cons, wp_nil, wp_lit, wp_mth, wp_meth, wp_mk, wp_pop, wp_get2, wp_lck, wp_v, wp_ok, wps_ok, List.map_cons, List.map_nil, List.length_cons, List.length_nil, Nat.zero_add, Nat.reduceAdd, Nat.reduceSub, List.replicate_zero, List.replicate_succ, List.cons_append, List.nil_append, List.append_nil, List.getElem?_cons_zero, List.getElem?_cons_succ, List.set_cons_zero, List.set_cons_succ, blF, mtF, opF, cmF, f_add, f_sub, f_mul, f_mod, f_fdiv, f_pow, f_lt, f_le, f_gt, f_ge, f_eqi, f_eqs, f_int, f_neg, upd_heap, upd_next, all_heap, all_next, Bool.false_eq_true, if_true, if_false, decide_eq_true_eq, Nat.sub_self]
        subst hlp
        refine lo_loop at_ g hL0 hf h10 hR hM hP fun s2 x5 x6 x8 t' a1 a2 a3 a4 a5 a6 a7 a8 => ?_
        exact ⟨t'.far, a3, t', _, _, _, _, _, rfl, a1, a2, rfl, a4.trans hr, a5, by omega, by omega, by omega⟩
end
end Co
namespace Co
open PySem L2
/-! ### the law's count of rings -/
def lrGrowC : C := (.seq
 (.ex (.mt .app (.var 5) (.cons (.ix (.var 1) (.ix (.var 5) (.neg (.int 1)))) .nil)))
 .skip)
def lrStartC : C := (.seq
 (.set 5 (.lst true (.cons (.var 4) .nil)))
 (.seq
 (.whl (.tand (.tcmp .in_ (.ix (.var 5) (.neg (.int 1))) (.var 1)) (.tand (.tcmp .nin (.ix (.var 1) (.ix (.var 5) (.neg (.int 1)))) (.var 5)) (.tand1 (.tcmp .lt (.blt .len false (.cons (.var 5) .nil)) (.int 12))))) lrGrowC)
 (.seq
 (.ifs (.tand (.tcmp .in_ (.ix (.var 5) (.neg (.int 1))) (.var 1)) (.tand (.tcmp .eq (.ix (.var 1) (.ix (.var 5) (.neg (.int 1)))) (.var 4)) (.tand1 (.tcmp .nin (.var 4) (.var 3))))) (.seq
 (.set 3 (.bin .add false (.var 3) (.var 5)))
 (.seq
 (.ifs (.tcmp .eq (.blt .len false (.cons (.lk (.var 1) (.lc false (.name 7) [7] (.it (.var 1)) (.tand (.tcmp .nin (.var 7) (.var 5)) (.tand1 (.tcmp .in_ (.ix (.var 1) (.var 7)) (.var 5)))) (.var 7))) .nil)) (.int 0)) (.seq
 (.set 2 (.bin .add false (.var 2) (.int 1)))
 .skip) .skip)
 .skip)) .skip)
 .skip)))
def lrC : C := (.seq
 (.set 1 (.blt .dict false (.cons (.lc false (.name 6) [6] (.it (.var 0)) (.tcmp .ne (.ix (.var 6) (.int 0)) (.ix (.var 6) (.int 1))) (.var 6)) .nil)))
 (.seq
 (.set 2 (.int 0))
 (.seq
 (.set 3 (.lst false .nil))
 (.seq
 (.fors (.name 4) (.it (.blt .sort false (.cons (.var 1) .nil))) lrStartC)
 (.seq
 (.ret (.var 2))
 .skip)))))
section
variable {F : Nat → List D → S → R D} {G : Nat → D}
theorem last_at (C : List Str) (e : Str) (h : C.getLast? = some e) (s : S) (b : Nat) (hb : s.heap b = some (.lst (C.map .str))) (hl : C.length ≤ 1000) : ixF (.ref b) (.int (-1)) s = .ok (.str e) s := by
  have hn : C ≠ [] := fun z => by rw [z] at h; cases h
  have hp : 0 < C.length := List.length_pos_iff.mpr hn
  have z : (C.map D.str)[C.length - 1]? = some (.str e) := by
    rw [List.getElem?_map, ← List.getLast?_eq_getElem?, h]
    rfl
  have a : atI (C.map D.str) (-1) = some (.str e) := by
    unfold atI ixN
    rw [if_neg (by decide), if_pos (by rw [List.length_map]; omega)]
    have q : ((-1 : Int) + (C.map D.str).length).toNat = C.length - 1 := by rw [List.length_map]; omega
    rw [q]
    exact z
  simp only [ixF, seqOf, lstOf, hb, a]
/-- the heap amid the count -/
structure LrAt (s0 s : S) (a b : Nat) (L : Prs) (C : List Str) : Prop where
  ha : s.heap a = some (.dK (kd L))
  hb : s.heap b = some (.lst (C.map .str))
  ne : a ≠ b
  old : s0.next ≤ b
  same : ∀ x, x ≠ b → s.heap x = s0.heap x
theorem in_ref {C : List Str} {x : Str} {s : S} {b : Nat} (hb : s.heap b = some (.lst (C.map .str))) (neg : Bool) : inF neg (.str x) (.ref b) s = .ok (.bl (if neg then !decide (x ∈ C) else decide (x ∈ C))) s := by
  have h1 : (C.map D.str).all flatD = true := by
    rw [List.all_eq_true]
    intro d hd
    obtain ⟨x, _, rfl⟩ := List.mem_map.mp hd
    rfl
  have h2 : ((C.map D.str).any fun d => eqFl d (.str x)) = decide (x ∈ C) := by
    rw [List.any_map]
    by_cases h : x ∈ C
    · rw [decide_eq_true h, List.any_eq_true]
      exact ⟨x, h, by simp [eqFl]⟩
    · rw [decide_eq_false h, List.any_eq_false]
      intro y hy
      simp [eqFl]
      exact fun e => h (e ▸ hy)
  have h3 : flatD (.str x) = true := rfl
  simp only [inF, memD, seqOf, lstOf, hb, h1, h3, h2, and_self, if_true]
theorem in_dic {L : Prs} {x : Str} {s : S} {a : Nat} (ha : s.heap a = some (.dK (kd L))) : inF false (.str x) (.ref a) s = .ok (.bl (getS L x).isSome) s := by
  simp [inF, memD, seqOf, lstOf, ha, dget, dicOf, keyOf, getK_kd]
end
end Co
namespace Co
open PySem L2
def lrCondC : C := .tand (.tcmp .in_ (.ix (.var 5) (.neg (.int 1))) (.var 1)) (.tand (.tcmp .nin (.ix (.var 1) (.ix (.var 5) (.neg (.int 1)))) (.var 5)) (.tand1 (.tcmp .lt (.blt .len false (.cons (.var 5) .nil)) (.int 12))))
section
variable {F : Nat → List D → S → R D} {G : Nat → D} {s0 s : S} {a b : Nat} {L : Prs} {X : D} {x2 x3 x4 x6 x7 : Option D}
theorem lr_grow (hL : L.length ≤ 10) {k : Str} (h : LrAt s0 s a b L [k]) {Q : QS} (hQ : ∀ s', LrAt s0 s' a b L (ringS L k) → s'.next = s.next → Q .nx [some X, some (.ref a), x2, x3, x4, some (.ref b), x6, x7] s') :
    wps (whileM (ev F G lrCondC).t (ev F G lrGrowC).s [some X, some (.ref a), x2, x3, x4, some (.ref b), x6, x7] s) Q := by
  generalize hbd : (ev F G lrGrowC).s = bd
  generalize hcd : (ev F G lrCondC).t = cd
  refine wps_while (fun n env s' => env = [some X, some (.ref a), x2, x3, x4, some (.ref b), x6, x7] ∧ s'.next = s.next ∧ ∃ C e, LrAt s0 s' a b L C ∧ Ch L k C e ∧ growS L n C = ringS L k ∧ 12 ≤ n + C.length) (n := 12)
    ⟨rfl, rfl, [k], k, h, .one, rfl, by simp⟩ fun n env s' => ?_
  rintro ⟨rfl, nx, C, e, at_, ch, hr, hn⟩
  have lC : C.length ≤ 11 := by have := ch.keys; omega
  have e1 : ixF (.ref b) (.int (-1)) s' = .ok (.str e) s' := last_at C e ch.last s' b at_.hb (by omega)
  have stop : (∀ y, getS L e = some y → y ∈ C) → LrAt s0 s' a b L (ringS L k) := fun z => by
    have : growS L n C = C := by
      cases n with
      | zero => rfl
      | succ n =>
        unfold growS
        rw [ch.last]
        simp only
        cases hy : getS L e with
        | none => rfl
        | some y =>
          simp only
          rw [if_neg fun w => w.1 (z y hy)]
    rw [← hr, this]
    exact at_
  subst hcd
  simp only [lrCondC, ev, wps_seq, wps_if, wps_ret, wps_nx, wps_fl, wps_expr, wps_set, wps_setT, wps_setI, wps_setF, wps_lks, wp_bool, wp_tru, wp_notM, wp_andM, wp_orM, wp_ifM, wp_op2, wp_op1, wp_arg, wp_cons, wp_nil, wp_lit, wp_mth, wp_meth, wp_mk, wp_pop, wp_get2, wp_lck, wp_v, wp_ok, wps_ok, List.map_cons, List.map_nil, List.length_cons, List.length_nil, Nat.zero_add, Nat.reduceAdd, Nat.reduceSub, List.replicate_zero, List.replicate_succ, List.cons_append, List.nil_append, List.append_nil, List.getElem?_cons_zero, List.getElem?_cons_succ, List.set_cons_zero, List.set_cons_succ, blF, mtF, opF, cmF, f_add, f_sub, f_mul, f_mod, f_fdiv, f_pow, f_lt, f_le, f_gt, f_ge, f_eqi, f_eqs, f_int, f_neg, upd_heap, upd_next, all_heap, all_next, Bool.false_eq_true, if_true, if_false, decide_eq_true_eq, Nat.sub_self]
  have en : -(1 : Int) = -1 := rfl
  rw [e1]
  simp only [ev, wps_seq, wps_if, wps_ret, wps_nx, wps_fl, wps_expr, wps_set, wps_setT, wps_setI, wps_setF, wps_lks, wp_bool, wp_tru, wp_notM, wp_andM, wp_orM, wp_ifM, wp_op2, wp_op1, wp_arg, wp_cons, wp_nil, wp_lit, wp_mth, wp_meth, wp_mk, wp_pop, wp_get2, wp_lck, wp_v, wp_ok, wps_ok, List.map_cons, List.map_nil, List.length_cons, List.length_nil, Nat.zero_add, Nat.reduceAdd, Nat.reduceSub, List.replicate_zero, List.replicate_succ, List.cons_append, List.nil_append, List.append_nil, List.getElem?_cons_zero, List.getElem?_cons_succ, List.set_cons_zero, List.set_cons_succ, blF, mtF, opF, cmF, f_add, f_sub, f_mul, f_mod, f_fdiv, f_pow, f_lt, f_le, f_gt, f_ge, f_eqi, f_eqs, f_int, f_neg, upd_heap, upd_next, all_heap, all_next, Bool.false_eq_true, if_true, if_false, decide_eq_true_eq, Nat.sub_self]
  rw [in_dic at_.ha]
  cases hy : getS L e with
  | none =>
    simp only [Option.isSome_none, ev, wps_seq, wps_if, wps_ret, wps_nx, wps_fl, wps_expr, wps_set, wps_setT, wps_setI, wps_setF, wps_lks, wp_bool, wp_tru, wp_notM, wp_andM, wp_orM, wp_ifM, wp_op2, wp_op1, wp_arg, wp_cons, wp_nil, wp_lit, wp_mth, wp_meth, wp_mk, wp_pop, wp_get2, wp_lck, wp_v, wp_ok, wps_ok, List.map_cons, List.map_nil, List.length_cons, List.length_nil, Nat.zero_add, Nat.reduceAdd, Nat.reduceSub, List.replicate_zero, List.replicate_succ, List.cons_append, List.nil_append, List.append_nil, List.getElem?_cons_zero, List.getElem?_cons_succ, List.set_cons_zero, List.set_cons_succ, blF, mtF, opF, cmF, f_add, f_sub, f_mul, f_mod, f_fdiv, f_pow, f_lt, f_le, f_gt, f_ge, f_eqi, f_eqs, f_int, f_neg, upd_heap, upd_next, all_heap, all_next, Bool.false_eq_true, if_true, if_false, decide_eq_true_eq, Nat.sub_self]
    exact hQ s' (stop fun y z => by rw [hy] at z; cases z) nx
  | some y =>
    simp only [Option.isSome_some, ev, wps_seq, wps_if, wps_ret, wps_nx, wps_fl, wps_expr, wps_set, wps_setT, wps_setI, wps_setF, wps_lks, wp_bool, wp_tru, wp_notM, wp_andM, wp_orM, wp_ifM, wp_op2, wp_op1, wp_arg, wp_cons, wp_nil, wp_lit, wp_mth, wp_meth, wp_mk, wp_pop, wp_get2, wp_lck, wp_v, wp_ok, wps_ok, List.map_cons, List.map_nil, List.length_cons, List.length_nil, Nat.zero_add, Nat.reduceAdd, Nat.reduceSub, List.replicate_zero, List.replicate_succ, List.cons_append, List.nil_append, List.append_nil, List.getElem?_cons_zero, List.getElem?_cons_succ, List.set_cons_zero, List.set_cons_succ, blF, mtF, opF, cmF, f_add, f_sub, f_mul, f_mod, f_fdiv, f_pow, f_lt, f_le, f_gt, f_ge, f_eqi, f_eqs, f_int, f_neg, upd_heap, upd_next, all_heap, all_next, Bool.false_eq_true, if_true, if_false, decide_eq_true_eq, Nat.sub_self]
    rw [e1]
    simp only [ev, wps_seq, wps_if, wps_ret, wps_nx, wps_fl, wps_expr, wps_set, wps_setT, wps_setI, wps_setF, wps_lks, wp_bool, wp_tru, wp_notM, wp_andM, wp_orM, wp_ifM, wp_op2, wp_op1, wp_arg, wp_cons, wp_nil, wp_lit, wp_mth, wp_meth, wp_mk, wp_pop, wp_get2, wp_lck, wp_v, wp_ok, wps_ok, List.map_cons, List.map_nil, List.length_cons, List.length_nil, Nat.zero_add, Nat.reduceAdd, Nat.reduceSub, List.replicate_zero, List.replicate_succ, List.cons_append, List.nil_append, List.append_nil, List.getElem?_cons_zero, List.getElem?_cons_succ, List.set_cons_zero, List.set_cons_succ, blF, mtF, opF, cmF, f_add, f_sub, f_mul, f_mod, f_fdiv, f_pow, f_lt, f_le, f_gt, f_ge, f_eqi, f_eqs, f_int, f_neg, upd_heap, upd_next, all_heap, all_next, Bool.false_eq_true, if_true, if_false, decide_eq_true_eq, Nat.sub_self]
    have e2 : ixF (.ref a) (.str e) s' = .ok (.str y) s' := LoAt.get at_.ha hy
    rw [e2]
    simp only [ev, wps_seq, wps_if, wps_ret, wps_nx, wps_fl, wps_expr, wps_set, wps_setT, wps_setI, wps_setF, wps_lks, wp_bool, wp_tru, wp_notM, wp_andM, wp_orM, wp_ifM, wp_op2, wp_op1, wp_arg, wp_cons, wp_nil, wp_lit, wp_mth, wp_meth, wp_mk, wp_pop, wp_get2, wp_lck, wp_v, wp_ok, wps_ok, List.map_cons, List.map_nil, List.length_cons, List.length_nil, Nat.zero_add, Nat.reduceAdd, Nat.reduceSub, List.replicate_zero, List.replicate_succ, List.cons_append, List.nil_append, List.append_nil, List.getElem?_cons_zero, List.getElem?_cons_succ, List.set_cons_zero, List.set_cons_succ, blF, mtF, opF, cmF, f_add, f_sub, f_mul, f_mod, f_fdiv, f_pow, f_lt, f_le, f_gt, f_ge, f_eqi, f_eqs, f_int, f_neg, upd_heap, upd_next, all_heap, all_next, Bool.false_eq_true, if_true, if_false, decide_eq_true_eq, Nat.sub_self]
    rw [in_ref at_.hb true]
    by_cases hm : y ∈ C
    · simp only [hm, ev, wps_seq, wps_if, wps_ret, wps_nx, wps_fl, wps_expr, wps_set, wps_setT, wps_setI, wps_setF, wps_lks, wp_bool, wp_tru, wp_notM, wp_andM, wp_orM, wp_ifM, wp_op2, wp_op1, wp_arg, wp_cons, wp_nil, wp_lit, wp_mth, wp_meth, wp_mk, wp_pop, wp_get2, wp_lck, wp_v, wp_ok, wps_ok, List.map_cons, List.map_nil, List.length_cons, List.length_nil, Nat.zero_add, Nat.reduceAdd, Nat.reduceSub, List.replicate_zero, List.replicate_succ, List.cons_append, List.nil_append, List.append_nil, List.getElem?_cons_zero, List.getElem?_cons_succ, List.set_cons_zero, List.set_cons_succ, blF, mtF, opF, cmF, f_add, f_sub, f_mul, f_mod, f_fdiv, f_pow, f_lt, f_le, f_gt, f_ge, f_eqi, f_eqs, f_int, f_neg, upd_heap, upd_next, all_heap, all_next, Bool.false_eq_true, if_true, if_false, decide_eq_true_eq, Nat.sub_self, decide_true, Bool.not_true]
      exact hQ s' (stop fun y' z => by rw [hy] at z; cases z; exact hm) nx
    · simp only [hm, ev, wps_seq, wps_if, wps_ret, wps_nx, wps_fl, wps_expr, wps_set, wps_setT, wps_setI, wps_setF, wps_lks, wp_bool, wp_tru, wp_notM, wp_andM, wp_orM, wp_ifM, wp_op2, wp_op1, wp_arg, wp_cons, wp_nil, wp_lit, wp_mth, wp_meth, wp_mk, wp_pop, wp_get2, wp_lck, wp_v, wp_ok, wps_ok, List.map_cons, List.map_nil, List.length_cons, List.length_nil, Nat.zero_add, Nat.reduceAdd, Nat.reduceSub, List.replicate_zero, List.replicate_succ, List.cons_append, List.nil_append, List.append_nil, List.getElem?_cons_zero, List.getElem?_cons_succ, List.set_cons_zero, List.set_cons_succ, blF, mtF, opF, cmF, f_add, f_sub, f_mul, f_mod, f_fdiv, f_pow, f_lt, f_le, f_gt, f_ge, f_eqi, f_eqs, f_int, f_neg, upd_heap, upd_next, all_heap, all_next, Bool.false_eq_true, if_true, if_false, decide_eq_true_eq, Nat.sub_self, decide_false, Bool.not_false]
      rw [len_ref at_.hb]
      have hlt : ((C.map D.str).length : Int) < 12 := by rw [List.length_map]; omega
      simp only [hlt, ev, wps_seq, wps_if, wps_ret, wps_nx, wps_fl, wps_expr, wps_set, wps_setT, wps_setI, wps_setF, wps_lks, wp_bool, wp_tru, wp_notM, wp_andM, wp_orM, wp_ifM, wp_op2, wp_op1, wp_arg, wp_cons, wp_nil, wp_lit, wp_mth, wp_meth, wp_mk, wp_pop, wp_get2, wp_lck, wp_v, wp_ok, wps_ok, List.map_cons, List.map_nil, List.length_cons, List.length_nil, Nat.zero_add, Nat.reduceAdd, Nat.reduceSub, List.replicate_zero, List.replicate_succ, List.cons_append, List.nil_append, List.append_nil, List.getElem?_cons_zero, List.getElem?_cons_succ, List.set_cons_zero, List.set_cons_succ, blF, mtF, opF, cmF, f_add, f_sub, f_mul, f_mod, f_fdiv, f_pow, f_lt, f_le, f_gt, f_ge, f_eqi, f_eqs, f_int, f_neg, upd_heap, upd_next, all_heap, all_next, Bool.false_eq_true, if_true, if_false, decide_eq_true_eq, Nat.sub_self]
      subst hbd
      simp only [lrGrowC, ev, wps_seq, wps_if, wps_ret, wps_nx, wps_fl, wps_expr, wps_set, wps_setT, wps_setI, wps_setF, wps_lks, wp_bool, wp_tru, wp_notM, wp_andM, wp_orM, wp_ifM, wp_op2, wp_op1, wp_arg, wp_cons, wp_nil, wp_lit, wp_mth, wp_meth, wp_mk, wp_pop, wp_get2, wp_lck, wp_v, wp_ok, wps_ok, List.map_cons, List.map_nil, List.length_cons, List.length_nil, Nat.zero_add, Nat.reduceAdd, Nat.reduceSub, List.replicate_zero, List.replicate_succ, List.cons_append, List.nil_append, List.append_nil, List.getElem?_cons_zero, List.getElem?_cons_succ, List.set_cons_zero, List.set_cons_succ, blF, mtF, opF, cmF, f_add, f_sub, f_mul, f_mod, f_fdiv, f_pow, f_lt, f_le, f_gt, f_ge, f_eqi, f_eqs, f_int, f_neg, upd_heap, upd_next, all_heap, all_next, Bool.false_eq_true, if_true, if_false, decide_eq_true_eq, Nat.sub_self]
      have e3 : isLst (.ref b) s' = true := by simp [isLst, lstOf, at_.hb]
      have e4 : appF (.ref b) [.str y] s' = _ := LoAt.apr at_.hb (by omega)
      simp only [e3, e1, e2, e4, ev, wps_seq, wps_if, wps_ret, wps_nx, wps_fl, wps_expr, wps_set, wps_setT, wps_setI, wps_setF, wps_lks, wp_bool, wp_tru, wp_notM, wp_andM, wp_orM, wp_ifM, wp_op2, wp_op1, wp_arg, wp_cons, wp_nil, wp_lit, wp_mth, wp_meth, wp_mk, wp_pop, wp_get2, wp_lck, wp_v, wp_ok, wps_ok, List.map_cons, List.map_nil, List.length_cons, List.length_nil, Nat.zero_add, Nat.reduceAdd, Nat.reduceSub, List.replicate_zero, List.replicate_succ, List.cons_append, List.nil_append, List.append_nil, List.getElem?_cons_zero, List.getElem?_cons_succ, List.set_cons_zero, List.set_cons_succ, blF, mtF, opF, cmF, f_add, f_sub, f_mul, f_mod, f_fdiv, f_pow, f_lt, f_le, f_gt, f_ge, f_eqi, f_eqs, f_int, f_neg, upd_heap, upd_next, all_heap, all_next, Bool.false_eq_true, if_true, if_false, decide_eq_true_eq, Nat.sub_self]
      cases n with
      | zero => omega
      | succ n =>
        refine ⟨n, Nat.lt_succ_self n, trivial, nx, C ++ [y], y, ?_, ch.snoc hy hm, ?_, by rw [List.length_append, List.length_singleton]; omega⟩
        · exact ⟨by rw [upd_heap, if_neg at_.ne]; exact at_.ha, by rw [upd_heap, if_pos rfl], at_.ne, at_.old, fun x hx => by rw [upd_heap, if_neg hx]; exact at_.same x hx⟩
        · rw [← hr]
          conv => rhs; unfold growS
          rw [ch.last]
          simp only [hy]
          rw [if_pos ⟨hm, by omega⟩]
end
end Co
namespace Co
open PySem L2
def lrPureC : C := .blt .len false (.cons (.lk (.var 1) (.lc false (.name 7) [7] (.it (.var 1)) (.tand (.tcmp .nin (.var 7) (.var 5)) (.tand1 (.tcmp .in_ (.ix (.var 1) (.var 7)) (.var 5)))) (.var 7))) .nil)
def lrRestC : C := (.seq
 (.ifs (.tand (.tcmp .in_ (.ix (.var 5) (.neg (.int 1))) (.var 1)) (.tand (.tcmp .eq (.ix (.var 1) (.ix (.var 5) (.neg (.int 1)))) (.var 4)) (.tand1 (.tcmp .nin (.var 4) (.var 3))))) (.seq
 (.set 3 (.bin .add false (.var 3) (.var 5)))
 (.seq
 (.ifs (.tcmp .eq lrPureC (.int 0)) (.seq
 (.set 2 (.bin .add false (.var 2) (.int 1)))
 .skip) .skip)
 .skip)) .skip)
 .skip)
section
variable {F : Nat → List D → S → R D} {G : Nat → D} {s0 s : S} {a b : Nat} {L : Prs} {X : D} {x2 x3 x4 x5 x6 x7 : Option D}
def fIn (L : Prs) (C : List Str) (d : D) : Option D := match d with
  | .str x => match getS L x with
    | some y => if x ∉ C ∧ y ∈ C then some (.str x) else none
    | none => none
  | _ => none
theorem fIn_none (L : Prs) (kn : (L.map (·.1)).Nodup) (C : List Str) : (((L.map (·.1)).map D.str).filterMap (fIn L C)).length = 0 ↔ ∀ q ∈ L, q.2 ∈ C → q.1 ∈ C := by
  rw [List.length_eq_zero_iff, List.filterMap_eq_nil_iff]
  constructor
  · intro h q hq hc
    have := h (.str q.1) (List.mem_map.mpr ⟨_, List.mem_map.mpr ⟨q, hq, rfl⟩, rfl⟩)
    have e : getS L q.1 = some q.2 := mem_getS kn hq
    simp only [fIn, e] at this
    by_cases z : q.1 ∈ C
    · exact z
    · rw [if_pos ⟨z, hc⟩] at this; cases this
  · intro h d hd
    obtain ⟨x, hx, rfl⟩ := List.mem_map.mp hd
    obtain ⟨q, hq, rfl⟩ := List.mem_map.mp hx
    have e : getS L q.1 = some q.2 := mem_getS kn hq
    simp only [fIn, e]
    rw [if_neg fun z => z.1 (h q hq z.2)]
theorem lr_pure (kn : (L.map (·.1)).Nodup) (hL : L.length ≤ 10) {C : List Str} (h : LrAt s0 s a b L C) {Q : D → S → Prop} {E : XP} (hQ : ∀ n : Nat, (n = 0 ↔ ∀ q ∈ L, q.2 ∈ C → q.1 ∈ C) → ∀ s', LrAt s0 s' a b L C → s'.next = s.next → Q (.int n) s') :
    wp ((ev F G lrPureC).x [some X, some (.ref a), x2, x3, x4, some (.ref b), x6, x7] s) Q E := by
  simp only [lrPureC, ev, wps_seq, wps_if, wps_ret, wps_nx, wps_fl, wps_expr, wps_set, wps_setT, wps_setI, wps_setF, wps_lks, wp_bool, wp_tru, wp_notM, wp_andM, wp_orM, wp_ifM, wp_op2, wp_op1, wp_arg, wp_cons, wp_nil, wp_lit, wp_mth, wp_meth, wp_mk, wp_pop, wp_get2, wp_lck, wp_v, wp_ok, wps_ok, List.map_cons, List.map_nil, List.length_cons, List.length_nil, Nat.zero_add, Nat.reduceAdd, Nat.reduceSub, List.replicate_zero, List.replicate_succ, List.cons_append, List.nil_append, List.append_nil, List.getElem?_cons_zero, List.getElem?_cons_succ, List.set_cons_zero, List.set_cons_succ, blF, mtF, opF, cmF, f_add, f_sub, f_mul, f_mod, f_fdiv, f_pow, f_lt, f_le, f_gt, f_ge, f_eqi, f_eqs, f_int, f_neg, upd_heap, upd_next, all_heap, all_next, Bool.false_eq_true, if_true, if_false, decide_eq_true_eq, Nat.sub_self]
  have e1 : lkAt (varM 1 [some X, some (.ref a), x2, x3, x4, some (.ref b), x6, x7] s) s = some (a, .lk (kd L)) := by
    simp only [varM, List.getElem?_cons_zero, List.getElem?_cons_succ, lkAt, h.ha, lkOb, Option.map_some]
  rw [e1]
  simp only
  generalize hs1 : s.upd a (.lk (kd L)) = s1
  have a1 : s1.heap a = some (.lk (kd L)) := by rw [← hs1, upd_heap, if_pos rfl]
  have b1 : s1.heap b = some (.lst (C.map .str)) := by rw [← hs1, upd_heap, if_neg (Ne.symm h.ne)]; exact h.hb
  have it1 : anyItM (varM 1) [some X, some (.ref a), x2, x3, x4, some (.ref b), x6, x7] s1 = .ok (keysD (kd L), some (a, .lk (kd L))) s1 := by
    simp only [anyItM, varM, List.getElem?_cons_zero, List.getElem?_cons_succ, bd_ok, anyIt, lkOf, a1]
  refine wp_lc it1 (fIn L C) a1 (fun d hd => ?_) (by rw [line_is]; unfold keysD kd; rw [List.length_map, List.length_map]; omega) ?_
  · rw [keysD_kd] at hd
    obtain ⟨x, hx, rfl⟩ := List.mem_map.mp hd
    obtain ⟨q, hq, rfl⟩ := List.mem_map.mp hx
    have e : getS L q.1 = some q.2 := mem_getS kn hq
    refine ⟨_, rfl, ?_⟩
    have ix1 : ixF (.ref a) (.str q.1) s1 = .ok (.str q.2) s1 := by simp [ixF, seqOf, lstOf, a1, dget, dicOf, keyOf, getK_kd, e]
    generalize he : ([some X, some (.ref a), x2, x3, x4, some (.ref b), x6, some (.str q.1)] : Env) = env
    have t1 : boolM (op2M (cmF .nin) (varM 7) (varM 5)) env s1 = .ok (!decide (q.1 ∈ C)) s1 := by
      rw [← he]
      simp only [boolM, op2M, varM, List.getElem?_cons_zero, List.getElem?_cons_succ, bd_ok, cmF, in_ref b1, if_true]
    have t2 : boolM (op2M (cmF .in_) (op2M ixF (varM 1) (varM 7)) (varM 5)) env s1 = .ok (decide (q.2 ∈ C)) s1 := by
      rw [← he]
      simp only [boolM, op2M, varM, List.getElem?_cons_zero, List.getElem?_cons_succ, bd_ok, ix1, cmF, in_ref b1, Bool.false_eq_true, if_false]
    have tt : andM (boolM (op2M (cmF .nin) (varM 7) (varM 5))) (boolM (op2M (cmF .in_) (op2M ixF (varM 1) (varM 7)) (varM 5))) env s1 = .ok (decide (q.1 ∉ C ∧ q.2 ∈ C)) s1 := by
      unfold andM
      rw [t1, bd_ok]
      by_cases z : q.1 ∈ C
      · simp [z]
      · simp only [z, decide_false, Bool.not_false, if_true, t2, not_false_iff, true_and]
    have ff : fIn L C (.str q.1) = if q.1 ∉ C ∧ q.2 ∈ C then some (.str q.1) else none := by simp only [fIn, e]
    rw [ff]
    by_cases z : q.1 ∉ C ∧ q.2 ∈ C
    · rw [if_pos z]
      rw [decide_eq_true z] at tt
      refine ⟨by rw [← he] at tt; exact tt, rfl⟩
    · rw [if_neg z]
      rw [decide_eq_false z] at tt
      rw [← he] at tt
      exact tt
  have lf : ((keysD (kd L)).filterMap (fIn L C)).length ≤ 1000 := by
    refine Nat.le_trans (List.length_filterMap_le _ _) ?_
    unfold keysD kd; rw [List.length_map, List.length_map]; omega
  rw [mkL_lv lf]
  simp only [ev, wps_seq, wps_if, wps_ret, wps_nx, wps_fl, wps_expr, wps_set, wps_setT, wps_setI, wps_setF, wps_lks, wp_bool, wp_tru, wp_notM, wp_andM, wp_orM, wp_ifM, wp_op2, wp_op1, wp_arg, wp_cons, wp_nil, wp_lit, wp_mth, wp_meth, wp_mk, wp_pop, wp_get2, wp_lck, wp_v, wp_ok, wps_ok, List.map_cons, List.map_nil, List.length_cons, List.length_nil, Nat.zero_add, Nat.reduceAdd, Nat.reduceSub, List.replicate_zero, List.replicate_succ, List.cons_append, List.nil_append, List.append_nil, List.getElem?_cons_zero, List.getElem?_cons_succ, List.set_cons_zero, List.set_cons_succ, blF, mtF, opF, cmF, f_add, f_sub, f_mul, f_mod, f_fdiv, f_pow, f_lt, f_le, f_gt, f_ge, f_eqi, f_eqs, f_int, f_neg, upd_heap, upd_next, all_heap, all_next, Bool.false_eq_true, if_true, if_false, decide_eq_true_eq, Nat.sub_self]
  rw [a1]
  simp only [ulOb]
  rw [len_lv]
  simp only [ev, wps_seq, wps_if, wps_ret, wps_nx, wps_fl, wps_expr, wps_set, wps_setT, wps_setI, wps_setF, wps_lks, wp_bool, wp_tru, wp_notM, wp_andM, wp_orM, wp_ifM, wp_op2, wp_op1, wp_arg, wp_cons, wp_nil, wp_lit, wp_mth, wp_meth, wp_mk, wp_pop, wp_get2, wp_lck, wp_v, wp_ok, wps_ok, List.map_cons, List.map_nil, List.length_cons, List.length_nil, Nat.zero_add, Nat.reduceAdd, Nat.reduceSub, List.replicate_zero, List.replicate_succ, List.cons_append, List.nil_append, List.append_nil, List.getElem?_cons_zero, List.getElem?_cons_succ, List.set_cons_zero, List.set_cons_succ, blF, mtF, opF, cmF, f_add, f_sub, f_mul, f_mod, f_fdiv, f_pow, f_lt, f_le, f_gt, f_ge, f_eqi, f_eqs, f_int, f_neg, upd_heap, upd_next, all_heap, all_next, Bool.false_eq_true, if_true, if_false, decide_eq_true_eq, Nat.sub_self]
  refine hQ _ ?_ _ ⟨by rw [upd_heap, if_pos rfl], by rw [upd_heap, if_neg (Ne.symm h.ne)]; exact b1, h.ne, h.old, fun x hx => ?_⟩ ?_
  · rw [keysD_kd]
    exact fIn_none L kn C
  · rw [upd_heap]
    split
    · rename_i e; rw [e, ← h.same a h.ne]; exact h.ha.symm
    · rename_i e; rw [← hs1, upd_heap, if_neg e]; exact h.same x hx
  · rw [upd_next, ← hs1, upd_next]
end
end Co
namespace Co
open PySem L2
section
variable {F : Nat → List D → S → R D} {G : Nat → D} {s0 s : S} {a b : Nat} {L : Prs} {X : D} {x2 x3 x4 x5 x6 x7 : Option D}
open Classical in
theorem lr_rest (kn : (L.map (·.1)).Nodup) (hL : L.length ≤ 10) {k : Str} (h : LrAt s0 s a b L (ringS L k)) (seen : List Str) (hs : seen.length ≤ 1000) (m : Nat) {Q : QS}
    (hQ : ∀ s', LrAt s0 s' a b L (ringS L k) → s'.next = s.next → Q .nx [some X, some (.ref a), some (.int ((m + if (isRing L k ∧ k ∉ seen) ∧ pureS L k then 1 else 0 : Nat) : Int)), some (.lv ((if isRing L k ∧ k ∉ seen then seen ++ ringS L k else seen).map .str)), some (.str k), some (.ref b), x6, x7] s') :
    wps ((ev F G lrRestC).s [some X, some (.ref a), some (.int (m : Int)), some (.lv (seen.map .str)), some (.str k), some (.ref b), x6, x7] s) Q := by
  obtain ⟨e, ch, _⟩ := ring_ch hL k
  have lC : (ringS L k).length ≤ 11 := by have := ch.keys; omega
  have e1 : ixF (.ref b) (.int (-1)) s = .ok (.str e) s := last_at _ e ch.last s b h.hb (by omega)
  have hr : isRing L k ↔ getS L e = some k := ⟨fun ⟨e', h1, h2⟩ => by rw [ch.last] at h1; cases h1; exact h2, fun z => ⟨e, ch.last, z⟩⟩
  generalize hp : (ev F G lrPureC).x = pp
  have no : ¬ (isRing L k ∧ k ∉ seen) → Q .nx [some X, some (.ref a), some (.int (m : Int)), some (.lv (seen.map .str)), some (.str k), some (.ref b), x6, x7] s := fun z => by
    have := hQ s h rfl
    rw [if_neg (fun w => z w.1), if_neg z] at this
    exact this
  unfold lrRestC
  simp only [ev, wps_seq, wps_if, wps_ret, wps_nx, wps_fl, wps_expr, wps_set, wps_setT, wps_setI, wps_setF, wps_lks, wp_bool, wp_tru, wp_notM, wp_andM, wp_orM, wp_ifM, wp_op2, wp_op1, wp_arg, wp_cons, wp_nil, wp_lit, wp_mth, wp_meth, wp_mk, wp_pop, wp_get2, wp_lck, wp_v, wp_ok, wps_ok, List.map_cons, List.map_nil, List.length_cons, List.length_nil, Nat.zero_add, Nat.reduceAdd, Nat.reduceSub, List.replicate_zero, List.replicate_succ, List.cons_append, List.nil_append, List.append_nil, List.getElem?_cons_zero, List.getElem?_cons_succ, List.set_cons_zero, List.set_cons_succ, blF, mtF, opF, cmF, f_add, f_sub, f_mul, f_mod, f_fdiv, f_pow, f_lt, f_le, f_gt, f_ge, f_eqi, f_eqs, f_int, f_neg, upd_heap, upd_next, all_heap, all_next, Bool.false_eq_true, if_true, if_false, decide_eq_true_eq, Nat.sub_self, hp]
  rw [e1]
  simp only [ev, wps_seq, wps_if, wps_ret, wps_nx, wps_fl, wps_expr, wps_set, wps_setT, wps_setI, wps_setF, wps_lks, wp_bool, wp_tru, wp_notM, wp_andM, wp_orM, wp_ifM, wp_op2, wp_op1, wp_arg, wp_cons, wp_nil, wp_lit, wp_mth, wp_meth, wp_mk, wp_pop, wp_get2, wp_lck, wp_v, wp_ok, wps_ok, List.map_cons, List.map_nil, List.length_cons, List.length_nil, Nat.zero_add, Nat.reduceAdd, Nat.reduceSub, List.replicate_zero, List.replicate_succ, List.cons_append, List.nil_append, List.append_nil, List.getElem?_cons_zero, List.getElem?_cons_succ, List.set_cons_zero, List.set_cons_succ, blF, mtF, opF, cmF, f_add, f_sub, f_mul, f_mod, f_fdiv, f_pow, f_lt, f_le, f_gt, f_ge, f_eqi, f_eqs, f_int, f_neg, upd_heap, upd_next, all_heap, all_next, Bool.false_eq_true, if_true, if_false, decide_eq_true_eq, Nat.sub_self]
  rw [in_dic h.ha]
  cases hy : getS L e with
  | none =>
    simp only [Option.isSome_none, ev, wps_seq, wps_if, wps_ret, wps_nx, wps_fl, wps_expr, wps_set, wps_setT, wps_setI, wps_setF, wps_lks, wp_bool, wp_tru, wp_notM, wp_andM, wp_orM, wp_ifM, wp_op2, wp_op1, wp_arg, wp_cons, wp_nil, wp_lit, wp_mth, wp_meth, wp_mk, wp_pop, wp_get2, wp_lck, wp_v, wp_ok, wps_ok, List.map_cons, List.map_nil, List.length_cons, List.length_nil, Nat.zero_add, Nat.reduceAdd, Nat.reduceSub, List.replicate_zero, List.replicate_succ, List.cons_append, List.nil_append, List.append_nil, List.getElem?_cons_zero, List.getElem?_cons_succ, List.set_cons_zero, List.set_cons_succ, blF, mtF, opF, cmF, f_add, f_sub, f_mul, f_mod, f_fdiv, f_pow, f_lt, f_le, f_gt, f_ge, f_eqi, f_eqs, f_int, f_neg, upd_heap, upd_next, all_heap, all_next, Bool.false_eq_true, if_true, if_false, decide_eq_true_eq, Nat.sub_self]
    exact no fun z => by rw [hr, hy] at z; cases z.1
  | some y =>
    simp only [Option.isSome_some, ev, wps_seq, wps_if, wps_ret, wps_nx, wps_fl, wps_expr, wps_set, wps_setT, wps_setI, wps_setF, wps_lks, wp_bool, wp_tru, wp_notM, wp_andM, wp_orM, wp_ifM, wp_op2, wp_op1, wp_arg, wp_cons, wp_nil, wp_lit, wp_mth, wp_meth, wp_mk, wp_pop, wp_get2, wp_lck, wp_v, wp_ok, wps_ok, List.map_cons, List.map_nil, List.length_cons, List.length_nil, Nat.zero_add, Nat.reduceAdd, Nat.reduceSub, List.replicate_zero, List.replicate_succ, List.cons_append, List.nil_append, List.append_nil, List.getElem?_cons_zero, List.getElem?_cons_succ, List.set_cons_zero, List.set_cons_succ, blF, mtF, opF, cmF, f_add, f_sub, f_mul, f_mod, f_fdiv, f_pow, f_lt, f_le, f_gt, f_ge, f_eqi, f_eqs, f_int, f_neg, upd_heap, upd_next, all_heap, all_next, Bool.false_eq_true, if_true, if_false, decide_eq_true_eq, Nat.sub_self]
    rw [e1]
    simp only [ev, wps_seq, wps_if, wps_ret, wps_nx, wps_fl, wps_expr, wps_set, wps_setT, wps_setI, wps_setF, wps_lks, wp_bool, wp_tru, wp_notM, wp_andM, wp_orM, wp_ifM, wp_op2, wp_op1, wp_arg, wp_cons, wp_nil, wp_lit, wp_mth, wp_meth, wp_mk, wp_pop, wp_get2, wp_lck, wp_v, wp_ok, wps_ok, List.map_cons, List.map_nil, List.length_cons, List.length_nil, Nat.zero_add, Nat.reduceAdd, Nat.reduceSub, List.replicate_zero, List.replicate_succ, List.cons_append, List.nil_append, List.append_nil, List.getElem?_cons_zero, List.getElem?_cons_succ, List.set_cons_zero, List.set_cons_succ, blF, mtF, opF, cmF, f_add, f_sub, f_mul, f_mod, f_fdiv, f_pow, f_lt, f_le, f_gt, f_ge, f_eqi, f_eqs, f_int, f_neg, upd_heap, upd_next, all_heap, all_next, Bool.false_eq_true, if_true, if_false, decide_eq_true_eq, Nat.sub_self]
    have e2 : ixF (.ref a) (.str e) s = .ok (.str y) s := LoAt.get h.ha hy
    rw [e2]
    simp only [ev, wps_seq, wps_if, wps_ret, wps_nx, wps_fl, wps_expr, wps_set, wps_setT, wps_setI, wps_setF, wps_lks, wp_bool, wp_tru, wp_notM, wp_andM, wp_orM, wp_ifM, wp_op2, wp_op1, wp_arg, wp_cons, wp_nil, wp_lit, wp_mth, wp_meth, wp_mk, wp_pop, wp_get2, wp_lck, wp_v, wp_ok, wps_ok, List.map_cons, List.map_nil, List.length_cons, List.length_nil, Nat.zero_add, Nat.reduceAdd, Nat.reduceSub, List.replicate_zero, List.replicate_succ, List.cons_append, List.nil_append, List.append_nil, List.getElem?_cons_zero, List.getElem?_cons_succ, List.set_cons_zero, List.set_cons_succ, blF, mtF, opF, cmF, f_add, f_sub, f_mul, f_mod, f_fdiv, f_pow, f_lt, f_le, f_gt, f_ge, f_eqi, f_eqs, f_int, f_neg, upd_heap, upd_next, all_heap, all_next, Bool.false_eq_true, if_true, if_false, decide_eq_true_eq, Nat.sub_self]
    by_cases hyk : y = k
    · subst hyk
      simp only [ev, wps_seq, wps_if, wps_ret, wps_nx, wps_fl, wps_expr, wps_set, wps_setT, wps_setI, wps_setF, wps_lks, wp_bool, wp_tru, wp_notM, wp_andM, wp_orM, wp_ifM, wp_op2, wp_op1, wp_arg, wp_cons, wp_nil, wp_lit, wp_mth, wp_meth, wp_mk, wp_pop, wp_get2, wp_lck, wp_v, wp_ok, wps_ok, List.map_cons, List.map_nil, List.length_cons, List.length_nil, Nat.zero_add, Nat.reduceAdd, Nat.reduceSub, List.replicate_zero, List.replicate_succ, List.cons_append, List.nil_append, List.append_nil, List.getElem?_cons_zero, List.getElem?_cons_succ, List.set_cons_zero, List.set_cons_succ, blF, mtF, opF, cmF, f_add, f_sub, f_mul, f_mod, f_fdiv, f_pow, f_lt, f_le, f_gt, f_ge, f_eqi, f_eqs, f_int, f_neg, upd_heap, upd_next, all_heap, all_next, Bool.false_eq_true, if_true, if_false, decide_eq_true_eq, Nat.sub_self, decide_true]
      rw [inr_any]
      simp only [ev, wps_seq, wps_if, wps_ret, wps_nx, wps_fl, wps_expr, wps_set, wps_setT, wps_setI, wps_setF, wps_lks, wp_bool, wp_tru, wp_notM, wp_andM, wp_orM, wp_ifM, wp_op2, wp_op1, wp_arg, wp_cons, wp_nil, wp_lit, wp_mth, wp_meth, wp_mk, wp_pop, wp_get2, wp_lck, wp_v, wp_ok, wps_ok, List.map_cons, List.map_nil, List.length_cons, List.length_nil, Nat.zero_add, Nat.reduceAdd, Nat.reduceSub, List.replicate_zero, List.replicate_succ, List.cons_append, List.nil_append, List.append_nil, List.getElem?_cons_zero, List.getElem?_cons_succ, List.set_cons_zero, List.set_cons_succ, blF, mtF, opF, cmF, f_add, f_sub, f_mul, f_mod, f_fdiv, f_pow, f_lt, f_le, f_gt, f_ge, f_eqi, f_eqs, f_int, f_neg, upd_heap, upd_next, all_heap, all_next, Bool.false_eq_true, if_true, if_false, decide_eq_true_eq, Nat.sub_self]
      by_cases hm : y ∉ seen
      · have yes : isRing L y ∧ y ∉ seen := ⟨hr.mpr hy, hm⟩
        simp only [hm, not_false_iff, ev, wps_seq, wps_if, wps_ret, wps_nx, wps_fl, wps_expr, wps_set, wps_setT, wps_setI, wps_setF, wps_lks, wp_bool, wp_tru, wp_notM, wp_andM, wp_orM, wp_ifM, wp_op2, wp_op1, wp_arg, wp_cons, wp_nil, wp_lit, wp_mth, wp_meth, wp_mk, wp_pop, wp_get2, wp_lck, wp_v, wp_ok, wps_ok, List.map_cons, List.map_nil, List.length_cons, List.length_nil, Nat.zero_add, Nat.reduceAdd, Nat.reduceSub, List.replicate_zero, List.replicate_succ, List.cons_append, List.nil_append, List.append_nil, List.getElem?_cons_zero, List.getElem?_cons_succ, List.set_cons_zero, List.set_cons_succ, blF, mtF, opF, cmF, f_add, f_sub, f_mul, f_mod, f_fdiv, f_pow, f_lt, f_le, f_gt, f_ge, f_eqi, f_eqs, f_int, f_neg, upd_heap, upd_next, all_heap, all_next, Bool.false_eq_true, if_true, if_false, decide_eq_true_eq, Nat.sub_self]
        have e3 : addF false (.lv (seen.map .str)) (.ref b) s = .ok (.lv ((seen ++ ringS L y).map .str)) s := by
          show (match trkOf (.lv (seen.map D.str)) s, trkOf (.ref b) s with
            | some a, some b => mkL false (a ++ b) s
            | _, _ => .bad) = _
          have t1 : trkOf (.lv (seen.map D.str)) s = some (seen.map .str) := rfl
          have t2 : trkOf (.ref b) s = some ((ringS L y).map .str) := by simp [trkOf, h.hb]
          rw [t1, t2]
          simp only
          have z : (seen.map D.str ++ (ringS L y).map D.str).length ≤ LINE := by rw [line_is, List.length_append, List.length_map, List.length_map]; omega
          rw [List.map_append]
          simp only [mkL, z, if_true, Bool.false_eq_true, if_false]
        rw [e3]
        simp only [ev, wps_seq, wps_if, wps_ret, wps_nx, wps_fl, wps_expr, wps_set, wps_setT, wps_setI, wps_setF, wps_lks, wp_bool, wp_tru, wp_notM, wp_andM, wp_orM, wp_ifM, wp_op2, wp_op1, wp_arg, wp_cons, wp_nil, wp_lit, wp_mth, wp_meth, wp_mk, wp_pop, wp_get2, wp_lck, wp_v, wp_ok, wps_ok, List.map_cons, List.map_nil, List.length_cons, List.length_nil, Nat.zero_add, Nat.reduceAdd, Nat.reduceSub, List.replicate_zero, List.replicate_succ, List.cons_append, List.nil_append, List.append_nil, List.getElem?_cons_zero, List.getElem?_cons_succ, List.set_cons_zero, List.set_cons_succ, blF, mtF, opF, cmF, f_add, f_sub, f_mul, f_mod, f_fdiv, f_pow, f_lt, f_le, f_gt, f_ge, f_eqi, f_eqs, f_int, f_neg, upd_heap, upd_next, all_heap, all_next, Bool.false_eq_true, if_true, if_false, decide_eq_true_eq, Nat.sub_self]
        subst hp
        refine lr_pure kn hL h fun n hn s' h' nx => ?_
        simp only [ev, wps_seq, wps_if, wps_ret, wps_nx, wps_fl, wps_expr, wps_set, wps_setT, wps_setI, wps_setF, wps_lks, wp_bool, wp_tru, wp_notM, wp_andM, wp_orM, wp_ifM, wp_op2, wp_op1, wp_arg, wp_cons, wp_nil, wp_lit, wp_mth, wp_meth, wp_mk, wp_pop, wp_get2, wp_lck, wp_v, wp_ok, wps_ok, List.map_cons, List.map_nil, List.length_cons, List.length_nil, Nat.zero_add, Nat.reduceAdd, Nat.reduceSub, List.replicate_zero, List.replicate_succ, List.cons_append, List.nil_append, List.append_nil, List.getElem?_cons_zero, List.getElem?_cons_succ, List.set_cons_zero, List.set_cons_succ, blF, mtF, opF, cmF, f_add, f_sub, f_mul, f_mod, f_fdiv, f_pow, f_lt, f_le, f_gt, f_ge, f_eqi, f_eqs, f_int, f_neg, upd_heap, upd_next, all_heap, all_next, Bool.false_eq_true, if_true, if_false, decide_eq_true_eq, Nat.sub_self]
        have hQ' := hQ s' h' nx
        rw [if_pos yes] at hQ'
        by_cases hz : n = 0
        · have hpu : pureS L y := hn.mp hz
          rw [if_pos ⟨yes, hpu⟩] at hQ'
          have z : ((n : Int) = 0) := by omega
          simp only [z, ev, wps_seq, wps_if, wps_ret, wps_nx, wps_fl, wps_expr, wps_set, wps_setT, wps_setI, wps_setF, wps_lks, wp_bool, wp_tru, wp_notM, wp_andM, wp_orM, wp_ifM, wp_op2, wp_op1, wp_arg, wp_cons, wp_nil, wp_lit, wp_mth, wp_meth, wp_mk, wp_pop, wp_get2, wp_lck, wp_v, wp_ok, wps_ok, List.map_cons, List.map_nil, List.length_cons, List.length_nil, Nat.zero_add, Nat.reduceAdd, Nat.reduceSub, List.replicate_zero, List.replicate_succ, List.cons_append, List.nil_append, List.append_nil, List.getElem?_cons_zero, List.getElem?_cons_succ, List.set_cons_zero, List.set_cons_succ, blF, mtF, opF, cmF, f_add, f_sub, f_mul, f_mod, f_fdiv, f_pow, f_lt, f_le, f_gt, f_ge, f_eqi, f_eqs, f_int, f_neg, upd_heap, upd_next, all_heap, all_next, Bool.false_eq_true, if_true, if_false, decide_eq_true_eq, Nat.sub_self, decide_true]
          exact hQ'
        · have hpu : ¬ pureS L y := fun w => hz (hn.mpr w)
          rw [if_neg fun w => hpu w.2] at hQ'
          have z : ¬ ((n : Int) = 0) := by omega
          simp only [z, ev, wps_seq, wps_if, wps_ret, wps_nx, wps_fl, wps_expr, wps_set, wps_setT, wps_setI, wps_setF, wps_lks, wp_bool, wp_tru, wp_notM, wp_andM, wp_orM, wp_ifM, wp_op2, wp_op1, wp_arg, wp_cons, wp_nil, wp_lit, wp_mth, wp_meth, wp_mk, wp_pop, wp_get2, wp_lck, wp_v, wp_ok, wps_ok, List.map_cons, List.map_nil, List.length_cons, List.length_nil, Nat.zero_add, Nat.reduceAdd, Nat.reduceSub, List.replicate_zero, List.replicate_succ, List.cons_append, List.nil_append, List.append_nil, List.getElem?_cons_zero, List.getElem?_cons_succ, List.set_cons_zero, List.set_cons_succ, blF, mtF, opF, cmF, f_add, f_sub, f_mul, f_mod, f_fdiv, f_pow, f_lt, f_le, f_gt, f_ge, f_eqi, f_eqs, f_int, f_neg, upd_heap, upd_next, all_heap, all_next, Bool.false_eq_true, if_true, if_false, decide_eq_true_eq, Nat.sub_self, decide_false]
          exact hQ'
      · simp only [hm, ev, wps_seq, wps_if, wps_ret, wps_nx, wps_fl, wps_expr, wps_set, wps_setT, wps_setI, wps_setF, wps_lks, wp_bool, wp_tru, wp_notM, wp_andM, wp_orM, wp_ifM, wp_op2, wp_op1, wp_arg, wp_cons, wp_nil, wp_lit, wp_mth, wp_meth, wp_mk, wp_pop, wp_get2, wp_lck, wp_v, wp_ok, wps_ok, List.map_cons, List.map_nil, List.length_cons, List.length_nil, Nat.zero_add, Nat.reduceAdd, Nat.reduceSub, List.replicate_zero, List.replicate_succ, List.cons_append, List.nil_append, List.append_nil, List.getElem?_cons_zero, List.getElem?_cons_succ, List.set_cons_zero, List.set_cons_succ, blF, mtF, opF, cmF, f_add, f_sub, f_mul, f_mod, f_fdiv, f_pow, f_lt, f_le, f_gt, f_ge, f_eqi, f_eqs, f_int, f_neg, upd_heap, upd_next, all_heap, all_next, Bool.false_eq_true, if_true, if_false, decide_eq_true_eq, Nat.sub_self]
        exact no fun z => hm z.2
    · simp only [hyk, ev, wps_seq, wps_if, wps_ret, wps_nx, wps_fl, wps_expr, wps_set, wps_setT, wps_setI, wps_setF, wps_lks, wp_bool, wp_tru, wp_notM, wp_andM, wp_orM, wp_ifM, wp_op2, wp_op1, wp_arg, wp_cons, wp_nil, wp_lit, wp_mth, wp_meth, wp_mk, wp_pop, wp_get2, wp_lck, wp_v, wp_ok, wps_ok, List.map_cons, List.map_nil, List.length_cons, List.length_nil, Nat.zero_add, Nat.reduceAdd, Nat.reduceSub, List.replicate_zero, List.replicate_succ, List.cons_append, List.nil_append, List.append_nil, List.getElem?_cons_zero, List.getElem?_cons_succ, List.set_cons_zero, List.set_cons_succ, blF, mtF, opF, cmF, f_add, f_sub, f_mul, f_mod, f_fdiv, f_pow, f_lt, f_le, f_gt, f_ge, f_eqi, f_eqs, f_int, f_neg, upd_heap, upd_next, all_heap, all_next, Bool.false_eq_true, if_true, if_false, decide_eq_true_eq, Nat.sub_self, decide_false]
      exact no fun z => by rw [hr, hy] at z; exact hyk (Option.some.inj z.1)
end
end Co
namespace Co
open PySem L2
section
variable {F : Nat → List D → S → R D} {G : Nat → D} {s : S} {a : Nat} {L : Prs} {X : D} {x5 x6 x7 : Option D}
theorem lrStart_ev : (ev F G lrStartC).s = seqM (setM 5 (ev F G (.lst true (.cons (.var 4) .nil))).x) (seqM (whileM (ev F G lrCondC).t (ev F G lrGrowC).s) (ev F G lrRestC).s) := by
  simp only [lrStartC, lrCondC, lrRestC, lrPureC, ev]
open Classical in
theorem lr_start (kn : (L.map (·.1)).Nodup) (hL : L.length ≤ 10) (alt : a < s.next) (ha : s.heap a = some (.dK (kd L))) {k : Str} (seen : List Str) (hs : seen.length ≤ 1000) (m : Nat) {Q : QS}
    (hQ : ∀ s' x5, s'.next = s.next + 1 → (∀ x, x < s.next → s'.heap x = s.heap x) → Q .nx [some X, some (.ref a), some (.int ((m + if (isRing L k ∧ k ∉ seen) ∧ pureS L k then 1 else 0 : Nat) : Int)), some (.lv ((if isRing L k ∧ k ∉ seen then seen ++ ringS L k else seen).map .str)), some (.str k), x5, x6, x7] s') :
    wps ((ev F G lrStartC).s [some X, some (.ref a), some (.int (m : Int)), some (.lv (seen.map .str)), some (.str k), x5, x6, x7] s) Q := by
  rw [lrStart_ev]
  generalize hw : whileM (ev F G lrCondC).t (ev F G lrGrowC).s = ww
  generalize hr : (ev F G lrRestC).s = rr
  simp only [ev, wps_seq, wps_if, wps_ret, wps_nx, wps_fl, wps_expr, wps_set, wps_setT, wps_setI, wps_setF, wps_lks, wp_bool, wp_tru, wp_notM, wp_andM, wp_orM, wp_ifM, wp_op2, wp_op1, wp_arg, wp_cons, wp_nil, wp_lit, wp_mth, wp_meth, wp_mk, wp_pop, wp_get2, wp_lck, wp_v, wp_ok, wps_ok, List.map_cons, List.map_nil, List.length_cons, List.length_nil, Nat.zero_add, Nat.reduceAdd, Nat.reduceSub, List.replicate_zero, List.replicate_succ, List.cons_append, List.nil_append, List.append_nil, List.getElem?_cons_zero, List.getElem?_cons_succ, List.set_cons_zero, List.set_cons_succ, blF, mtF, opF, cmF, f_add, f_sub, f_mul, f_mod, f_fdiv, f_pow, f_lt, f_le, f_gt, f_ge, f_eqi, f_eqs, f_int, f_neg, upd_heap, upd_next, all_heap, all_next, Bool.false_eq_true, if_true, if_false, decide_eq_true_eq, Nat.sub_self]
  rw [mkL_ref (by simp)]
  simp only [ev, wps_seq, wps_if, wps_ret, wps_nx, wps_fl, wps_expr, wps_set, wps_setT, wps_setI, wps_setF, wps_lks, wp_bool, wp_tru, wp_notM, wp_andM, wp_orM, wp_ifM, wp_op2, wp_op1, wp_arg, wp_cons, wp_nil, wp_lit, wp_mth, wp_meth, wp_mk, wp_pop, wp_get2, wp_lck, wp_v, wp_ok, wps_ok, List.map_cons, List.map_nil, List.length_cons, List.length_nil, Nat.zero_add, Nat.reduceAdd, Nat.reduceSub, List.replicate_zero, List.replicate_succ, List.cons_append, List.nil_append, List.append_nil, List.getElem?_cons_zero, List.getElem?_cons_succ, List.set_cons_zero, List.set_cons_succ, blF, mtF, opF, cmF, f_add, f_sub, f_mul, f_mod, f_fdiv, f_pow, f_lt, f_le, f_gt, f_ge, f_eqi, f_eqs, f_int, f_neg, upd_heap, upd_next, all_heap, all_next, Bool.false_eq_true, if_true, if_false, decide_eq_true_eq, Nat.sub_self]
  have h0 : LrAt s (s.alloc (.lst [.str k])) a s.next L [k] := by
    refine ⟨?_, by rw [all_heap, if_pos rfl]; rfl, Nat.ne_of_lt alt, Nat.le_refl _, fun x hx => by rw [all_heap, if_neg hx]⟩
    rw [all_heap, if_neg (Nat.ne_of_lt alt)]; exact ha
  subst hw
  refine lr_grow hL h0 fun s2 h2 n2 => ?_
  simp only
  subst hr
  refine lr_rest kn hL h2 seen hs m fun s3 h3 n3 => ?_
  exact hQ s3 _ (by rw [n3, n2]; rfl) fun x hx => h3.same x (Nat.ne_of_lt hx)
end
end Co
namespace Co
open PySem L2
noncomputable def sortK (L : Prs) : List Str := (L.map (·.1)).mergeSort leStr
theorem sortK_mem {L : Prs} {q : Str × Str} (h : q ∈ L) : q.1 ∈ sortK L := List.mem_mergeSort.mpr (List.mem_map.mpr ⟨q, h, rfl⟩)
theorem sortK_len {L : Prs} : (sortK L).length = L.length := by unfold sortK; rw [List.length_mergeSort, List.length_map]
theorem strs_ok (ks : List Str) : strsOf (ks.map D.str) = some ks := by
  induction ks with
  | nil => rfl
  | cons k ks ih => simp [strsOf, ih]
theorem pairs_mv (L : Prs) : pairsD (L.map mv) = some (L.map fun q => ((Sum.inr q.1 : Key), D.str q.2)) := by
  induction L with
  | nil => rfl
  | cons q L ih => simp [pairsD, ih, pairD, mv, keyOf]
theorem dict_lv {L : Prs} (kn : (L.map (·.1)).Nodup) {s : S} : dicF [.lv (L.map mv)] s = .ok (.ref s.next) (s.alloc (.dK (kd L))) := by
  have e : mergeD [] (L.map fun q => ((Sum.inr q.1 : Key), D.str q.2)) = kd L := by
    unfold mergeD
    rw [show ([] : List (Key × D)) = kd [] from rfl, fold_kd, fold_put _ [] (by simpa using kn), List.nil_append]
  simp only [dicF, dseqOf, lstOf, pairs_mv, e]
section
variable {F : Nat → List D → S → R D} {G : Nat → D} {s : S} {X : D}
open Classical in
theorem lr_gen (w : s.Wf) {ms : Prs} (hX : ∀ s, anyIt X s = .ok (ms.map mv, none) s) (hn : (ms.map (·.1)).Nodup) (hl : ms.length ≤ 10) {Q : D → S → Prop} {E : XP}
    (hQ : Q (.int (ringsN (movS ms) (sortK (movS ms)) : Nat)) s) : wp (callB 1 8 (ev F G lrC).s [X] s) Q E := by
  have LN := line_is
  generalize hst : (ev F G lrStartC).s = st
  refine wp_callB rfl ?_
  unfold lrC
  simp only [ev, wps_seq, wps_if, wps_ret, wps_nx, wps_fl, wps_expr, wps_set, wps_setT, wps_setI, wps_setF, wps_lks, wp_bool, wp_tru, wp_notM, wp_andM, wp_orM, wp_ifM, wp_op2, wp_op1, wp_arg, wp_cons, wp_nil, wp_lit, wp_mth, wp_meth, wp_mk, wp_pop, wp_get2, wp_lck, wp_v, wp_ok, wps_ok, List.map_cons, List.map_nil, List.length_cons, List.length_nil, Nat.zero_add, Nat.reduceAdd, Nat.reduceSub, List.replicate_zero, List.replicate_succ, List.cons_append, List.nil_append, List.append_nil, List.getElem?_cons_zero, List.getElem?_cons_succ, List.set_cons_zero, List.set_cons_succ, blF, mtF, opF, cmF, f_add, f_sub, f_mul, f_mod, f_fdiv, f_pow, f_lt, f_le, f_gt, f_ge, f_eqi, f_eqs, f_int, f_neg, upd_heap, upd_next, all_heap, all_next, Bool.false_eq_true, if_true, if_false, decide_eq_true_eq, Nat.sub_self, hst]
  refine wp_pick (L := ms) (gd := none) (s1 := s) ?_ (fun q => q.1 ≠ q.2) mv trivial (fun q hq => ⟨_, rfl, ?_, rfl⟩) (by omega) ?_
  · simp only [anyItM, varM, List.getElem?_cons_zero, bd_ok]
    exact hX _
  · simp only [boolM, op2M, varM, litM, wipeE, List.set_cons_zero, List.set_cons_succ, List.getElem?_cons_zero, List.getElem?_cons_succ, bd_ok, ix_mv0, ix_mv1, cmF, f_eqs, if_true]
    by_cases z : q.1 = q.2 <;> simp [z]
  have hm : (ms.filter fun q => decide (q.1 ≠ q.2)) = movS ms := rfl
  rw [hm]
  have hL : (movS ms).length ≤ 10 := Nat.le_trans (List.length_filter_le _ _) hl
  have kn := mov_nodup hn
  generalize movS ms = L at hL kn hQ ⊢
  rw [mkL_lv (by rw [List.length_map]; omega)]
  simp only [ev, wps_seq, wps_if, wps_ret, wps_nx, wps_fl, wps_expr, wps_set, wps_setT, wps_setI, wps_setF, wps_lks, wp_bool, wp_tru, wp_notM, wp_andM, wp_orM, wp_ifM, wp_op2, wp_op1, wp_arg, wp_cons, wp_nil, wp_lit, wp_mth, wp_meth, wp_mk, wp_pop, wp_get2, wp_lck, wp_v, wp_ok, wps_ok, List.map_cons, List.map_nil, List.length_cons, List.length_nil, Nat.zero_add, Nat.reduceAdd, Nat.reduceSub, List.replicate_zero, List.replicate_succ, List.cons_append, List.nil_append, List.append_nil, List.getElem?_cons_zero, List.getElem?_cons_succ, List.set_cons_zero, List.set_cons_succ, blF, mtF, opF, cmF, f_add, f_sub, f_mul, f_mod, f_fdiv, f_pow, f_lt, f_le, f_gt, f_ge, f_eqi, f_eqs, f_int, f_neg, upd_heap, upd_next, all_heap, all_next, Bool.false_eq_true, if_true, if_false, decide_eq_true_eq, Nat.sub_self]
  rw [dict_lv kn]
  simp only [ev, wps_seq, wps_if, wps_ret, wps_nx, wps_fl, wps_expr, wps_set, wps_setT, wps_setI, wps_setF, wps_lks, wp_bool, wp_tru, wp_notM, wp_andM, wp_orM, wp_ifM, wp_op2, wp_op1, wp_arg, wp_cons, wp_nil, wp_lit, wp_mth, wp_meth, wp_mk, wp_pop, wp_get2, wp_lck, wp_v, wp_ok, wps_ok, List.map_cons, List.map_nil, List.length_cons, List.length_nil, Nat.zero_add, Nat.reduceAdd, Nat.reduceSub, List.replicate_zero, List.replicate_succ, List.cons_append, List.nil_append, List.append_nil, List.getElem?_cons_zero, List.getElem?_cons_succ, List.set_cons_zero, List.set_cons_succ, blF, mtF, opF, cmF, f_add, f_sub, f_mul, f_mod, f_fdiv, f_pow, f_lt, f_le, f_gt, f_ge, f_eqi, f_eqs, f_int, f_neg, upd_heap, upd_next, all_heap, all_next, Bool.false_eq_true, if_true, if_false, decide_eq_true_eq, Nat.sub_self]
  rw [mkL_lv (by simp)]
  simp only [ev, wps_seq, wps_if, wps_ret, wps_nx, wps_fl, wps_expr, wps_set, wps_setT, wps_setI, wps_setF, wps_lks, wp_bool, wp_tru, wp_notM, wp_andM, wp_orM, wp_ifM, wp_op2, wp_op1, wp_arg, wp_cons, wp_nil, wp_lit, wp_mth, wp_meth, wp_mk, wp_pop, wp_get2, wp_lck, wp_v, wp_ok, wps_ok, List.map_cons, List.map_nil, List.length_cons, List.length_nil, Nat.zero_add, Nat.reduceAdd, Nat.reduceSub, List.replicate_zero, List.replicate_succ, List.cons_append, List.nil_append, List.append_nil, List.getElem?_cons_zero, List.getElem?_cons_succ, List.set_cons_zero, List.set_cons_succ, blF, mtF, opF, cmF, f_add, f_sub, f_mul, f_mod, f_fdiv, f_pow, f_lt, f_le, f_gt, f_ge, f_eqi, f_eqs, f_int, f_neg, upd_heap, upd_next, all_heap, all_next, Bool.false_eq_true, if_true, if_false, decide_eq_true_eq, Nat.sub_self]
  generalize hs1 : s.alloc (.dK (kd L)) = s1
  have a1 : s1.heap s.next = some (.dK (kd L)) := by rw [← hs1, all_heap, if_pos rfl]
  have n1 : s1.next = s.next + 1 := by rw [← hs1]; rfl
  have p1 : ∀ x, x < s.next → s1.heap x = s.heap x := fun x hx => by rw [← hs1, all_heap, if_neg (Nat.ne_of_lt hx)]
  have so : sortB false [.ref s.next] s1 = .ok (.lv ((sortK L).map .str)) s1 := by
    have z : (L.map (·.1)).length < 64 := by rw [List.length_map]; omega
    have y : ((sortK L).map D.str).length ≤ 1000 := by rw [List.length_map, sortK_len]; omega
    simp only [sortB, lstOf, a1, dicOf, keysD_kd, strs_ok, z, if_true]
    exact mkL_lv y
  have hi : anyItM (argM (sortB false) (consM (varM 1) nilM)) [some X, some (.ref s.next), some (.int 0), some (.lv []), none, none, none, none] s1 = .ok ((sortK L).map .str, none) s1 := by
    simp only [anyItM, argM, consM, nilM, varM, List.getElem?_cons_zero, List.getElem?_cons_succ, bd_ok, so]
    simp [anyIt, lkOf, lkTOf, lstIt, lstOf, gdOf]
  refine wps_for (fun i env t => ∃ (m : Nat) (seen : List Str) (x4 x5 : Option D), env = [some X, some (.ref s.next), some (.int (m : Int)), some (.lv (seen.map .str)), x4, x5, none, none] ∧ s.next < t.next ∧ t.heap s.next = some (.dK (kd L)) ∧ (∀ x, x < s.next → t.heap x = s.heap x) ∧ seen.length ≤ 11 * i ∧ m + (repsS L ((sortK L).drop i) seen).countP (fun k => decide (pureS L k)) = ringsN L (sortK L)) hi
    ⟨0, [], none, none, rfl, by omega, a1, p1, Nat.le_refl _, by rw [List.drop_zero, Nat.zero_add]; rfl⟩ (fun _ _ _ _ _ => trivial) (fun i d env t hd hi => ?_) fun env t hi => ?_
  · obtain ⟨m, seen, x4, x5, rfl, alt, at_, below, hsl, hc⟩ := hi
    rw [List.getElem?_map] at hd
    obtain ⟨k, hk, rfl⟩ := Option.map_eq_some_iff.mp hd
    have hlt : i < (sortK L).length := (List.getElem?_eq_some_iff.mp hk).1
    have hlt' := hlt
    rw [sortK_len] at hlt'
    refine ⟨_, rfl, ?_⟩
    subst hst
    refine lr_start kn hL alt at_ seen (by omega) m fun s' x5 nx sm => ?_
    obtain ⟨e, ch, _⟩ := ring_ch hL k
    have lC : (ringS L k).length ≤ 11 := by have := ch.keys; omega
    refine ⟨_, _, _, _, rfl, by omega, by rw [sm _ alt]; exact at_, fun x hx => by rw [sm x (by omega)]; exact below x hx, ?_, ?_⟩
    · split
      · rw [List.length_append]; omega
      · omega
    · rw [← hc]
      have ed : (sortK L).drop i = k :: (sortK L).drop (i + 1) := by
        rw [List.drop_eq_getElem_cons hlt]
        congr 1
        exact (List.getElem?_eq_some_iff.mp hk).2
      rw [ed]
      conv => rhs; unfold repsS
      by_cases z : isRing L k ∧ k ∉ seen
      · rw [if_pos z, if_pos z, List.countP_cons]
        by_cases y : pureS L k
        · rw [if_pos ⟨z, y⟩]; simp only [y, decide_true, if_true]; omega
        · rw [if_neg fun v => y v.2]; simp only [y, decide_false, Bool.false_eq_true, if_false]; omega
      · rw [if_neg fun v => z v.1, if_neg z, if_neg z]; omega
  · obtain ⟨m, seen, x4, x5, rfl, alt, at_, below, hsl, hc⟩ := hi
    simp only [ev, wps_seq, wps_if, wps_ret, wps_nx, wps_fl, wps_expr, wps_set, wps_setT, wps_setI, wps_setF, wps_lks, wp_bool, wp_tru, wp_notM, wp_andM, wp_orM, wp_ifM, wp_op2, wp_op1, wp_arg, wp_cons, wp_nil, wp_lit, wp_mth, wp_meth, wp_mk, wp_pop, wp_get2, wp_lck, wp_v, wp_ok, wps_ok, List.map_cons, List.map_nil, List.length_cons, List.length_nil, Nat.zero_add, Nat.reduceAdd, Nat.reduceSub, List.replicate_zero, List.replicate_succ, List.cons_append, List.nil_append, List.append_nil, List.getElem?_cons_zero, List.getElem?_cons_succ, List.set_cons_zero, List.set_cons_succ, blF, mtF, opF, cmF, f_add, f_sub, f_mul, f_mod, f_fdiv, f_pow, f_lt, f_le, f_gt, f_ge, f_eqi, f_eqs, f_int, f_neg, upd_heap, upd_next, all_heap, all_next, Bool.false_eq_true, if_true, if_false, decide_eq_true_eq, Nat.sub_self]
    rw [gc_pure w below (belowL_of fun d hd => by rw [List.mem_singleton.mp hd]; trivial)]
    rw [List.length_map, List.drop_length] at hc
    have : m = ringsN L (sortK L) := hc
    rw [this]
    exact hQ
end
end Co
namespace Co
open PySem L2
/-! ### the law's moves -/
abbrev DrawF (F : Nat → List D → S → R D) (j : Nat) : Prop := ∀ {s : S} {a : Nat} (w : s.Wf) (hb : Box s a) (m : Int) (hm : 0 < m) {Q : D → S → Prop} {E : XP}
    (hQ : ∀ (v : Int) (t : S), 0 ≤ v → v < m → After s a t → Q (.int v) t), wp (F j [.ref a, .int m] s) Q E
theorem DrawF.get {F : Nat → List D → S → R D} {j : Nat} (h : DrawF F j) {s : S} {a : Nat} (w : s.Wf) (hb : Box s a) (m : Int) (hm : 0 < m) : ∃ (v : Int) (t : S), 0 ≤ v ∧ v < m ∧ After s a t ∧ F j [.ref a, .int m] s = .ok (.int v) t := by
  obtain ⟨d, t, e, v, h1, h2, h3, h4⟩ := wp_get (h w hb m hm (Q := fun d t => ∃ v, 0 ≤ v ∧ v < m ∧ After s a t ∧ d = .int v) (E := fun _ _ _ => False) fun v t h1 h2 h3 => ⟨v, h1, h2, h3, rfl⟩)
  exact ⟨v, t, h1, h2, h3, by rw [e, h4]⟩
end Co
namespace Co
open PySem L2
def mvLoopC (j : Nat) : C := (.seq
 (.set 4 (.call j (.cons (.var 0) (.cons (.blt .len false (.cons (.var 1) .nil)) .nil))))
 (.seq
 (.set 5 (.ix (.lst false (.cons (.str "r0") (.cons (.str "r1") (.cons (.str "r2") (.cons (.str "r3") (.cons (.str "s0") (.cons (.str "s1") (.cons (.str "s2") (.cons (.str "r7") (.cons (.str "s9") .nil)))))))))) (.call j (.cons (.var 0) (.cons (.int 9) .nil)))))
 (.seq
 (.ex (.mt .app (.var 2) (.cons (.tup (.cons (.pop (.var 1) (.var 4)) (.cons (.var 5) .nil))) .nil)))
 .skip)))
def mvC (j : Nat) : C := (.seq
 (.set 1 (.lst true (.cons (.str "r0") (.cons (.str "r1") (.cons (.str "r2") (.cons (.str "r3") (.cons (.str "s0") (.cons (.str "s1") (.cons (.str "s2") (.cons (.str "r7") .nil))))))))))
 (.seq
 (.set 2 (.lst true .nil))
 (.seq
 (.fors (.name 3) (.rng1 (.call j (.cons (.var 0) (.cons (.int 9) .nil)))) (mvLoopC j))
 (.seq
 (.ret (.blt .tup true (.cons (.var 2) .nil)))
 .skip))))
def namesP : List Str := ["r0", "r1", "r2", "r3", "s0", "s1", "s2", "r7"]
def namesS : List Str := ["r0", "r1", "r2", "r3", "s0", "s1", "s2", "r7", "s9"]
theorem erase_map (f : Str → D) : ∀ (l : List Str) (i : Nat), (l.map f).eraseIdx i = (l.eraseIdx i).map f
  | [], _ => rfl
  | _ :: _, 0 => rfl
  | x :: l, i + 1 => by
    rw [List.map_cons, List.eraseIdx_cons_succ, List.eraseIdx_cons_succ, List.map_cons, erase_map f l i]
/-- amid the drawing of moves -/
structure MvAt (s0 s : S) (a b c : Nat) (P : List Str) (M : Prs) : Prop where
  wf : s.Wf
  box : Box s a
  hb : s.heap b = some (.lst (P.map .str))
  hc : s.heap c = some (.lst (M.map mv))
  ne : a ≠ b ∧ a ≠ c ∧ b ≠ c
  lt : a < s0.next ∧ s0.next ≤ b ∧ s0.next ≤ c
  same : ∀ x, x < s0.next → x ≠ a → s.heap x = s0.heap x
theorem MvAt.after {s0 s t : S} {a b c : Nat} {P : List Str} {M : Prs} (h : MvAt s0 s a b c P M) (k : After s a t) : MvAt s0 t a b c P M := by
  obtain ⟨n1, n2, n3⟩ := h.ne
  exact ⟨k.wf, k.box, by rw [k.same b (Ne.symm n1)]; exact h.hb, by rw [k.same c (Ne.symm n2)]; exact h.hc, h.ne, h.lt, fun x hx hn => by rw [k.same x hn]; exact h.same x hx hn⟩
section
variable {F : Nat → List D → S → R D} {G : Nat → D} {s0 s : S} {a b c : Nat} {P : List Str} {M : Prs} {x3 x4 x5 : Option D}
theorem mv_turn {j : Nat} (hF : DrawF F j) (h : MvAt s0 s a b c P M) (hP : 0 < P.length) (hP2 : P.length ≤ 100) (hM : M.length ≤ 100) {Q : QS}
    (hQ : ∀ s' x4 x5 (i : Nat) (d : Str) (src : Str), P[i]? = some d → src ∈ namesS → MvAt s0 s' a b c (P.eraseIdx i) (M ++ [(d, src)]) → Q .nx [some (.ref a), some (.ref b), some (.ref c), x3, x4, x5] s') :
    wps ((ev F G (mvLoopC j)).s [some (.ref a), some (.ref b), some (.ref c), x3, x4, x5] s) Q := by
  simp only [mvLoopC, ev, wps_seq, wps_if, wps_ret, wps_nx, wps_fl, wps_expr, wps_set, wps_setT, wps_setI, wps_setF, wps_lks, wp_bool, wp_tru, wp_notM, wp_andM, wp_orM, wp_ifM, wp_op2, wp_op1, wp_arg, wp_cons, wp_nil, wp_lit, wp_mth, wp_meth, wp_mk, wp_pop, wp_get2, wp_lck, wp_v, wp_ok, wps_ok, List.map_cons, List.map_nil, List.length_cons, List.length_nil, Nat.zero_add, Nat.reduceAdd, Nat.reduceSub, List.replicate_zero, List.replicate_succ, List.cons_append, List.nil_append, List.append_nil, List.getElem?_cons_zero, List.getElem?_cons_succ, List.set_cons_zero, List.set_cons_succ, blF, mtF, opF, cmF, f_add, f_sub, f_mul, f_mod, f_fdiv, f_pow, f_lt, f_le, f_gt, f_ge, f_eqi, f_eqs, f_int, f_neg, upd_heap, upd_next, all_heap, all_next, Bool.false_eq_true, if_true, if_false, decide_eq_true_eq, Nat.sub_self]
  rw [len_ref h.hb]
  simp only [ev, wps_seq, wps_if, wps_ret, wps_nx, wps_fl, wps_expr, wps_set, wps_setT, wps_setI, wps_setF, wps_lks, wp_bool, wp_tru, wp_notM, wp_andM, wp_orM, wp_ifM, wp_op2, wp_op1, wp_arg, wp_cons, wp_nil, wp_lit, wp_mth, wp_meth, wp_mk, wp_pop, wp_get2, wp_lck, wp_v, wp_ok, wps_ok, List.map_cons, List.map_nil, List.length_cons, List.length_nil, Nat.zero_add, Nat.reduceAdd, Nat.reduceSub, List.replicate_zero, List.replicate_succ, List.cons_append, List.nil_append, List.append_nil, List.getElem?_cons_zero, List.getElem?_cons_succ, List.set_cons_zero, List.set_cons_succ, blF, mtF, opF, cmF, f_add, f_sub, f_mul, f_mod, f_fdiv, f_pow, f_lt, f_le, f_gt, f_ge, f_eqi, f_eqs, f_int, f_neg, upd_heap, upd_next, all_heap, all_next, Bool.false_eq_true, if_true, if_false, decide_eq_true_eq, Nat.sub_self, List.length_map]
  refine hF h.wf h.box _ (by omega) fun v t h0 h1 af => ?_
  have ht := h.after af
  have z9 : ([D.str "r0", .str "r1", .str "r2", .str "r3", .str "s0", .str "s1", .str "s2", .str "r7", .str "s9"] : List D).length ≤ 1000 := by decide
  rw [mkL_lv z9]
  simp only [ev, wps_seq, wps_if, wps_ret, wps_nx, wps_fl, wps_expr, wps_set, wps_setT, wps_setI, wps_setF, wps_lks, wp_bool, wp_tru, wp_notM, wp_andM, wp_orM, wp_ifM, wp_op2, wp_op1, wp_arg, wp_cons, wp_nil, wp_lit, wp_mth, wp_meth, wp_mk, wp_pop, wp_get2, wp_lck, wp_v, wp_ok, wps_ok, List.map_cons, List.map_nil, List.length_cons, List.length_nil, Nat.zero_add, Nat.reduceAdd, Nat.reduceSub, List.replicate_zero, List.replicate_succ, List.cons_append, List.nil_append, List.append_nil, List.getElem?_cons_zero, List.getElem?_cons_succ, List.set_cons_zero, List.set_cons_succ, blF, mtF, opF, cmF, f_add, f_sub, f_mul, f_mod, f_fdiv, f_pow, f_lt, f_le, f_gt, f_ge, f_eqi, f_eqs, f_int, f_neg, upd_heap, upd_next, all_heap, all_next, Bool.false_eq_true, if_true, if_false, decide_eq_true_eq, Nat.sub_self]
  refine hF ht.wf ht.box _ (by omega) fun u t2 g0 g1 af2 => ?_
  have ht2 := ht.after af2
  have e1 : ixF (.lv [.str "r0", .str "r1", .str "r2", .str "r3", .str "s0", .str "s1", .str "s2", .str "r7", .str "s9"]) (.int u) t2 = .ok (.str (namesS.getD u.toNat "r0")) t2 := by
    have : ([D.str "r0", .str "r1", .str "r2", .str "r3", .str "s0", .str "s1", .str "s2", .str "r7", .str "s9"] : List D)[u.toNat]? = some (.str (namesS.getD u.toNat "r0")) := by
      have q : ([D.str "r0", .str "r1", .str "r2", .str "r3", .str "s0", .str "s1", .str "s2", .str "r7", .str "s9"] : List D) = namesS.map .str := rfl
      rw [q, List.getElem?_map, List.getD, List.getElem?_eq_getElem (by show u.toNat < 9; omega)]
      rfl
    simp only [ixF, seqOf, lstOf, atI_nat g0, this]
  have e2 : isLst (.ref c) t2 = true := by simp [isLst, lstOf, ht2.hc]
  have e3 : isLst (.ref b) t2 = true := by simp [isLst, lstOf, ht2.hb]
  have hi : v.toNat < P.length := by omega
  have hd : P[v.toNat]? = some P[v.toNat] := List.getElem?_eq_getElem hi
  have e4 : pop1F (.ref b) [.int v] t2 = .ok (.str P[v.toNat]) (t2.upd b (.lst ((P.eraseIdx v.toNat).map .str))) := by
    have z : Ix63 v := ⟨by have : (-(2 : Int) ^ 63) ≤ 0 := by decide
                           omega, by have : (1000 : Int) < 2 ^ 63 := by decide
                                     omega⟩
    have q : seqIndex? v (P.map D.str).length = some v.toNat := by
      unfold seqIndex?
      rw [List.length_map]
      simp
      omega
    have y : (P.map D.str)[v.toNat]? = some (.str P[v.toNat]) := by rw [List.getElem?_map, hd]; rfl
    simp only [pop1F, hlOf, ht2.hb, z, if_true, q, y]
    rw [erase_map]
  simp only [e1, e2, e3, e4, ev, wps_seq, wps_if, wps_ret, wps_nx, wps_fl, wps_expr, wps_set, wps_setT, wps_setI, wps_setF, wps_lks, wp_bool, wp_tru, wp_notM, wp_andM, wp_orM, wp_ifM, wp_op2, wp_op1, wp_arg, wp_cons, wp_nil, wp_lit, wp_mth, wp_meth, wp_mk, wp_pop, wp_get2, wp_lck, wp_v, wp_ok, wps_ok, List.map_cons, List.map_nil, List.length_cons, List.length_nil, Nat.zero_add, Nat.reduceAdd, Nat.reduceSub, List.replicate_zero, List.replicate_succ, List.cons_append, List.nil_append, List.append_nil, List.getElem?_cons_zero, List.getElem?_cons_succ, List.set_cons_zero, List.set_cons_succ, blF, mtF, opF, cmF, f_add, f_sub, f_mul, f_mod, f_fdiv, f_pow, f_lt, f_le, f_gt, f_ge, f_eqi, f_eqs, f_int, f_neg, upd_heap, upd_next, all_heap, all_next, Bool.false_eq_true, if_true, if_false, decide_eq_true_eq, Nat.sub_self]
  obtain ⟨n1, n2, n3⟩ := ht2.ne
  obtain ⟨l1, l2, l3⟩ := ht2.lt
  generalize hs3 : t2.upd b (.lst ((P.eraseIdx v.toNat).map .str)) = t3
  have c3 : t3.heap c = some (.lst (M.map mv)) := by rw [← hs3, upd_heap, if_neg (Ne.symm n3)]; exact ht2.hc
  have e5 : appF (.ref c) [.tup [.str P[v.toNat], .str (namesS.getD u.toNat "r0")]] t3 = _ := LoAt.app (q := (P[v.toNat], namesS.getD u.toNat "r0")) c3 (by omega)
  simp only [mkT2, e5, ev, wps_seq, wps_if, wps_ret, wps_nx, wps_fl, wps_expr, wps_set, wps_setT, wps_setI, wps_setF, wps_lks, wp_bool, wp_tru, wp_notM, wp_andM, wp_orM, wp_ifM, wp_op2, wp_op1, wp_arg, wp_cons, wp_nil, wp_lit, wp_mth, wp_meth, wp_mk, wp_pop, wp_get2, wp_lck, wp_v, wp_ok, wps_ok, List.map_cons, List.map_nil, List.length_cons, List.length_nil, Nat.zero_add, Nat.reduceAdd, Nat.reduceSub, List.replicate_zero, List.replicate_succ, List.cons_append, List.nil_append, List.append_nil, List.getElem?_cons_zero, List.getElem?_cons_succ, List.set_cons_zero, List.set_cons_succ, blF, mtF, opF, cmF, f_add, f_sub, f_mul, f_mod, f_fdiv, f_pow, f_lt, f_le, f_gt, f_ge, f_eqi, f_eqs, f_int, f_neg, upd_heap, upd_next, all_heap, all_next, Bool.false_eq_true, if_true, if_false, decide_eq_true_eq, Nat.sub_self]
  refine hQ _ _ _ v.toNat P[v.toNat] (namesS.getD u.toNat "r0") hd ?_ ?_
  · rw [List.getD, List.getElem?_eq_getElem (by show u.toNat < 9; omega)]
    exact List.getElem_mem _
  · have w3 : t3.Wf := by rw [← hs3]; exact ht2.wf.upd (ht2.wf.lt ht2.hb) (below_strs _ _)
    have w4 := w3.upd (w3.lt c3) (below_mvs t3.next (M ++ [(P[v.toNat], namesS.getD u.toNat "r0")]))
    refine ⟨w4, ?_, ?_, by rw [upd_heap, if_pos rfl], ht2.ne, ht2.lt, fun x hx hn => ?_⟩
    · obtain ⟨ns, k, h1, h2⟩ := ht2.box
      exact ⟨ns, k, by rw [upd_heap, if_neg n2, ← hs3, upd_heap, if_neg n1]; exact h1, h2⟩
    · rw [upd_heap, if_neg n3, ← hs3, upd_heap, if_pos rfl]
    · rw [upd_heap, if_neg (by omega), ← hs3, upd_heap, if_neg (by omega)]
      exact ht2.same x hx hn
end
end Co
namespace Co
open PySem L2
/-- moves that a law may draw -/
structure MvOk (ms : Prs) : Prop where
  nd : (ms.map (·.1)).Nodup
  len : ms.length ≤ 8
  to_ : ∀ q ∈ ms, q.1 ∈ namesP ∨ q.1 = "s7"
  src : ∀ q ∈ ms, q.2 ∈ namesS
theorem pick_perm : ∀ {P : List Str} {i : Nat} {d : Str}, P[i]? = some d → P.Perm (d :: P.eraseIdx i)
  | x :: P, 0, d, h => by cases h; exact .refl _
  | x :: P, i + 1, d, h => by
    have h : P[i]? = some d := h
    exact ((pick_perm h).cons x).trans (.swap d x _)
theorem pick_nodup {P : List Str} {M : Prs} {i : Nat} {d src : Str} (h : (P ++ M.map (·.1)).Nodup) (hd : P[i]? = some d) : (P.eraseIdx i ++ (M ++ [(d, src)]).map (·.1)).Nodup := by
  have hi : i < P.length := (List.getElem?_eq_some_iff.mp hd).1
  have pm : P.Perm (d :: P.eraseIdx i) := by
    exact pick_perm hd
  have p2 : (P ++ M.map (·.1)).Perm (P.eraseIdx i ++ (M ++ [(d, src)]).map (·.1)) := by
    refine (pm.append_right _).trans ?_
    rw [List.map_append, List.map_cons, List.map_nil, ← List.append_assoc]
    exact (List.perm_append_singleton d _).symm
  exact p2.nodup h
section
variable {F : Nat → List D → S → R D} {G : Nat → D} {s : S} {a : Nat}
theorem mv_gen {j : Nat} (hF : DrawF F j) (w : s.Wf) (hb : Box s a) (ha : a < s.next) {Q : D → S → Prop} {E : XP} (hQ : ∀ ms t, MvOk ms → After s a t → Q (.ct (ms.map mv)) t) : wp (callB 1 6 (ev F G (mvC j)).s [.ref a] s) Q E := by
  generalize hlp : (ev F G (mvLoopC j)).s = lp
  refine wp_callB rfl ?_
  unfold mvC
  simp only [ev, wps_seq, wps_if, wps_ret, wps_nx, wps_fl, wps_expr, wps_set, wps_setT, wps_setI, wps_setF, wps_lks, wp_bool, wp_tru, wp_notM, wp_andM, wp_orM, wp_ifM, wp_op2, wp_op1, wp_arg, wp_cons, wp_nil, wp_lit, wp_mth, wp_meth, wp_mk, wp_pop, wp_get2, wp_lck, wp_v, wp_ok, wps_ok, List.map_cons, List.map_nil, List.length_cons, List.length_nil, Nat.zero_add, Nat.reduceAdd, Nat.reduceSub, List.replicate_zero, List.replicate_succ, List.cons_append, List.nil_append, List.append_nil, List.getElem?_cons_zero, List.getElem?_cons_succ, List.set_cons_zero, List.set_cons_succ, blF, mtF, opF, cmF, f_add, f_sub, f_mul, f_mod, f_fdiv, f_pow, f_lt, f_le, f_gt, f_ge, f_eqi, f_eqs, f_int, f_neg, upd_heap, upd_next, all_heap, all_next, Bool.false_eq_true, if_true, if_false, decide_eq_true_eq, Nat.sub_self, hlp]
  rw [mkL_ref (by decide)]
  simp only [ev, wps_seq, wps_if, wps_ret, wps_nx, wps_fl, wps_expr, wps_set, wps_setT, wps_setI, wps_setF, wps_lks, wp_bool, wp_tru, wp_notM, wp_andM, wp_orM, wp_ifM, wp_op2, wp_op1, wp_arg, wp_cons, wp_nil, wp_lit, wp_mth, wp_meth, wp_mk, wp_pop, wp_get2, wp_lck, wp_v, wp_ok, wps_ok, List.map_cons, List.map_nil, List.length_cons, List.length_nil, Nat.zero_add, Nat.reduceAdd, Nat.reduceSub, List.replicate_zero, List.replicate_succ, List.cons_append, List.nil_append, List.append_nil, List.getElem?_cons_zero, List.getElem?_cons_succ, List.set_cons_zero, List.set_cons_succ, blF, mtF, opF, cmF, f_add, f_sub, f_mul, f_mod, f_fdiv, f_pow, f_lt, f_le, f_gt, f_ge, f_eqi, f_eqs, f_int, f_neg, upd_heap, upd_next, all_heap, all_next, Bool.false_eq_true, if_true, if_false, decide_eq_true_eq, Nat.sub_self]
  rw [mkL_ref (by decide)]
  simp only [ev, wps_seq, wps_if, wps_ret, wps_nx, wps_fl, wps_expr, wps_set, wps_setT, wps_setI, wps_setF, wps_lks, wp_bool, wp_tru, wp_notM, wp_andM, wp_orM, wp_ifM, wp_op2, wp_op1, wp_arg, wp_cons, wp_nil, wp_lit, wp_mth, wp_meth, wp_mk, wp_pop, wp_get2, wp_lck, wp_v, wp_ok, wps_ok, List.map_cons, List.map_nil, List.length_cons, List.length_nil, Nat.zero_add, Nat.reduceAdd, Nat.reduceSub, List.replicate_zero, List.replicate_succ, List.cons_append, List.nil_append, List.append_nil, List.getElem?_cons_zero, List.getElem?_cons_succ, List.set_cons_zero, List.set_cons_succ, blF, mtF, opF, cmF, f_add, f_sub, f_mul, f_mod, f_fdiv, f_pow, f_lt, f_le, f_gt, f_ge, f_eqi, f_eqs, f_int, f_neg, upd_heap, upd_next, all_heap, all_next, Bool.false_eq_true, if_true, if_false, decide_eq_true_eq, Nat.sub_self]
  generalize hs1 : (s.alloc (.lst [.str "r0", .str "r1", .str "r2", .str "r3", .str "s0", .str "s1", .str "s2", .str "r7"])).alloc (.lst []) = s1
  have n1 : s1.next = s.next + 2 := by rw [← hs1]; rfl
  have at1 : MvAt s s1 a s.next (s.next + 1) namesP [] := by
    have wA : (s.alloc (.lst (namesP.map .str))).Wf := w.alloc (below_strs _ _)
    have wB : ((s.alloc (.lst (namesP.map .str))).alloc (.lst [])).Wf := wA.alloc trivial
    have e1 : s1 = (s.alloc (.lst (namesP.map .str))).alloc (.lst []) := by rw [← hs1]; rfl
    rw [e1]
    refine ⟨wB, ?_, ?_, ?_, ⟨by omega, by omega, by omega⟩, ⟨ha, Nat.le_refl _, by omega⟩, fun x hx hn => ?_⟩
    · obtain ⟨ns, k, h1, h2⟩ := hb
      exact ⟨ns, k, by rw [all_heap, all_next, if_neg (by omega), all_heap, if_neg (by omega)]; exact h1, h2⟩
    · rw [all_heap, all_next, if_neg (by omega), all_heap, if_pos rfl]
    · rw [all_heap, all_next, if_pos rfl]; rfl
    · rw [all_heap, all_next, if_neg (by omega), all_heap, if_neg (by omega)]
  obtain ⟨v, t1, v0, v9, af, ev1⟩ := hF.get at1.wf at1.box 9 (by omega)
  have at2 := at1.after af
  have hi : rng1M (argM (F j) (consM (varM 0) (consM (litM (.int 9)) nilM))) [some (.ref a), some (.ref s.next), some (.ref (s.next + 1)), none, none, none] s1 = .ok (rngD 0 v.toNat, none) t1 := by
    have r := f_rng1 (i := v) (s := t1) ⟨by have : (-(2 : Int) ^ 62) ≤ 0 := by decide
                                            omega, by have : (1000 : Int) < 2 ^ 62 := by decide
                                                      omega⟩
    simp only [rng1M, argM, consM, nilM, varM, litM, List.getElem?_cons_zero, bd_ok, ev1, r]
  refine wps_for (fun i env t => ∃ (P : List Str) (M : Prs) (x3 x4 x5 : Option D), env = [some (.ref a), some (.ref s.next), some (.ref (s.next + 1)), x3, x4, x5] ∧ MvAt s t a s.next (s.next + 1) P M ∧ P.length + i = 8 ∧ M.length = i ∧ (P ++ M.map (·.1)).Nodup ∧ (∀ p ∈ P, p ∈ namesP) ∧ (∀ q ∈ M, q.1 ∈ namesP ∧ q.2 ∈ namesS)) hi
    ⟨namesP, [], none, none, none, rfl, at2, rfl, rfl, by decide, fun _ h => h, fun q h => by cases h⟩ (fun _ _ _ _ _ => trivial) (fun i d env t hd hi => ?_) fun env t hi => ?_
  · obtain ⟨P, M, x3, x4, x5, rfl, at3, hl, hm, hn, hp, hq⟩ := hi
    obtain ⟨hk, rfl⟩ := rngD_is hd
    refine ⟨_, rfl, ?_⟩
    subst hlp
    refine mv_turn hF at3 (by omega) (by omega) (by omega) fun s' x4 x5 i' d' src h1 h2 h3 => ?_
    have hi' : i' < P.length := (List.getElem?_eq_some_iff.mp h1).1
    refine ⟨_, _, _, _, _, rfl, h3, ?_, ?_, pick_nodup hn h1, fun p h => hp p (List.mem_of_mem_eraseIdx h), fun q h => ?_⟩
    · rw [List.length_eraseIdx, if_pos hi']; omega
    · rw [List.length_append, hm]; rfl
    · rcases List.mem_append.mp h with z | z
      · exact hq q z
      · rw [List.mem_singleton.mp z]
        exact ⟨hp _ (List.mem_of_getElem? h1), h2⟩
  · obtain ⟨P, M, x3, x4, x5, rfl, at3, hl, hm, hn, hp, hq⟩ := hi
    simp only [ev, wps_seq, wps_if, wps_ret, wps_nx, wps_fl, wps_expr, wps_set, wps_setT, wps_setI, wps_setF, wps_lks, wp_bool, wp_tru, wp_notM, wp_andM, wp_orM, wp_ifM, wp_op2, wp_op1, wp_arg, wp_cons, wp_nil, wp_lit, wp_mth, wp_meth, wp_mk, wp_pop, wp_get2, wp_lck, wp_v, wp_ok, wps_ok, List.map_cons, List.map_nil, List.length_cons, List.length_nil, Nat.zero_add, Nat.reduceAdd, Nat.reduceSub, List.replicate_zero, List.replicate_succ, List.cons_append, List.nil_append, List.append_nil, List.getElem?_cons_zero, List.getElem?_cons_succ, List.set_cons_zero, List.set_cons_succ, blF, mtF, opF, cmF, f_add, f_sub, f_mul, f_mod, f_fdiv, f_pow, f_lt, f_le, f_gt, f_ge, f_eqi, f_eqs, f_int, f_neg, upd_heap, upd_next, all_heap, all_next, Bool.false_eq_true, if_true, if_false, decide_eq_true_eq, Nat.sub_self]
    have e3 : tupB true [.ref (s.next + 1)] t = .ok (.ct (M.map mv)) t := by
      have hlen : (M.map mv).length ≤ LINE := by rw [line_is, List.length_map]; omega
      simp [tupB, lstOf, at3.hc, mkC]
      simpa using hlen
    simp only [e3, ev, wps_seq, wps_if, wps_ret, wps_nx, wps_fl, wps_expr, wps_set, wps_setT, wps_setI, wps_setF, wps_lks, wp_bool, wp_tru, wp_notM, wp_andM, wp_orM, wp_ifM, wp_op2, wp_op1, wp_arg, wp_cons, wp_nil, wp_lit, wp_mth, wp_meth, wp_mk, wp_pop, wp_get2, wp_lck, wp_v, wp_ok, wps_ok, List.map_cons, List.map_nil, List.length_cons, List.length_nil, Nat.zero_add, Nat.reduceAdd, Nat.reduceSub, List.replicate_zero, List.replicate_succ, List.cons_append, List.nil_append, List.append_nil, List.getElem?_cons_zero, List.getElem?_cons_succ, List.set_cons_zero, List.set_cons_succ, blF, mtF, opF, cmF, f_add, f_sub, f_mul, f_mod, f_fdiv, f_pow, f_lt, f_le, f_gt, f_ge, f_eqi, f_eqs, f_int, f_neg, upd_heap, upd_next, all_heap, all_next, Bool.false_eq_true, if_true, if_false, decide_eq_true_eq, Nat.sub_self]
    refine hQ M _ ⟨(List.nodup_append.mp hn).2.1, by omega, fun q h => .inl (hq q h).1, fun q h => (hq q h).2⟩ (gc_after w at3.box ha (fun x hx hn => at3.same x hx hn) ?_)
    exact below_mvs _ _
end
end Co
namespace Co
open PySem L2
def rgTailC (j : Nat) : C := (.seq
 (.ifs (.tand (.tcmp .lt (.var 2) (.int 5)) (.tand1 (.tcmp .eq (.call j (.cons (.var 0) (.cons (.int 2) .nil))) (.int 0)))) (.seq
 (.set 3 (.bin .add true (.var 3) (.lst false (.cons (.tup (.cons (.str "s0") (.cons (.str "s1") .nil))) (.cons (.tup (.cons (.str "s1") (.cons (.str "s0") .nil))) .nil)))))
 .skip) .skip)
 (.seq
 (.ret (.blt .tup true (.cons (.rev false (.var 3)) .nil)))
 .skip))
def rgC (j : Nat) : C := (.seq
 (.set 1 (.lst false (.cons (.str "r0") (.cons (.str "r1") (.cons (.str "r2") (.cons (.str "r3") (.cons (.str "s0") (.cons (.str "s1") .nil))))))))
 (.seq
 (.set 2 (.bin .add false (.int 2) (.call j (.cons (.var 0) (.cons (.int 4) .nil)))))
 (.seq
 (.setC 3 true (.name 4) [4] (.rng1 (.var 2)) .yes (.tup (.cons (.ix (.var 1) (.var 4)) (.cons (.ix (.var 1) (.bin .mod false (.bin .add false (.var 4) (.int 1)) (.var 2))) .nil))))
 (.seq
 (.ifs (.tcmp .eq (.call j (.cons (.var 0) (.cons (.int 2) .nil))) (.int 0)) (.seq
 (.ex (.mt .app (.var 3) (.cons (.tup (.cons (.str "s7") (.cons (.ix (.var 1) (.call j (.cons (.var 0) (.cons (.var 2) .nil)))) .nil))) .nil)))
 .skip) .skip)
 (rgTailC j)))))
def namesR : List Str := ["r0", "r1", "r2", "r3", "s0", "s1"]
def ringM (n : Nat) : Prs := (List.range n).map fun k => (namesR.getD k "r0", namesR.getD ((k + 1) % n) "r0")
abbrev sevP (x : Str) : Prs := [("s7", x)]
abbrev swpP : Prs := [("s0", "s1"), ("s1", "s0")]
/-- what the ring's draw may give, ere it is turned round -/
inductive RgM (n : Nat) : Prs → Prop
  | base : RgM n (ringM n)
  | tail {x : Str} : x ∈ namesR → RgM n (ringM n ++ sevP x)
theorem rgM_ok {n : Nat} {M : Prs} (h2 : 2 ≤ n) (h5 : n ≤ 5) (h : RgM n M) : MvOk M.reverse ∧ (n < 5 → MvOk (M ++ swpP).reverse) := by
  have key : ∀ (M : Prs), (M.map (·.1)).Nodup → M.length ≤ 8 → (∀ q ∈ M, q.1 ∈ namesP ∨ q.1 = "s7") → (∀ q ∈ M, q.2 ∈ namesS) → MvOk M.reverse := by
    intro M h1 h2 h3 h4
    refine ⟨?_, by rw [List.length_reverse]; exact h2, fun q hq => h3 q (List.mem_reverse.mp hq), fun q hq => h4 q (List.mem_reverse.mp hq)⟩
    rw [List.map_reverse]
    exact (List.reverse_perm _).symm.nodup h1
  have hx : ∀ x ∈ namesR, x ∈ namesS := by decide
  have cs : n = 2 ∨ n = 3 ∨ n = 4 ∨ n = 5 := by omega
  cases h with
  | base =>
    rcases cs with rfl | rfl | rfl | rfl
    · exact ⟨key _ (by decide) (by decide) (by decide) (by decide), fun _ => key _ (by decide) (by decide) (by decide) (by decide)⟩
    · exact ⟨key _ (by decide) (by decide) (by decide) (by decide), fun _ => key _ (by decide) (by decide) (by decide) (by decide)⟩
    · exact ⟨key _ (by decide) (by decide) (by decide) (by decide), fun _ => key _ (by decide) (by decide) (by decide) (by decide)⟩
    · exact ⟨key _ (by decide) (by decide) (by decide) (by decide), fun z => absurd z (by decide)⟩
  | @tail x hxr =>
    have hs := hx x hxr
    have app1 : ∀ (A B : Prs), (∀ q ∈ A, q.1 ∈ namesP ∨ q.1 = "s7") → (∀ q ∈ B, q.1 ∈ namesP ∨ q.1 = "s7") → ∀ q ∈ A ++ B, q.1 ∈ namesP ∨ q.1 = "s7" := fun A B h1 h2 q hq => (List.mem_append.mp hq).elim (h1 q) (h2 q)
    have app2 : ∀ (A B : Prs), (∀ q ∈ A, q.2 ∈ namesS) → (∀ q ∈ B, q.2 ∈ namesS) → ∀ q ∈ A ++ B, q.2 ∈ namesS := fun A B h1 h2 q hq => (List.mem_append.mp hq).elim (h1 q) (h2 q)
    have one1 : ∀ q : Str × Str, q ∈ sevP x → q.1 ∈ namesP ∨ q.1 = "s7" := fun q hq => by rw [List.mem_singleton.mp hq]; exact .inr rfl
    have one2 : ∀ q : Str × Str, q ∈ sevP x → q.2 ∈ namesS := fun q hq => by rw [List.mem_singleton.mp hq]; exact hs
    have two1 : ∀ q ∈ swpP, q.1 ∈ namesP ∨ q.1 = "s7" := by decide
    have two2 : ∀ q ∈ swpP, q.2 ∈ namesS := by decide
    have nd1 : ∀ A : Prs, ((List.map Prod.fst A : List Str) ++ (["s7"] : List Str)).Nodup → ((A ++ sevP x).map (·.1)).Nodup := fun A h => by rw [List.map_append]; exact h
    have nd2 : ∀ A : Prs, ((List.map Prod.fst A : List Str) ++ (["s7"] : List Str) ++ (["s0", "s1"] : List Str)).Nodup → ((A ++ sevP x ++ swpP).map (·.1)).Nodup := fun A h => by rw [List.map_append, List.map_append]; exact h
    have ln1 : ∀ A : Prs, A.length ≤ 5 → (A ++ sevP x).length ≤ 8 := fun A h => by rw [List.length_append, List.length_singleton]; omega
    have ln2 : ∀ A : Prs, A.length ≤ 5 → (A ++ sevP x ++ swpP).length ≤ 8 := fun A h => by
      rw [List.length_append, List.length_append]; show A.length + 1 + 2 ≤ 8; omega
    have a : ∀ A : Prs, (∀ q ∈ A, q.1 ∈ namesP ∨ q.1 = "s7") → (∀ q ∈ A, q.2 ∈ namesS) → A.length ≤ 5 → ((List.map Prod.fst A : List Str) ++ (["s7"] : List Str)).Nodup → MvOk (A ++ sevP x).reverse := fun A h1 h2 h3 h4 => key _ (nd1 A h4) (ln1 A h3) (app1 _ _ h1 one1) (app2 _ _ h2 one2)
    have b : ∀ A : Prs, (∀ q ∈ A, q.1 ∈ namesP ∨ q.1 = "s7") → (∀ q ∈ A, q.2 ∈ namesS) → A.length ≤ 5 → ((List.map Prod.fst A : List Str) ++ (["s7"] : List Str) ++ (["s0", "s1"] : List Str)).Nodup → MvOk (A ++ sevP x ++ swpP).reverse := fun A h1 h2 h3 h4 => key _ (nd2 A h4) (ln2 A h3) (app1 _ _ (app1 _ _ h1 one1) two1) (app2 _ _ (app2 _ _ h2 one2) two2)
    rcases cs with rfl | rfl | rfl | rfl
    · exact ⟨a _ (by decide) (by decide) (by decide) (by decide), fun _ => b _ (by decide) (by decide) (by decide) (by decide)⟩
    · exact ⟨a _ (by decide) (by decide) (by decide) (by decide), fun _ => b _ (by decide) (by decide) (by decide) (by decide)⟩
    · exact ⟨a _ (by decide) (by decide) (by decide) (by decide), fun _ => b _ (by decide) (by decide) (by decide) (by decide)⟩
    · exact ⟨a _ (by decide) (by decide) (by decide) (by decide), fun z => absurd z (by decide)⟩
end Co
namespace Co
open PySem L2
/-- amid the drawing of a ring -/
structure RgAt (s0 s : S) (a c : Nat) (M : Prs) : Prop where
  wf : s.Wf
  box : Box s a
  hc : s.heap c = some (.lst (M.map mv))
  ne : a ≠ c
  lt : a < s0.next ∧ s0.next ≤ c
  same : ∀ x, x < s0.next → x ≠ a → s.heap x = s0.heap x
theorem RgAt.after {s0 s t : S} {a c : Nat} {M : Prs} (h : RgAt s0 s a c M) (k : After s a t) : RgAt s0 t a c M :=
  ⟨k.wf, k.box, by rw [k.same c (Ne.symm h.ne)]; exact h.hc, h.ne, h.lt, fun x hx hn => by rw [k.same x hn]; exact h.same x hx hn⟩
theorem RgAt.app {s0 s : S} {a c : Nat} {M : Prs} (h : RgAt s0 s a c M) (N : Prs) : RgAt s0 (s.upd c (.lst ((M ++ N).map mv))) a c (M ++ N) := by
  obtain ⟨l1, l2⟩ := h.lt
  refine ⟨h.wf.upd (h.wf.lt h.hc) (below_mvs s.next (M ++ N)), ?_, by rw [upd_heap, if_pos rfl], h.ne, h.lt, fun x hx hn => ?_⟩
  · obtain ⟨ns, k, h1, h2⟩ := h.box
    exact ⟨ns, k, by rw [upd_heap, if_neg h.ne]; exact h1, h2⟩
  · rw [upd_heap, if_neg (by omega)]
    exact h.same x hx hn
theorem RgAt.new {s0 s : S} {a c : Nat} {M : Prs} (h : RgAt s0 s a c M) (N : Prs) : RgAt s0 (s.alloc (.lst (N.map mv))) a s.next N := by
  obtain ⟨l1, l2⟩ := h.lt
  have hc := h.wf.lt h.hc
  have hal : a < s.next := by obtain ⟨ns, k, h1, h2⟩ := h.box; exact h.wf.lt h1
  refine ⟨h.wf.alloc (below_mvs (s.next + 1) N), ?_, by rw [all_heap, if_pos rfl], by omega, ⟨l1, by omega⟩, fun x hx hn => ?_⟩
  · obtain ⟨ns, k, h1, h2⟩ := h.box
    exact ⟨ns, k, by rw [all_heap, if_neg (by omega)]; exact h1, h2⟩
  · rw [all_heap, if_neg (by omega)]
    exact h.same x hx hn
theorem ix_nm {t : S} {k : Nat} (h : k < 6) : ixF (.lv [.str "r0", .str "r1", .str "r2", .str "r3", .str "s0", .str "s1"]) (.int (k : Int)) t = .ok (.str (namesR.getD k "r0")) t := by
  have : ([D.str "r0", .str "r1", .str "r2", .str "r3", .str "s0", .str "s1"] : List D)[k]? = some (.str (namesR.getD k "r0")) := by
    have q : ([D.str "r0", .str "r1", .str "r2", .str "r3", .str "s0", .str "s1"] : List D) = namesR.map .str := rfl
    rw [q, List.getElem?_map, List.getD, List.getElem?_eq_getElem (by show k < 6; omega)]
    rfl
  simp only [ixF, seqOf, lstOf, atI_nat (Int.natCast_nonneg k), Int.toNat_natCast, this]
def fRg (n : Nat) (d : D) : Option D := match d with
  | .int i => some (mv (namesR.getD i.toNat "r0", namesR.getD ((i.toNat + 1) % n) "r0"))
  | _ => none
theorem fRg_all (n : Nat) : (rngD 0 n).filterMap (fRg n) = (ringM n).map mv := by
  unfold rngD ringM
  rw [List.filterMap_map, List.map_map]
  rw [← List.filterMap_eq_map]
  congr 1
  funext k
  simp [fRg]
section
variable {F : Nat → List D → S → R D} {G : Nat → D} {s : S} {a : Nat}
theorem rg_tail {j : Nat} (hF : DrawF F j) (w : s.Wf) (ha : a < s.next) {n c : Nat} {M : Prs} {s1 : S} {x1 x4 : Option D} (n2 : 2 ≤ n) (n5 : n ≤ 5) (hM : RgM n M) (at1 : RgAt s s1 a c M) {Q : D → S → Prop} {E : XP} (hQ : ∀ ms t, MvOk ms → After s a t → Q (.ct (ms.map mv)) t) : wps ((ev F G (rgTailC j)).s [some (.ref a), x1, some (.int n), some (.ref c), x4] s1) (fun f _ s' => match f with
    | .nx => Q .non (gcS s.next [.non] s')
    | .rt d => Q d (gcS s.next [d] s')
    | .ex c fs => E c fs (gcS s.next (fs.map (·.2)) s')
    | _ => False) := by
  have ok := rgM_ok n2 n5 hM
  have fin : ∀ (c : Nat) (M : Prs) (t : S), RgAt s t a c M → MvOk M.reverse → wp (revF false (.ref c) t) (fun d s1 => wp (tupB true [d] s1) (fun d s2 => Q d (gcS s.next [d] s2)) (fun c fs s' => E c fs (gcS s.next (fs.map (·.2)) s'))) (fun c fs s' => E c fs (gcS s.next (fs.map (·.2)) s')) := by
    intro c M t h k
    have l1 : (M.map mv).length ≤ LINE := by have := k.len; rw [List.length_reverse] at this; rw [line_is, List.length_map]; omega
    have l2 : (M.map mv).reverse.length ≤ LINE := by rw [List.length_reverse]; exact l1
    have e1 : revF false (.ref c) t = .ok (.lv (M.map mv).reverse) t := by
      simp only [revF, lstOf, h.hc, l1, if_true, mkL, l2, Bool.false_eq_true, if_false]
    have e2 : tupB true [.lv (M.map mv).reverse] t = .ok (.ct (M.map mv).reverse) t := by
      simp only [tupB, lstOf, mkC, l2, if_true]
    rw [e1, wp_ok, e2, wp_ok, ← List.map_reverse]
    exact hQ _ _ k (gc_after w h.box ha h.same (below_mvs _ _))
  unfold rgTailC
  simp only [ev, wps_seq, wps_if, wps_ret, wps_nx, wps_fl, wps_expr, wps_set, wps_setT, wps_setI, wps_setF, wps_lks, wp_bool, wp_tru, wp_notM, wp_andM, wp_orM, wp_ifM, wp_op2, wp_op1, wp_arg, wp_cons, wp_nil, wp_lit, wp_mth, wp_meth, wp_mk, wp_pop, wp_get2, wp_lck, wp_v, wp_ok, wps_ok, List.map_cons, List.map_nil, List.length_cons, List.length_nil, Nat.zero_add, Nat.reduceAdd, Nat.reduceSub, List.replicate_zero, List.replicate_succ, List.cons_append, List.nil_append, List.append_nil, List.getElem?_cons_zero, List.getElem?_cons_succ, List.set_cons_zero, List.set_cons_succ, blF, mtF, opF, cmF, f_add, f_sub, f_mul, f_mod, f_fdiv, f_pow, f_lt, f_le, f_gt, f_ge, f_eqi, f_eqs, f_int, f_neg, upd_heap, upd_next, all_heap, all_next, Bool.false_eq_true, if_true, if_false, decide_eq_true_eq, Nat.sub_self]
  by_cases h5 : (n : Int) < 5
  · simp only [h5, ev, wps_seq, wps_if, wps_ret, wps_nx, wps_fl, wps_expr, wps_set, wps_setT, wps_setI, wps_setF, wps_lks, wp_bool, wp_tru, wp_notM, wp_andM, wp_orM, wp_ifM, wp_op2, wp_op1, wp_arg, wp_cons, wp_nil, wp_lit, wp_mth, wp_meth, wp_mk, wp_pop, wp_get2, wp_lck, wp_v, wp_ok, wps_ok, List.map_cons, List.map_nil, List.length_cons, List.length_nil, Nat.zero_add, Nat.reduceAdd, Nat.reduceSub, List.replicate_zero, List.replicate_succ, List.cons_append, List.nil_append, List.append_nil, List.getElem?_cons_zero, List.getElem?_cons_succ, List.set_cons_zero, List.set_cons_succ, blF, mtF, opF, cmF, f_add, f_sub, f_mul, f_mod, f_fdiv, f_pow, f_lt, f_le, f_gt, f_ge, f_eqi, f_eqs, f_int, f_neg, upd_heap, upd_next, all_heap, all_next, Bool.false_eq_true, if_true, if_false, decide_eq_true_eq, Nat.sub_self]
    refine hF at1.wf at1.box 2 (by omega) fun v t h0 h1 af => ?_
    have at2 := at1.after af
    by_cases hv : v = 0
    · have ml : M.length ≤ 20 := by have := ok.1.len; rw [List.length_reverse] at this; omega
      have e3 : addF true (.ref c) (.lv [.tup [.str "s0", .str "s1"], .tup [.str "s1", .str "s0"]]) t = .ok (.ref t.next) (t.alloc (.lst ((M ++ swpP).map mv))) := by
        have z : M.length + 1 + 1 ≤ 1000 := by omega
        have := mkL_ref (s := t) (ds := (M ++ swpP).map mv) (by rw [List.length_map, List.length_append]; exact z)
        simp only [addF, trkOf, at2.hc]
        rw [← this, List.map_append]
        rfl
      simp only [hv, ev, wps_seq, wps_if, wps_ret, wps_nx, wps_fl, wps_expr, wps_set, wps_setT, wps_setI, wps_setF, wps_lks, wp_bool, wp_tru, wp_notM, wp_andM, wp_orM, wp_ifM, wp_op2, wp_op1, wp_arg, wp_cons, wp_nil, wp_lit, wp_mth, wp_meth, wp_mk, wp_pop, wp_get2, wp_lck, wp_v, wp_ok, wps_ok, List.map_cons, List.map_nil, List.length_cons, List.length_nil, Nat.zero_add, Nat.reduceAdd, Nat.reduceSub, List.replicate_zero, List.replicate_succ, List.cons_append, List.nil_append, List.append_nil, List.getElem?_cons_zero, List.getElem?_cons_succ, List.set_cons_zero, List.set_cons_succ, blF, mtF, opF, cmF, f_add, f_sub, f_mul, f_mod, f_fdiv, f_pow, f_lt, f_le, f_gt, f_ge, f_eqi, f_eqs, f_int, f_neg, upd_heap, upd_next, all_heap, all_next, Bool.false_eq_true, if_true, if_false, decide_eq_true_eq, Nat.sub_self, decide_true, mkT2, mkL_lv (s := t) (ds := [.tup [.str "s0", .str "s1"], .tup [.str "s1", .str "s0"]]) (by decide), e3]
      exact fin _ _ _ (at2.new (M ++ swpP)) (ok.2 (by omega))
    · simp only [hv, ev, wps_seq, wps_if, wps_ret, wps_nx, wps_fl, wps_expr, wps_set, wps_setT, wps_setI, wps_setF, wps_lks, wp_bool, wp_tru, wp_notM, wp_andM, wp_orM, wp_ifM, wp_op2, wp_op1, wp_arg, wp_cons, wp_nil, wp_lit, wp_mth, wp_meth, wp_mk, wp_pop, wp_get2, wp_lck, wp_v, wp_ok, wps_ok, List.map_cons, List.map_nil, List.length_cons, List.length_nil, Nat.zero_add, Nat.reduceAdd, Nat.reduceSub, List.replicate_zero, List.replicate_succ, List.cons_append, List.nil_append, List.append_nil, List.getElem?_cons_zero, List.getElem?_cons_succ, List.set_cons_zero, List.set_cons_succ, blF, mtF, opF, cmF, f_add, f_sub, f_mul, f_mod, f_fdiv, f_pow, f_lt, f_le, f_gt, f_ge, f_eqi, f_eqs, f_int, f_neg, upd_heap, upd_next, all_heap, all_next, Bool.false_eq_true, if_true, if_false, decide_eq_true_eq, Nat.sub_self, decide_false]
      exact fin _ _ _ at2 ok.1
  · simp only [h5, ev, wps_seq, wps_if, wps_ret, wps_nx, wps_fl, wps_expr, wps_set, wps_setT, wps_setI, wps_setF, wps_lks, wp_bool, wp_tru, wp_notM, wp_andM, wp_orM, wp_ifM, wp_op2, wp_op1, wp_arg, wp_cons, wp_nil, wp_lit, wp_mth, wp_meth, wp_mk, wp_pop, wp_get2, wp_lck, wp_v, wp_ok, wps_ok, List.map_cons, List.map_nil, List.length_cons, List.length_nil, Nat.zero_add, Nat.reduceAdd, Nat.reduceSub, List.replicate_zero, List.replicate_succ, List.cons_append, List.nil_append, List.append_nil, List.getElem?_cons_zero, List.getElem?_cons_succ, List.set_cons_zero, List.set_cons_succ, blF, mtF, opF, cmF, f_add, f_sub, f_mul, f_mod, f_fdiv, f_pow, f_lt, f_le, f_gt, f_ge, f_eqi, f_eqs, f_int, f_neg, upd_heap, upd_next, all_heap, all_next, Bool.false_eq_true, if_true, if_false, decide_eq_true_eq, Nat.sub_self]
    exact fin _ _ _ at1 ok.1
theorem ring_gen {j : Nat} (hF : DrawF F j) (w : s.Wf) (hb : Box s a) (ha : a < s.next) {Q : D → S → Prop} {E : XP} (hQ : ∀ ms t, MvOk ms → After s a t → Q (.ct (ms.map mv)) t) : wp (callB 1 5 (ev F G (rgC j)).s [.ref a] s) Q E := by
  refine wp_callB rfl ?_
  unfold rgC
  simp only [ev, wps_seq, wps_if, wps_ret, wps_nx, wps_fl, wps_expr, wps_set, wps_setT, wps_setI, wps_setF, wps_lks, wp_bool, wp_tru, wp_notM, wp_andM, wp_orM, wp_ifM, wp_op2, wp_op1, wp_arg, wp_cons, wp_nil, wp_lit, wp_mth, wp_meth, wp_mk, wp_pop, wp_get2, wp_lck, wp_v, wp_ok, wps_ok, List.map_cons, List.map_nil, List.length_cons, List.length_nil, Nat.zero_add, Nat.reduceAdd, Nat.reduceSub, List.replicate_zero, List.replicate_succ, List.cons_append, List.nil_append, List.append_nil, List.getElem?_cons_zero, List.getElem?_cons_succ, List.set_cons_zero, List.set_cons_succ, blF, mtF, opF, cmF, f_add, f_sub, f_mul, f_mod, f_fdiv, f_pow, f_lt, f_le, f_gt, f_ge, f_eqi, f_eqs, f_int, f_neg, upd_heap, upd_next, all_heap, all_next, Bool.false_eq_true, if_true, if_false, decide_eq_true_eq, Nat.sub_self]
  rw [mkL_lv (by decide)]
  simp only [ev, wps_seq, wps_if, wps_ret, wps_nx, wps_fl, wps_expr, wps_set, wps_setT, wps_setI, wps_setF, wps_lks, wp_bool, wp_tru, wp_notM, wp_andM, wp_orM, wp_ifM, wp_op2, wp_op1, wp_arg, wp_cons, wp_nil, wp_lit, wp_mth, wp_meth, wp_mk, wp_pop, wp_get2, wp_lck, wp_v, wp_ok, wps_ok, List.map_cons, List.map_nil, List.length_cons, List.length_nil, Nat.zero_add, Nat.reduceAdd, Nat.reduceSub, List.replicate_zero, List.replicate_succ, List.cons_append, List.nil_append, List.append_nil, List.getElem?_cons_zero, List.getElem?_cons_succ, List.set_cons_zero, List.set_cons_succ, blF, mtF, opF, cmF, f_add, f_sub, f_mul, f_mod, f_fdiv, f_pow, f_lt, f_le, f_gt, f_ge, f_eqi, f_eqs, f_int, f_neg, upd_heap, upd_next, all_heap, all_next, Bool.false_eq_true, if_true, if_false, decide_eq_true_eq, Nat.sub_self]
  obtain ⟨v, t1, v0, v4, af, e1⟩ := hF.get w hb 4 (by omega)
  simp only [e1, ev, wps_seq, wps_if, wps_ret, wps_nx, wps_fl, wps_expr, wps_set, wps_setT, wps_setI, wps_setF, wps_lks, wp_bool, wp_tru, wp_notM, wp_andM, wp_orM, wp_ifM, wp_op2, wp_op1, wp_arg, wp_cons, wp_nil, wp_lit, wp_mth, wp_meth, wp_mk, wp_pop, wp_get2, wp_lck, wp_v, wp_ok, wps_ok, List.map_cons, List.map_nil, List.length_cons, List.length_nil, Nat.zero_add, Nat.reduceAdd, Nat.reduceSub, List.replicate_zero, List.replicate_succ, List.cons_append, List.nil_append, List.append_nil, List.getElem?_cons_zero, List.getElem?_cons_succ, List.set_cons_zero, List.set_cons_succ, blF, mtF, opF, cmF, f_add, f_sub, f_mul, f_mod, f_fdiv, f_pow, f_lt, f_le, f_gt, f_ge, f_eqi, f_eqs, f_int, f_neg, upd_heap, upd_next, all_heap, all_next, Bool.false_eq_true, if_true, if_false, decide_eq_true_eq, Nat.sub_self]
  have e62 : (1000 : Int) < 2 ^ 62 := by decide
  have e62' : (-(2 : Int) ^ 62) ≤ 0 := by decide
  obtain ⟨n, hn, n2, n5⟩ : ∃ n : Nat, 2 + v = (n : Int) ∧ 2 ≤ n ∧ n ≤ 5 := ⟨(2 + v).toNat, by omega, by omega, by omega⟩
  rw [hn]
  have hlen : (rngD 0 n).length = n := rngD_len
  refine wp_lc (ds := rngD 0 n) (gd := none) (s1 := t1) ?_ (fRg n) trivial (fun d hd => ?_) (by rw [line_is, hlen]; omega) ?_
  · have r := f_rng1 (i := (n : Int)) (s := t1) ⟨by omega, by omega⟩
    rw [Int.toNat_natCast] at r
    simp only [rng1M, varM, List.getElem?_cons_zero, List.getElem?_cons_succ, List.set_cons_zero, List.set_cons_succ, bd_ok, r]
  · obtain ⟨k, hk, rfl⟩ : ∃ k : Nat, k < n ∧ d = .int (k : Int) := by
      obtain ⟨i, hi⟩ := List.mem_iff_getElem?.mp hd
      obtain ⟨h1, h2⟩ := rngD_is hi
      exact ⟨i, h1, by rw [h2]; simp⟩
    refine ⟨_, rfl, ?_⟩
    have em : ((k : Int) + 1) % (n : Int) = (((k + 1) % n : Nat) : Int) := by simp
    have ep : (0 : Int) < n := by omega
    have lt6 : (k + 1) % n < 6 := Nat.lt_of_lt_of_le (Nat.mod_lt _ (by omega)) (by omega)
    simp only [fRg, Int.toNat_natCast]
    refine ⟨rfl, wp_eq ?_⟩
    simp only [wipeE, ev, wps_seq, wps_if, wps_ret, wps_nx, wps_fl, wps_expr, wps_set, wps_setT, wps_setI, wps_setF, wps_lks, wp_bool, wp_tru, wp_notM, wp_andM, wp_orM, wp_ifM, wp_op2, wp_op1, wp_arg, wp_cons, wp_nil, wp_lit, wp_mth, wp_meth, wp_mk, wp_pop, wp_get2, wp_lck, wp_v, wp_ok, wps_ok, List.map_cons, List.map_nil, List.length_cons, List.length_nil, Nat.zero_add, Nat.reduceAdd, Nat.reduceSub, List.replicate_zero, List.replicate_succ, List.cons_append, List.nil_append, List.append_nil, List.getElem?_cons_zero, List.getElem?_cons_succ, List.set_cons_zero, List.set_cons_succ, blF, mtF, opF, cmF, f_add, f_sub, f_mul, f_mod, f_fdiv, f_pow, f_lt, f_le, f_gt, f_ge, f_eqi, f_eqs, f_int, f_neg, upd_heap, upd_next, all_heap, all_next, Bool.false_eq_true, if_true, if_false, decide_eq_true_eq, Nat.sub_self, ix_nm (show k < 6 by omega), em, ep, ix_nm lt6, mkT2]
    exact ⟨rfl, trivial⟩
  rw [fRg_all, mkL_ref (by rw [List.length_map]; show ((List.range n).map _).length ≤ 1000; rw [List.length_map, List.length_range]; omega)]
  have al : a < t1.next := by obtain ⟨ns, k, h1, h2⟩ := af.box; exact af.wf.lt h1
  have at1 : RgAt s (t1.alloc (.lst ((ringM n).map mv))) a t1.next (ringM n) := by
    refine ⟨af.wf.alloc (below_mvs (t1.next + 1) _), ?_, by rw [all_heap, if_pos rfl], by omega, ⟨ha, by rw [af.next]; exact Nat.le_refl _⟩, fun x hx hn => ?_⟩
    · obtain ⟨ns, k, h1, h2⟩ := af.box
      exact ⟨ns, k, by rw [all_heap, if_neg (by omega)]; exact h1, h2⟩
    · rw [all_heap, if_neg (by have := af.next; omega)]
      exact af.same x hn
  generalize htl : (ev F G (rgTailC j)).s = tl
  generalize t1.alloc (.lst ((ringM n).map mv)) = s1 at at1 ⊢
  generalize t1.next = c at at1 ⊢
  simp only [ev, wps_seq, wps_if, wps_ret, wps_nx, wps_fl, wps_expr, wps_set, wps_setT, wps_setI, wps_setF, wps_lks, wp_bool, wp_tru, wp_notM, wp_andM, wp_orM, wp_ifM, wp_op2, wp_op1, wp_arg, wp_cons, wp_nil, wp_lit, wp_mth, wp_meth, wp_mk, wp_pop, wp_get2, wp_lck, wp_v, wp_ok, wps_ok, List.map_cons, List.map_nil, List.length_cons, List.length_nil, Nat.zero_add, Nat.reduceAdd, Nat.reduceSub, List.replicate_zero, List.replicate_succ, List.cons_append, List.nil_append, List.append_nil, List.getElem?_cons_zero, List.getElem?_cons_succ, List.set_cons_zero, List.set_cons_succ, blF, mtF, opF, cmF, f_add, f_sub, f_mul, f_mod, f_fdiv, f_pow, f_lt, f_le, f_gt, f_ge, f_eqi, f_eqs, f_int, f_neg, upd_heap, upd_next, all_heap, all_next, Bool.false_eq_true, if_true, if_false, decide_eq_true_eq, Nat.sub_self]
  refine hF at1.wf at1.box 2 (by omega) fun v t h0 h1 af => ?_
  have at2 := at1.after af
  simp only [ev, wps_seq, wps_if, wps_ret, wps_nx, wps_fl, wps_expr, wps_set, wps_setT, wps_setI, wps_setF, wps_lks, wp_bool, wp_tru, wp_notM, wp_andM, wp_orM, wp_ifM, wp_op2, wp_op1, wp_arg, wp_cons, wp_nil, wp_lit, wp_mth, wp_meth, wp_mk, wp_pop, wp_get2, wp_lck, wp_v, wp_ok, wps_ok, List.map_cons, List.map_nil, List.length_cons, List.length_nil, Nat.zero_add, Nat.reduceAdd, Nat.reduceSub, List.replicate_zero, List.replicate_succ, List.cons_append, List.nil_append, List.append_nil, List.getElem?_cons_zero, List.getElem?_cons_succ, List.set_cons_zero, List.set_cons_succ, blF, mtF, opF, cmF, f_add, f_sub, f_mul, f_mod, f_fdiv, f_pow, f_lt, f_le, f_gt, f_ge, f_eqi, f_eqs, f_int, f_neg, upd_heap, upd_next, all_heap, all_next, Bool.false_eq_true, if_true, if_false, decide_eq_true_eq, Nat.sub_self]
  by_cases hv : v = 0
  · have e2 : isLst (.ref c) t = true := by simp [isLst, lstOf, at2.hc]
    simp only [hv, ev, wps_seq, wps_if, wps_ret, wps_nx, wps_fl, wps_expr, wps_set, wps_setT, wps_setI, wps_setF, wps_lks, wp_bool, wp_tru, wp_notM, wp_andM, wp_orM, wp_ifM, wp_op2, wp_op1, wp_arg, wp_cons, wp_nil, wp_lit, wp_mth, wp_meth, wp_mk, wp_pop, wp_get2, wp_lck, wp_v, wp_ok, wps_ok, List.map_cons, List.map_nil, List.length_cons, List.length_nil, Nat.zero_add, Nat.reduceAdd, Nat.reduceSub, List.replicate_zero, List.replicate_succ, List.cons_append, List.nil_append, List.append_nil, List.getElem?_cons_zero, List.getElem?_cons_succ, List.set_cons_zero, List.set_cons_succ, blF, mtF, opF, cmF, f_add, f_sub, f_mul, f_mod, f_fdiv, f_pow, f_lt, f_le, f_gt, f_ge, f_eqi, f_eqs, f_int, f_neg, upd_heap, upd_next, all_heap, all_next, Bool.false_eq_true, if_true, if_false, decide_eq_true_eq, Nat.sub_self, e2, decide_true]
    refine hF at2.wf at2.box n (by omega) fun u t2 g0 g1 af2 => ?_
    have at3 := at2.after af2
    obtain ⟨k, rfl⟩ : ∃ k : Nat, u = k := ⟨u.toNat, by omega⟩
    simp only [ix_nm (show k < 6 by omega), ev, wps_seq, wps_if, wps_ret, wps_nx, wps_fl, wps_expr, wps_set, wps_setT, wps_setI, wps_setF, wps_lks, wp_bool, wp_tru, wp_notM, wp_andM, wp_orM, wp_ifM, wp_op2, wp_op1, wp_arg, wp_cons, wp_nil, wp_lit, wp_mth, wp_meth, wp_mk, wp_pop, wp_get2, wp_lck, wp_v, wp_ok, wps_ok, List.map_cons, List.map_nil, List.length_cons, List.length_nil, Nat.zero_add, Nat.reduceAdd, Nat.reduceSub, List.replicate_zero, List.replicate_succ, List.cons_append, List.nil_append, List.append_nil, List.getElem?_cons_zero, List.getElem?_cons_succ, List.set_cons_zero, List.set_cons_succ, blF, mtF, opF, cmF, f_add, f_sub, f_mul, f_mod, f_fdiv, f_pow, f_lt, f_le, f_gt, f_ge, f_eqi, f_eqs, f_int, f_neg, upd_heap, upd_next, all_heap, all_next, Bool.false_eq_true, if_true, if_false, decide_eq_true_eq, Nat.sub_self, mkT2]
    have hr : (ringM n).length = n := by unfold ringM; rw [List.length_map, List.length_range]
    have e5 : appF (.ref c) [.tup [.str "s7", .str (namesR.getD k "r0")]] t2 = _ := LoAt.app (q := ("s7", namesR.getD k "r0")) at3.hc (by omega)
    simp only [e5, ev, wps_seq, wps_if, wps_ret, wps_nx, wps_fl, wps_expr, wps_set, wps_setT, wps_setI, wps_setF, wps_lks, wp_bool, wp_tru, wp_notM, wp_andM, wp_orM, wp_ifM, wp_op2, wp_op1, wp_arg, wp_cons, wp_nil, wp_lit, wp_mth, wp_meth, wp_mk, wp_pop, wp_get2, wp_lck, wp_v, wp_ok, wps_ok, List.map_cons, List.map_nil, List.length_cons, List.length_nil, Nat.zero_add, Nat.reduceAdd, Nat.reduceSub, List.replicate_zero, List.replicate_succ, List.cons_append, List.nil_append, List.append_nil, List.getElem?_cons_zero, List.getElem?_cons_succ, List.set_cons_zero, List.set_cons_succ, blF, mtF, opF, cmF, f_add, f_sub, f_mul, f_mod, f_fdiv, f_pow, f_lt, f_le, f_gt, f_ge, f_eqi, f_eqs, f_int, f_neg, upd_heap, upd_next, all_heap, all_next, Bool.false_eq_true, if_true, if_false, decide_eq_true_eq, Nat.sub_self]
    have at4 := at3.app (sevP (namesR.getD k "r0"))
    subst htl
    refine rg_tail hF w ha n2 n5 (.tail ?_) at4 hQ
    rw [List.getD, List.getElem?_eq_getElem (by show k < 6; omega)]
    exact List.getElem_mem _
  · simp only [hv, ev, wps_seq, wps_if, wps_ret, wps_nx, wps_fl, wps_expr, wps_set, wps_setT, wps_setI, wps_setF, wps_lks, wp_bool, wp_tru, wp_notM, wp_andM, wp_orM, wp_ifM, wp_op2, wp_op1, wp_arg, wp_cons, wp_nil, wp_lit, wp_mth, wp_meth, wp_mk, wp_pop, wp_get2, wp_lck, wp_v, wp_ok, wps_ok, List.map_cons, List.map_nil, List.length_cons, List.length_nil, Nat.zero_add, Nat.reduceAdd, Nat.reduceSub, List.replicate_zero, List.replicate_succ, List.cons_append, List.nil_append, List.append_nil, List.getElem?_cons_zero, List.getElem?_cons_succ, List.set_cons_zero, List.set_cons_succ, blF, mtF, opF, cmF, f_add, f_sub, f_mul, f_mod, f_fdiv, f_pow, f_lt, f_le, f_gt, f_ge, f_eqi, f_eqs, f_int, f_neg, upd_heap, upd_next, all_heap, all_next, Bool.false_eq_true, if_true, if_false, decide_eq_true_eq, Nat.sub_self, decide_false]
    subst htl
    exact rg_tail hF w ha n2 n5 .base at2 hQ
end
end Co
namespace Co
open PySem L2
/-! ### repr of what is small -/
/-- data that repr shows -/
structure Sh (w k : Nat) (p : PyData) : Prop where
  sh : p.showable = true
  dp : p.depth ≤ k
  lv : p.leavesShort 13 = true
  wt : p.weight ≤ w
theorem Sh.ok {w k : Nat} {p : PyData} (h : Sh w k p) (hw : w ≤ 1000000) (hk : k ≤ 60) : reprOk p :=
  ⟨h.sh, Nat.le_trans h.dp hk, PyData.shown_fits (B := 13) (by decide) (by decide) h.lv (Nat.le_trans h.wt (Nat.le_trans hw (Nat.le_trans (show 1000000 ≤ 1048576 by decide) (show 1048576 ≤ 2 ^ 20 by decide))))⟩
def strSh (x : Str) : Bool := (x.cps.toList.all fun c => decide (c < 16 ^ 8)) && decide (x.cps.size ≤ 100) && PyData.canLay0 (.str x)
theorem Sh.str {x : Str} (h : strSh x = true) : Sh 100 0 (.str x) := by
  simp only [strSh, Bool.and_eq_true, decide_eq_true_eq] at h
  exact ⟨rfl, Nat.le_refl 0, h.1.1, h.1.2⟩
theorem Sh.int {i : Int} (h : i.natAbs < 10 ^ 12) : Sh 100 0 (.int i) := by
  have e12 : (10 : Nat) ^ 12 < 2 ^ 40 := by decide
  have hl : i.natAbs.log2 < 40 := by
    by_cases z : i.natAbs = 0
    · rw [z]; decide
    · exact (Nat.log2_lt z).mpr (by omega)
  refine ⟨?_, Nat.le_refl 0, ?_, ?_⟩
  · simp only [PyData.showable, decide_eq_true_eq]; omega
  · simp only [PyData.leavesShort, decide_eq_true_eq]
    exact PyData.shown_int_le h
  · simp only [PyData.weight]
    split <;> omega
theorem Sh.all {w k : Nat} : ∀ {xs : List PyData}, (∀ x ∈ xs, Sh w k x) → PyData.showableAll xs = true ∧ PyData.depthAll xs ≤ k ∧ PyData.leavesShortAll 13 xs = true ∧ PyData.weightAll xs ≤ xs.length * (w + 1)
  | [], _ => ⟨rfl, Nat.zero_le _, rfl, Nat.zero_le _⟩
  | x :: xs, h => by
    obtain ⟨h1, h2, h3, h4⟩ := Sh.all (xs := xs) fun y hy => h y (List.mem_cons_of_mem _ hy)
    have g := h x List.mem_cons_self
    refine ⟨by simp only [PyData.showableAll, g.sh, h1, Bool.and_self], ?_, by simp only [PyData.leavesShortAll, g.lv, h3, Bool.and_self], ?_⟩
    · have := g.dp
      simp only [PyData.depthAll]; omega
    · have := g.wt
      simp only [PyData.weightAll, List.length_cons, Nat.succ_mul]
      omega
theorem Sh.tup {w k : Nat} {xs : List PyData} (h : ∀ x ∈ xs, Sh w k x) : Sh (xs.length * (w + 1)) (k + 1) (.tuple xs) := by
  obtain ⟨h1, h2, h3, h4⟩ := Sh.all h
  exact ⟨by simpa only [PyData.showable] using h1, by simp only [PyData.depth]; omega, by simpa only [PyData.leavesShort] using h3, by simpa only [PyData.weight] using h4⟩
theorem Sh.lst {w k : Nat} {xs : List PyData} (h : ∀ x ∈ xs, Sh w k x) : Sh (xs.length * (w + 1)) (k + 1) (.list xs) := by
  obtain ⟨h1, h2, h3, h4⟩ := Sh.all h
  exact ⟨by simpa only [PyData.showable] using h1, by simp only [PyData.depth]; omega, by simpa only [PyData.leavesShort] using h3, by simpa only [PyData.weight] using h4⟩
theorem Sh.kv {w k : Nat} : ∀ {xs : List (PyData × PyData)}, (∀ x ∈ xs, Sh w k x.1 ∧ Sh w k x.2) → PyData.showableKv xs = true ∧ PyData.depthKv xs ≤ k ∧ PyData.leavesShortKv 13 xs = true ∧ PyData.weightKv xs ≤ xs.length * (w + w + 2)
  | [], _ => ⟨rfl, Nat.zero_le _, rfl, Nat.zero_le _⟩
  | (a, b) :: xs, h => by
    obtain ⟨h1, h2, h3, h4⟩ := Sh.kv (xs := xs) fun y hy => h y (List.mem_cons_of_mem _ hy)
    obtain ⟨g, g'⟩ : Sh w k a ∧ Sh w k b := h (a, b) List.mem_cons_self
    refine ⟨by simp only [PyData.showableKv, g.sh, g'.sh, h1, Bool.and_self], ?_, by simp only [PyData.leavesShortKv, g.lv, g'.lv, h3, Bool.and_self], ?_⟩
    · have := g.dp
      have := g'.dp
      simp only [PyData.depthKv]; omega
    · have := g.wt
      have := g'.wt
      simp only [PyData.weightKv, List.length_cons]
      rw [Nat.add_mul, Nat.one_mul]
      omega
theorem Sh.dict {w k : Nat} {xs : List (PyData × PyData)} (h : ∀ x ∈ xs, Sh w k x.1 ∧ Sh w k x.2) : Sh (xs.length * (w + w + 2)) (k + 1) (.dict xs) := by
  obtain ⟨h1, h2, h3, h4⟩ := Sh.kv h
  exact ⟨by simpa only [PyData.showable] using h1, by simp only [PyData.depth]; omega, by simpa only [PyData.leavesShort] using h3, by simpa only [PyData.weight] using h4⟩
theorem Sh.mono {w w' k k' : Nat} {p : PyData} (h : Sh w k p) (hw : w ≤ w') (hk : k ≤ k') : Sh w' k' p := ⟨h.sh, Nat.le_trans h.dp hk, h.lv, Nat.le_trans h.wt hw⟩
/-! ### moves -/
def pmv (q : Str × Str) : PyData := .tuple [.str q.1, .str q.2]
theorem py_mvs (M : Prs) : pyL (M.map mv) = some (M.map pmv) := by
  induction M with
  | nil => simp [pyL]
  | cons q M ih => simp [pyL, ih, mv, pyD, pmv]
theorem sh_mv {q : Str × Str} (h1 : strSh q.1 = true) (h2 : strSh q.2 = true) : Sh 202 1 (pmv q) :=
  Sh.tup (w := 100) (k := 0) (xs := [.str q.1, .str q.2]) fun x hx => by
    rcases List.mem_cons.mp hx with rfl | hx
    · exact Sh.str h1
    · rw [List.mem_singleton.mp hx]; exact Sh.str h2
theorem canLay_all : ∀ {xs : List PyData}, (∀ x ∈ xs, x.canLay0 = true) → PyData.canLayAll0 xs = true
  | [], _ => rfl
  | x :: xs, h => by simp only [PyData.canLayAll0, h x List.mem_cons_self, canLay_all fun y hy => h y (List.mem_cons_of_mem _ hy), Bool.and_self]
theorem repr_mvs {M : Prs} (h : ∀ q ∈ M, strSh q.1 = true ∧ strSh q.2 = true) (hl : M.length ≤ 1000) (s : S) : reprF [.tup (M.map mv)] s = .ok (.str (PyData.tuple (M.map pmv)).shown) s := by
  have e : pyT s (.tup (M.map mv)) = some (.tuple (M.map pmv)) := by simp [pyT, pyD, py_mvs]
  have ok : reprOk (.tuple (M.map pmv)) := by
    refine (Sh.tup (w := 202) (k := 1) fun x hx => ?_).ok (by rw [List.length_map]; omega) (by decide)
    obtain ⟨q, hq, rfl⟩ := List.mem_map.mp hx
    exact sh_mv (h q hq).1 (h q hq).2
  have cl : PyData.canLay0 (.tuple (M.map pmv)) = true := by
    simp only [PyData.canLay0]
    refine canLay_all fun x hx => ?_
    obtain ⟨q, hq, rfl⟩ := List.mem_map.mp hx
    obtain ⟨h1, h2⟩ := h q hq
    simp only [strSh, Bool.and_eq_true] at h1 h2
    simp only [pmv, PyData.canLay0, PyData.canLayAll0, Bool.and_true, Bool.and_eq_true]
    exact ⟨by simpa only [PyData.canLay0] using h1.2, by simpa only [PyData.canLay0] using h2.2⟩
  simp only [reprF, e, ok, cl, true_and, true_or, if_true]
/-! ### a dict of texts and small numbers -/
def contD (f : Str → Int) (ks : List Str) : List (Key × D) := ks.map fun k => (.inr k, .int (f k))
theorem getK_cont {f : Str → Int} : ∀ {ks : List Str} {k : Str}, k ∈ ks → getK (contD f ks) (.inr k) = some (.int (f k))
  | [], k, h => by cases h
  | x :: ks, k, h => by
    have e : getK (contD f (x :: ks)) (.inr k) = if x = k then some (.int (f x)) else getK (contD f ks) (.inr k) := by
      simp only [getK, contD, List.map_cons, List.find?_cons, inr_eq]
      by_cases z : x = k
      · simp [z]
      · simp only [z, decide_false, if_false]
    rw [e]
    by_cases z : x = k
    · rw [if_pos z, z]
    · rw [if_neg z]
      exact getK_cont ((List.mem_cons.mp h).resolve_left fun y => z y.symm)
theorem put_cont {f : Str → Int} {ks : List Str} {k : Str} {v : Int} (h : k ∉ ks) : putD (contD f ks) (.inr k) (.int v) = contD (fun x => if x = k then v else f x) (ks ++ [k]) := by
  have e : ((contD f ks).any fun kv => decide (kv.1 = (Sum.inr k : Key))) = false := by
    rw [List.any_eq_false]
    intro kv hkv
    obtain ⟨x, hx, rfl⟩ := List.mem_map.mp hkv
    have : x ≠ k := fun z => h (z ▸ hx)
    simp [this]
  unfold putD
  rw [e]
  simp only [Bool.false_eq_true, if_false, contD, List.map_append, List.map_cons, List.map_nil, if_true]
  congr 1
  refine List.map_congr_left fun x hx => ?_
  have : x ≠ k := fun z => h (z ▸ hx)
  rw [if_neg this]
theorem repr_cont {f : Str → Int} {ks : List Str} (h : ∀ k ∈ ks, strSh k = true) (hf : ∀ k ∈ ks, (f k).natAbs < 10 ^ 12) (hl : ks.length ≤ 1000) {s : S} {c : Nat} (hc : s.heap c = some (.dK (contD f ks))) :
    ∃ x, ∀ s' : S, s'.heap c = some (.dK (contD f ks)) → reprF [.ref c] s' = .ok (.str x) s' := by
  have e1 : ∀ ks : List Str, pyL ((contD f ks).map (·.2)) = some (ks.map fun k => .int (f k)) := by
    intro ks
    induction ks with
    | nil => simp [pyL, contD]
    | cons k ks ih => 
      have ih : pyL ((ks.map fun k => ((Sum.inr k : Key), D.int (f k))).map (·.2)) = some (ks.map fun k => .int (f k)) := ih
      simp only [contD, List.map_cons, pyL, pyD, ih]
  have e2 : ∀ ks : List Str, ((contD f ks).map fun kv => pyKey kv.1).zip (ks.map fun k => PyData.int (f k)) = ks.map fun k => (.str k, .int (f k)) := by
    intro ks
    induction ks with
    | nil => rfl
    | cons k ks ih =>
      have ih : ((ks.map fun k => ((Sum.inr k : Key), D.int (f k))).map fun kv => pyKey kv.1).zip (ks.map fun k => PyData.int (f k)) = ks.map fun k => (.str k, .int (f k)) := ih
      simp only [contD, List.map_cons, List.zip_cons_cons]
      rw [ih]
      rfl
  refine ⟨(PyData.dict (ks.map fun k => (.str k, .int (f k)))).shown, fun s' hc' => ?_⟩
  have e : pyT s' (.ref c) = some (.dict (ks.map fun k => (.str k, .int (f k)))) := by
    simp only [pyT, hc', e1, Option.map_some, e2]
  have ok : reprOk (.dict (ks.map fun k => (.str k, .int (f k)))) := by
    refine (Sh.dict (w := 100) (k := 0) fun x hx => ?_).ok (by rw [List.length_map]; omega) (by decide)
    obtain ⟨k, hk, rfl⟩ := List.mem_map.mp hx
    exact ⟨Sh.str (h k hk), Sh.int (hf k hk)⟩
  have dk : dkScal (.ref c) s' = true := by
    have : ((contD f ks).map (·.2)).all scalD = true := by
      rw [List.all_eq_true]
      intro d hd
      obtain ⟨kv, hkv, rfl⟩ := List.mem_map.mp hd
      obtain ⟨k, hk, rfl⟩ := List.mem_map.mp hkv
      rfl
    simp only [dkScal, dKOf, hc', this]
  simp only [reprF, e, ok, dk, true_and, or_true, if_true]
/-! ### the names of an order -/
structure NamS (V : List Str) (t : Od) : Prop where
  l : ∀ q ∈ t.L, q.1 ∈ V ∧ q.2 ∈ V
  p : ∀ q ∈ t.P, q.2 ∈ V
  r : ∀ x ∈ t.R, x ∈ V
  m : ∀ q ∈ t.M, q.1 ∈ V ∧ q.2 ∈ V
section
variable {V : List Str} {t : Od}
theorem put_mem {p : Prs} {k v : Str} (h : ∀ q ∈ p, q.2 ∈ V) (hv : v ∈ V) : ∀ q ∈ putS p k v, q.2 ∈ V := by
  intro q hq
  unfold putS at hq
  split at hq
  · obtain ⟨z, hz, rfl⟩ := List.mem_map.mp hq
    split
    · exact hv
    · exact h z hz
  · rcases List.mem_append.mp hq with z | z
    · exact h q z
    · rw [List.mem_singleton.mp z]; exact hv
theorem NamS.make (h : NamS V t) {d : Str} (hd : d ∈ V) : NamS V (t.make d) := by
  unfold Od.make
  cases e : getS t.L d with
  | none => exact h
  | some s =>
    have hs : s ∈ V := (h.l _ (getS_mem e)).2
    simp only
    cases e2 : getS t.P s with
    | none => exact h
    | some x =>
      have hx : x ∈ V := h.p _ (getS_mem e2)
      simp only
      refine ⟨fun q hq => h.l q (mem_drop.mp hq).1, put_mem h.p hd, fun y hy => ?_, fun q hq => ?_⟩
      · simp only at hy
        split at hy
        · rcases List.mem_append.mp hy with z | z
          · exact h.r y z
          · rw [List.mem_singleton.mp z]; exact hs
        · exact h.r y hy
      · rcases List.mem_append.mp hq with z | z
        · exact h.m q z
        · rw [List.mem_singleton.mp z]; exact ⟨hd, hx⟩
theorem NamS.part (h : NamS V t) (ht : ("t" : Str) ∈ V) : NamS V t.part := by
  unfold Od.part
  split
  · exact h
  · rename_i d x L' e
    have hd : d ∈ V := (h.l (d, x) (by rw [e]; exact List.mem_cons_self)).1
    refine ⟨h.l, put_mem h.p ht, fun y hy => ?_, fun q hq => ?_⟩
    · rcases List.mem_append.mp hy with z | z
      · exact h.r y z
      · rw [List.mem_singleton.mp z]; exact hd
    · rcases List.mem_append.mp hq with z | z
      · exact h.m q z
      · rw [List.mem_singleton.mp z]; exact ⟨ht, hd⟩
theorem NamS.step (h : NamS V t) (ht : ("t" : Str) ∈ V) : NamS V t.step := by
  have h1 : NamS V t.mid := by
    unfold Od.mid
    split
    · exact h.part ht
    · exact h
  unfold Od.step Od.pop
  split
  · exact h1
  · rename_i d R e
    have hr : ∀ y ∈ d :: R, y ∈ V := fun y hy => h1.r y (e ▸ hy)
    exact NamS.make (t := ⟨t.mid.L, t.mid.P, R, t.mid.M⟩) ⟨h1.l, h1.p, fun y hy => hr y (List.mem_cons_of_mem _ hy), h1.m⟩ (hr d List.mem_cons_self)
theorem NamS.run (ht : ("t" : Str) ∈ V) : ∀ (n : Nat) {t : Od}, NamS V t → NamS V (t.run n)
  | 0, _, h => h
  | n + 1, t, h => by
    unfold Od.run
    split
    · exact h
    · exact NamS.run ht n (h.step ht)
theorem self_mem : ∀ {vs : List Str} {p : Prs}, (∀ v ∈ vs, v ∈ V) → (∀ q ∈ p, q.2 ∈ V) → ∀ q ∈ vs.foldl (fun p v => putS p v v) p, q.2 ∈ V
  | [], p, _, h => h
  | v :: vs, p, h1, h => self_mem (vs := vs) (p := putS p v v) (fun x hx => h1 x (List.mem_cons_of_mem _ hx)) (put_mem h (h1 v List.mem_cons_self))
theorem ordS_names {L : Prs} (ht : ("t" : Str) ∈ V) (h : ∀ q ∈ L, q.1 ∈ V ∧ q.2 ∈ V) : ∀ q ∈ ordS L, q.1 ∈ V ∧ q.2 ∈ V := by
  refine (NamS.run ht L.length (t := startO L) ⟨h, ?_, fun x hx => ?_, fun q hq => by cases hq⟩).m
  · refine self_mem (fun v hv => ?_) (fun q hq => by cases hq)
    obtain ⟨q, hq, rfl⟩ := List.mem_map.mp hv
    exact (h q hq).2
  · obtain ⟨q, hq, rfl⟩ := List.mem_map.mp (List.mem_filter.mp hx).1
    exact (h q hq).1
end
theorem getS_mov {ms : Prs} (kn : (ms.map (·.1)).Nodup) (d : Str) : (getS (movS ms) d).getD d = (getS ms d).getD d := by
  cases e : getS ms d with
  | none =>
    have : getS (movS ms) d = none := getS_none.mpr fun q hq => getS_none.mp e q (List.mem_filter.mp hq).1
    rw [this]
  | some v =>
    have hm := getS_mem e
    by_cases z : d = v
    · subst z
      cases e2 : getS (movS ms) d with
      | none => rfl
      | some w =>
        have h2 := getS_mem e2
        have h3 := (mov_mem.mp h2)
        have := mem_getS kn h3.1
        rw [e] at this
        cases this
        exact absurd rfl h3.2
    · have : getS (movS ms) d = some v := mem_getS (mov_nodup kn) (mov_mem.mpr ⟨hm, z⟩)
      rw [this]
end Co
namespace Co
open PySem L2
/-! ### moves that are told in another order -/
section
variable {L L' : Prs}
theorem getS_perm (kn : (L.map (·.1)).Nodup) (kn' : (L'.map (·.1)).Nodup) (h : ∀ q, q ∈ L ↔ q ∈ L') (k : Str) : getS L k = getS L' k := by
  cases e : getS L k with
  | none => exact (getS_none.mpr fun q hq => getS_none.mp e q ((h q).mpr hq)).symm
  | some v => exact (mem_getS kn' ((h _).mp (getS_mem e))).symm
theorem growS_congr (h : ∀ k, getS L k = getS L' k) : ∀ (n : Nat) (C : List Str), growS L n C = growS L' n C
  | 0, _ => rfl
  | n + 1, C => by
    unfold growS
    cases C.getLast? with
    | none => rfl
    | some e =>
      simp only [h e]
      cases getS L' e with
      | none => rfl
      | some y => simp only [growS_congr h n]
theorem ringS_congr (h : ∀ k, getS L k = getS L' k) (k : Str) : ringS L k = ringS L' k := growS_congr h 12 [k]
theorem isRing_congr (h : ∀ k, getS L k = getS L' k) (k : Str) : isRing L k ↔ isRing L' k := by
  unfold isRing
  rw [ringS_congr h]
  constructor
  · rintro ⟨e, h1, h2⟩; exact ⟨e, h1, by rw [← h]; exact h2⟩
  · rintro ⟨e, h1, h2⟩; exact ⟨e, h1, by rw [h]; exact h2⟩
open Classical in
theorem repsS_congr (h : ∀ k, getS L k = getS L' k) : ∀ (ks seen : List Str), repsS L ks seen = repsS L' ks seen
  | [], _ => rfl
  | k :: ks, seen => by
    unfold repsS
    have e : (isRing L k ∧ k ∉ seen) ↔ (isRing L' k ∧ k ∉ seen) := and_congr_left fun _ => isRing_congr h k
    by_cases z : isRing L k ∧ k ∉ seen
    · rw [if_pos z, if_pos (e.mp z), ringS_congr h, repsS_congr h ks]
    · rw [if_neg z, if_neg fun y => z (e.mpr y), repsS_congr h ks]
theorem ringsN_congr (h : ∀ k, getS L k = getS L' k) (hm : ∀ q, q ∈ L ↔ q ∈ L') (Ks : List Str) : ringsN L Ks = ringsN L' Ks := by
  unfold ringsN
  rw [repsS_congr h]
  refine count_same _ _ _ fun k _ => ?_
  unfold pureS
  rw [ringS_congr h]
  exact ⟨fun z q hq => z q ((hm q).mpr hq), fun z q hq => z q ((hm q).mp hq)⟩
/-- as many moves, in whatever order they are told -/
theorem ordS_len (hL : L.length ≤ 10) (hL' : L'.length = L.length) (kn : (L.map (·.1)).Nodup) (kn' : (L'.map (·.1)).Nodup) (hm : ∀ q, q ∈ L ↔ q ∈ L') (ne : ∀ q ∈ L, q.1 ≠ q.2) (nt : ∀ q ∈ L, q.1 ≠ "t") : (ordS L).length = (ordS L').length := by
  obtain ⟨_, l1⟩ := ordS_ok (β := Nat) (fun _ => 0) hL (Ks := L.map (·.1)) (fun q hq => List.mem_map_of_mem hq) kn ne nt
  obtain ⟨_, l2⟩ := ordS_ok (β := Nat) (fun _ => 0) (L := L') (by omega) (Ks := L.map (·.1)) (fun q hq => List.mem_map_of_mem ((hm q).mpr hq)) kn' (fun q hq => ne q ((hm q).mpr hq)) (fun q hq => nt q ((hm q).mpr hq))
  rw [l1, l2, hL', ringsN_congr (getS_perm kn kn' hm) hm]
end
theorem mov_perm {ms ms' : Prs} (h : ms.Perm ms') : (movS ms).Perm (movS ms') := h.filter _
/-! ### contents that are small numbers -/
theorem conts_map {α β : Type} (g : α → β) : ∀ (M : Prs) (f : Str → α), conts (fun k => g (f k)) M = fun k => g (conts f M k)
  | [], f => rfl
  | q :: M, f => by
    have e : putC (fun k => g (f k)) q = fun k => g (putC f q k) := by
      funext k
      unfold putC
      split <;> rfl
    show conts (putC (fun k => g (f k)) q) M = fun k => g (conts (putC f q) M k)
    rw [e]
    exact conts_map g M (putC f q)
theorem conts_all {α : Type} (p : α → Prop) : ∀ (M : Prs) (f : Str → α), (∀ k, p (f k)) → ∀ k, p (conts f M k)
  | [], f, h, k => h k
  | q :: M, f, h, k => conts_all p M (putC f q) (fun k => by unfold putC; split <;> exact h _) k
theorem holds_eq {g : Str → Int} : ∀ {ks : List Str} {kvs : List (Key × D)}, kvs.map (·.1) = ks.map Sum.inr → ks.Nodup → HoldsD kvs (fun k => .int (g k)) ks → kvs = contD g ks
  | [], [], _, _, _ => rfl
  | [], _ :: _, e, _, _ => by cases e
  | _ :: _, [], e, _, _ => by cases e
  | k :: ks, (k', v) :: kvs, e, nd, h => by
    have e : k' :: kvs.map (·.1) = Sum.inr k :: ks.map Sum.inr := e
    obtain ⟨e1, e2⟩ := List.cons.inj e
    subst e1
    obtain ⟨n1, n2⟩ := List.nodup_cons.mp nd
    have h1 := h k List.mem_cons_self
    have g1 : getK (((Sum.inr k : Key), v) :: kvs) (.inr k) = some v := by simp [getK]
    rw [g1] at h1
    cases h1
    have ih := holds_eq (g := g) e2 n2 fun x hx => by
      have := h x (List.mem_cons_of_mem _ hx)
      have ne : x ≠ k := fun z => n1 (z ▸ hx)
      have e3 : getK (((Sum.inr k : Key), D.int (g k)) :: kvs) (.inr x) = getK kvs (.inr x) := by
        have : (Sum.inr k : Key) ≠ Sum.inr x := fun z => ne (Sum.inr.inj z).symm
        simp [getK, this]
      rw [← e3]
      exact this
    rw [ih]
    rfl
/-! ### what is equal to itself -/
theorem eqF_self {x : D} {s : S} {p : PyData} (n : Bool) (hs : scalEq x x = none) (h : pyT s x = some p) (c : p.canLay0 = true) (d : p.depth ≤ 64) : eqF n x x s = .ok (.bl (if n then false else true)) s := by
  have sh : SeqAt.shaped p = true := by simp only [SeqAt.shaped, c, Bool.true_and, decide_eq_true_eq]; exact d
  simp only [eqF, eqvD, hs, h, sh, and_self, if_true, SeqAt.eqv_refl p c]
  cases n <;> rfl
end Co
namespace Co
open PySem L2
/-! ### no row of moves is shorter -/
theorem sub_len : ∀ {α : Type} [DecidableEq α] {K V : List α}, K.Nodup → (∀ k ∈ K, k ∈ V) → K.length ≤ V.length
  | _, _, [], _, _, _ => Nat.zero_le _
  | α, _, k :: K, V, nd, h => by
    obtain ⟨n1, n2⟩ := List.nodup_cons.mp nd
    have ih := sub_len (K := K) (V := V.erase k) n2 fun x hx => by
      have ne : x ≠ k := fun z => n1 (z ▸ hx)
      exact (List.mem_erase_of_ne ne).mpr (h x (List.mem_cons_of_mem _ hx))
    rw [List.length_erase_of_mem (h k List.mem_cons_self)] at ih
    have : 0 < V.length := List.length_pos_of_mem (h k List.mem_cons_self)
    rw [List.length_cons]
    omega
/-- the content of k behind the first j moves -/
def cAt (M : Prs) (j : Nat) : Str → Str := conts (fun x => x) (M.take j)
theorem cAt_zero (M : Prs) (k : Str) : cAt M 0 k = k := rfl
theorem cAt_succ {M : Prs} {j : Nat} {q : Str × Str} (h : M[j]? = some q) (k : Str) : cAt M (j + 1) k = if k = q.1 then cAt M j q.2 else cAt M j k := by
  unfold cAt
  have e : M.take (j + 1) = M.take j ++ [q] := by rw [List.take_add_one, h]; rfl
  rw [e, conts_snoc]
  rfl
theorem cAt_end (M : Prs) (k : Str) : cAt M M.length k = conts (fun x => x) M k := by unfold cAt; rw [List.take_length]
section
variable {M : Prs}
/-- what has changed was written -/
theorem was_written {k : Str} : ∀ (n : Nat), n ≤ M.length → cAt M n k ≠ k → ∃ j q, j < n ∧ M[j]? = some q ∧ q.1 = k ∧ cAt M j q.2 = cAt M n k
  | 0, _, h => absurd (cAt_zero M k) h
  | n + 1, hn, h => by
    have hq := List.getElem?_eq_getElem (show n < M.length from hn)
    by_cases z : k = M[n].1
    · exact ⟨n, M[n], Nat.lt_succ_self n, hq, z.symm, by rw [cAt_succ hq, if_pos z]⟩
    · rw [cAt_succ hq, if_neg z] at h ⊢
      obtain ⟨j, q, h1, h2⟩ := was_written n (Nat.le_of_succ_le hn) h
      exact ⟨j, q, Nat.lt_succ_of_lt h1, h2⟩
/-- where nothing of C is brought out, what stands in C stays -/
theorem ring_stays {C : List Str} (nd : C.Nodup) (h0 : ∀ j q, M[j]? = some q → q.1 ∉ C → cAt M j q.2 ∉ C) (hf : ∀ v ∈ C, ∃ x ∈ C, cAt M M.length x = v) : ∀ x ∈ C, cAt M M.length x = x := by
  have out : ∀ j, j ≤ M.length → ∀ x, x ∉ C → cAt M j x ∉ C := by
    intro j
    induction j with
    | zero => exact fun _ x hx => hx
    | succ j ih =>
      intro hj x hx
      have hq := List.getElem?_eq_getElem (show j < M.length from hj)
      rw [cAt_succ hq]
      by_cases z : x = M[j].1
      · rw [if_pos z]
        exact h0 j _ hq (z ▸ hx)
      · rw [if_neg z]
        exact ih (Nat.le_of_succ_le hj) x hx
  have full : ∀ n j, j + n = M.length → ∀ v ∈ C, ∃ x ∈ C, cAt M j x = v := by
    intro n
    induction n with
    | zero => intro j hj; rw [show j = M.length by omega]; exact hf
    | succ n ih =>
      intro j hj v hv
      have hq := List.getElem?_eq_getElem (show j < M.length by omega)
      obtain ⟨x, hx, e⟩ := ih (j + 1) (by omega) v hv
      rw [cAt_succ hq] at e
      by_cases z : x = M[j].1
      · rw [if_pos z] at e
        refine ⟨M[j].2, ?_, e⟩
        by_cases w : M[j].2 ∈ C
        · exact w
        · exact absurd (e ▸ hv) (out j (by omega) _ w)
      · rw [if_neg z] at e
        exact ⟨x, hx, e⟩
  have stay : ∀ j, j ≤ M.length → ∀ x ∈ C, cAt M j x = x := by
    intro j
    induction j with
    | zero => exact fun _ x _ => rfl
    | succ j ih =>
      intro hj x hx
      have ih := ih (Nat.le_of_succ_le hj)
      have hq := List.getElem?_eq_getElem (show j < M.length from hj)
      obtain ⟨p1, p2⟩ := pigeon C (C.map (cAt M (j + 1))) nd (fun v hv => by
        obtain ⟨y, hy, e⟩ := full (M.length - (j + 1)) (j + 1) (by omega) v hv
        exact List.mem_map.mpr ⟨y, hy, e⟩) (by rw [List.length_map]; exact Nat.le_refl _)
      rw [cAt_succ hq]
      by_cases z : x = M[j].1
      · rw [if_pos z]
        have e1 : cAt M (j + 1) x = cAt M j M[j].2 := by rw [cAt_succ hq, if_pos z]
        have hv : cAt M j M[j].2 ∈ C := by
          have := p2 _ (List.mem_map.mpr ⟨x, hx, e1⟩)
          exact this
        have hs : M[j].2 ∈ C := by
          by_cases w : M[j].2 ∈ C
          · exact w
          · exact absurd hv (out j (by omega) _ w)
        rw [ih _ hs]
        by_cases w : M[j].2 = x
        · exact w
        · exfalso
          have e2 : cAt M (j + 1) M[j].2 = M[j].2 := by
            rw [cAt_succ hq, if_neg fun y => w (y.trans z.symm)]
            exact ih _ hs
          have e3 : cAt M (j + 1) x = M[j].2 := by rw [e1]; exact ih _ hs
          have inj : ∀ {l : List Str} {f : Str → Str} {a b : Str}, (l.map f).Nodup → a ∈ l → b ∈ l → f a = f b → a = b := by
            intro l f a b hn ha hb hab
            obtain ⟨i, hi, ea⟩ := List.mem_iff_getElem.mp ha
            obtain ⟨i', hi', eb⟩ := List.mem_iff_getElem.mp hb
            have h1 : (l.map f)[i]'(by rw [List.length_map]; exact hi) = (l.map f)[i']'(by rw [List.length_map]; exact hi') := by
              rw [List.getElem_map, List.getElem_map, ea, eb, hab]
            have h2 := (List.getElem_inj hn).mp h1
            subst h2
            rw [← ea, ← eb]
          exact w (inj p1 hs hx (e2.trans e3.symm))
      · rw [if_neg z]
        exact ih x hx
  exact stay M.length (Nat.le_refl _)
end
theorem reps_apart {L : Prs} : ∀ {ks seen : List Str}, (repsS L ks seen).Pairwise (fun a b => b ∉ ringS L a) ∧ ∀ k ∈ repsS L ks seen, k ∉ seen
  | [], _ => ⟨.nil, fun _ h => by cases h⟩
  | k :: ks, seen => by
    unfold repsS
    by_cases c : isRing L k ∧ k ∉ seen
    · rw [if_pos c]
      obtain ⟨h1, h2⟩ := reps_apart (L := L) (ks := ks) (seen := seen ++ ringS L k)
      refine ⟨List.pairwise_cons.mpr ⟨fun b hb hm => h2 b hb (List.mem_append_right _ hm), h1⟩, fun x hx => ?_⟩
      rcases List.mem_cons.mp hx with rfl | hx
      · exact c.2
      · exact fun hm => h2 x hx (List.mem_append_left _ hm)
    · rw [if_neg c]
      exact reps_apart
open Classical in
theorem pick_fun {α : Type} {P : α → Nat → Prop} {xs : List α} (h : ∀ x ∈ xs, ∃ j, P x j) : ∃ f : α → Nat, ∀ x ∈ xs, P x (f x) := by
  refine ⟨fun x => if hx : x ∈ xs then (h x hx).choose else 0, fun x hx => ?_⟩
  simp only [hx, dif_pos]
  exact (h x hx).choose_spec
open Classical in
/-- no row of moves that brings the same is shorter -/
theorem low {L M : Prs} {Ks : List Str} (hL : L.length ≤ 10) (kn : (L.map (·.1)).Nodup) (ne : ∀ q ∈ L, q.1 ≠ q.2) (h : ∀ q ∈ L, conts (fun x => x) M q.1 = q.2) (h' : ∀ k, (∀ q ∈ L, q.1 ≠ k) → k ≠ "t" → conts (fun x => x) M k = k)
    (nt : ∀ q ∈ L, q.1 ≠ "t") : L.length + ringsN L Ks ≤ M.length := by
  obtain ⟨f, hf⟩ := pick_fun (xs := L) (P := fun q j => ∃ m, j < M.length ∧ M[j]? = some m ∧ m.1 = q.1 ∧ cAt M j m.2 = q.2) fun q hq => by
    have e := h q hq
    rw [← cAt_end] at e
    obtain ⟨j, m, h1, h2, h3, h4⟩ := was_written (M := M) (k := q.1) M.length (Nat.le_refl _) (by rw [e]; exact fun z => ne q hq z.symm)
    exact ⟨j, m, h1, h2, h3, by rw [h4, e]⟩
  obtain ⟨g, hg⟩ := pick_fun (xs := (repsS L Ks []).filter fun k => decide (pureS L k)) (P := fun k j => ∃ m, j < M.length ∧ M[j]? = some m ∧ m.1 ∉ ringS L k ∧ cAt M j m.2 ∈ ringS L k) fun k hk => by
    obtain ⟨h1, h2⟩ := List.mem_filter.mp hk
    have ring := reps_ring k h1
    refine Classical.byContradiction fun no => ?_
    obtain ⟨e, ch, _⟩ := isRing_ch hL ring
    have st := ring_stays (M := M) (C := ringS L k) ch.nodup (fun j q hq hn hv => no ⟨j, q, (List.getElem?_eq_some_iff.mp hq).1, hq, hn, hv⟩) fun v hv => by
      obtain ⟨b, hb, eb⟩ := ring.pre hL hv
      exact ⟨b, hb, by rw [cAt_end]; exact h _ (getS_mem eb)⟩
    have hk := ch.first
    obtain ⟨b, hb, eb⟩ := ring.img hL hk
    have e1 := st k hk
    rw [cAt_end, h _ (getS_mem eb)] at e1
    exact ne _ (getS_mem eb) e1.symm
  have nd : (L.map f ++ ((repsS L Ks []).filter fun k => decide (pureS L k)).map g).Nodup := by
    refine List.nodup_append.mpr ⟨?_, ?_, ?_⟩
    · have : L.Pairwise fun a b => a.1 ≠ b.1 := List.pairwise_map.mp kn
      refine List.pairwise_map.mpr (this.imp_of_mem fun {a b} ha hb hab z => ?_)
      obtain ⟨m, _, m2, m3, _⟩ := hf a ha
      obtain ⟨m', _, n2, n3, _⟩ := hf b hb
      rw [z, n2] at m2
      cases m2
      exact hab (m3.symm.trans n3)
    · have : ((repsS L Ks []).filter fun k => decide (pureS L k)).Pairwise fun a b => b ∉ ringS L a := (reps_apart (L := L) (ks := Ks) (seen := [])).1.filter _
      refine List.pairwise_map.mpr (this.imp_of_mem fun {a b} ha hb hab z => ?_)
      obtain ⟨m, _, m2, _, m4⟩ := hg a ha
      obtain ⟨m', _, n2, _, n4⟩ := hg b hb
      rw [z, n2] at m2
      cases m2
      rw [z] at m4
      have ra := reps_ring a (List.mem_filter.mp ha).1
      have rb := reps_ring b (List.mem_filter.mp hb).1
      exact hab (ra.same hL rb m4 n4 b ring_self)
    · intro x hx y hy z
      subst z
      obtain ⟨q, hq, e1⟩ := List.mem_map.mp hx
      obtain ⟨k, hk, e2⟩ := List.mem_map.mp hy
      obtain ⟨m, _, m2, m3, m4⟩ := hf q hq
      obtain ⟨m', _, n2, n3, n4⟩ := hg k hk
      rw [e1] at m2 m4
      rw [e2, m2] at n2
      cases n2
      rw [e2, m4] at n4
      have pu := (List.mem_filter.mp hk).2
      rw [decide_eq_true_eq] at pu
      exact n3 (m3 ▸ pu q hq n4)
  have := sub_len (V := List.range M.length) nd fun x hx => by
    rw [List.mem_range]
    rcases List.mem_append.mp hx with z | z
    · obtain ⟨q, hq, rfl⟩ := List.mem_map.mp z
      exact (hf q hq).choose_spec.1
    · obtain ⟨k, hk, rfl⟩ := List.mem_map.mp z
      exact (hg k hk).choose_spec.1
  rw [List.length_append, List.length_map, List.length_map, List.length_range, ← List.countP_eq_length_filter] at this
  exact this
end Co
namespace Co
open PySem L2
theorem len_tup {xs : List D} {s : S} : lenF [.tup xs] s = .ok (.int xs.length) s := by simp [lenF, lenD, seqOf, lstOf]
theorem sl_to {ds : List D} {v : Nat} {s : S} (hv : v ≤ ds.length) (hl : ds.length ≤ 1000) : slF false (.lv ds) none (some (v : Int)) s = .ok (.lv (ds.take v)) s := by
  have z : ds.length ≤ LINE := by rw [line_is]; omega
  have e : cutD ds none (some (v : Int)) = ds.take v := by
    unfold cutD
    rw [HT.sIx_none, HT.sIx_nat, Nat.min_eq_left hv]
    simp
  simp only [slF, lstOf, z, if_true, e]
  exact mkL_lv (by rw [List.length_take]; omega)
theorem sl_from {ds : List D} {v : Nat} {s : S} (hv : v ≤ ds.length) (hl : ds.length ≤ 1000) : slF false (.lv ds) (some (v : Int)) none s = .ok (.lv (ds.drop v)) s := by
  have z : ds.length ≤ LINE := by rw [line_is]; omega
  have e : cutD ds (some (v : Int)) none = ds.drop v := by
    unfold cutD
    rw [HT.sIx_none, HT.sIx_nat, Nat.min_eq_left hv]
    rw [List.take_of_length_le (by rw [List.length_drop]; omega)]
  simp only [slF, lstOf, z, if_true, e]
  exact mkL_lv (by rw [List.length_drop]; omega)
theorem rev_lv {ds : List D} {s : S} (hl : ds.length ≤ 1000) : revF false (.lv ds) s = .ok (.lv ds.reverse) s := by
  have z : ds.length ≤ LINE := by rw [line_is]; omega
  simp only [revF, lstOf, z, if_true]
  exact mkL_lv (by rw [List.length_reverse]; exact hl)
theorem add_lv {xs ys : List D} {s : S} (hl : xs.length + ys.length ≤ 1000) : addF false (.lv xs) (.lv ys) s = .ok (.lv (xs ++ ys)) s := by
  simp only [addF, trkOf]
  exact mkL_lv (by rw [List.length_append]; exact hl)
theorem wp_sl {m : Bool} {ma : ME D} {ml mh : Option (ME D)} {env : Env} {s : S} {Q : D → S → Prop} {E : XP} : wp (slM m ma ml mh env s) Q E = wp (ma env s) (fun x s1 => wp (partM ml env s1) (fun lo s2 => wp (partM mh env s2) (fun hi s3 => wp (slF m x lo hi s3) Q E) E) E) E := by
  unfold slM
  simp only [wp_bd]
theorem wp_pn {env : Env} {s : S} {Q : Option Int → S → Prop} {E : XP} : wp (partM none env s) Q E = Q none s := rfl
theorem wp_ps {m : ME D} {env : Env} {s : S} {Q : Option Int → S → Prop} {E : XP} : wp (partM (some m) env s) Q E = wp (m env s) (fun x s1 => match x with
    | .int i => Q (some i) s1
    | _ => False) E := by
  unfold partM
  rw [wp_bd]
  congr 1
  funext x s1
  cases x <;> rfl
theorem tup_self {M : Prs} {V : List Str} (hV : ∀ x ∈ V, strSh x = true) (h : ∀ q ∈ M, q.1 ∈ V ∧ q.2 ∈ V) (n : Bool) (s : S) : eqF n (.tup (M.map mv)) (.tup (M.map mv)) s = .ok (.bl (if n then false else true)) s := by
  refine eqF_self n rfl (p := .tuple (M.map pmv)) (by simp [pyT, pyD, py_mvs]) ?_ ?_
  · simp only [PyData.canLay0]
    refine canLay_all fun x hx => ?_
    obtain ⟨q, hq, rfl⟩ := List.mem_map.mp hx
    have h1 := hV _ (h q hq).1
    have h2 := hV _ (h q hq).2
    simp only [strSh, Bool.and_eq_true] at h1 h2
    simp only [pmv, PyData.canLay0, PyData.canLayAll0, Bool.and_true, Bool.and_eq_true]
    exact ⟨by simpa only [PyData.canLay0] using h1.2, by simpa only [PyData.canLay0] using h2.2⟩
  · have := (Sh.tup (w := 202) (k := 1) (xs := M.map pmv) fun x hx => by
      obtain ⟨q, hq, rfl⟩ := List.mem_map.mp hx
      exact sh_mv (hV _ (h q hq).1) (hV _ (h q hq).2)).dp
    omega
end Co
namespace K13
open PySem PySem.Spec PyProof.Rows L2 Co
def top (i : Nat) : Stmt := PySem.Challenge.pw_stopsheld_k13_no_shorter_moves.main.body.getD i (.Pass ⟨0, 0, 0, 0⟩)
-- Ordering.__init__, slots ['self', 'moves', 'sources', 'source', 'destination']
def b_Ordering___init : C := (.seq
 (.setF "Ordering" "left" (.var 0) (.dc (.tup [4, 3]) [4, 3] (.it (.var 1)) (.tcmp .ne (.var 4) (.var 3)) (.var 4) (.var 3)))
 (.seq
 (.setF "Ordering" "present" (.var 0) (.lk (.fld "Ordering" "left" (.var 0)) (.dc (.name 3) [3] (.vals (.fld "Ordering" "left" (.var 0))) .yes (.var 3) (.var 3))))
 (.seq
 (.set 2 (.lvals false (.fld "Ordering" "left" (.var 0))))
 (.seq
 (.setF "Ordering" "ready" (.var 0) (.lk (.fld "Ordering" "left" (.var 0)) (.lc true (.name 4) [4] (.it (.fld "Ordering" "left" (.var 0))) (.tcmp .nin (.var 4) (.var 2)) (.var 4))))
 (.seq
 (.setF "Ordering" "made" (.var 0) (.lst true .nil))
 .skip)))))
def d_Ordering___init : Df := ⟨⟨"__init__", (.init "Ordering"), 0, ["self", "moves"]⟩, ["self", "moves", "sources", "source", "destination"], b_Ordering___init, ⟨("Ordering", some "__init__"), "__init__", "Ordering.__init__", defArgs (inClass (top 2) 0), defBody (inClass (top 2) 0), defScope (inClass (top 2) 0), [], []⟩⟩
-- Ordering.make, slots ['self', 'destination', 'source', 'place']
def b_Ordering_make : C := (.seq
 (.set 2 (.pop (.fld "Ordering" "left" (.var 0)) (.var 1)))
 (.seq
 (.set 3 (.ix (.fld "Ordering" "present" (.var 0)) (.var 2)))
 (.seq
 (.ex (.mt .app (.fld "Ordering" "made" (.var 0)) (.cons (.tup (.cons (.var 1) (.cons (.var 3) .nil))) .nil)))
 (.seq
 (.setI (.fld "Ordering" "present" (.var 0)) (.var 2) (.var 1))
 (.seq
 (.ifs (.tand (.tcmp .eq (.var 3) (.var 2)) (.tand1 (.tcmp .in_ (.var 2) (.fld "Ordering" "left" (.var 0))))) (.seq
 (.ex (.mt .app (.fld "Ordering" "ready" (.var 0)) (.cons (.var 2) .nil)))
 .skip) .skip)
 .skip)))))
def d_Ordering_make : Df := ⟨⟨"make", (.meth "Ordering"), 0, ["self", "destination"]⟩, ["self", "destination", "source", "place"], b_Ordering_make, ⟨("Ordering", some "make"), "make", "Ordering.make", defArgs (inClass (top 2) 1), defBody (inClass (top 2) 1), defScope (inClass (top 2) 1), [], []⟩⟩
-- Ordering.part, slots ['self', 'destination']
def b_Ordering_part : C := (.seq
 (.set 1 (.ix (.blt .lst false (.cons (.fld "Ordering" "left" (.var 0)) .nil)) (.int 0)))
 (.seq
 (.ex (.mt .app (.fld "Ordering" "made" (.var 0)) (.cons (.tup (.cons (.gl 0) (.cons (.var 1) .nil))) .nil)))
 (.seq
 (.setI (.fld "Ordering" "present" (.var 0)) (.var 1) (.gl 0))
 (.seq
 (.ex (.mt .app (.fld "Ordering" "ready" (.var 0)) (.cons (.var 1) .nil)))
 .skip))))
def d_Ordering_part : Df := ⟨⟨"part", (.meth "Ordering"), 0, ["self"]⟩, ["self", "destination"], b_Ordering_part, ⟨("Ordering", some "part"), "part", "Ordering.part", defArgs (inClass (top 2) 2), defBody (inClass (top 2) 2), defScope (inClass (top 2) 2), [], []⟩⟩
-- _law_cell, slots ['_law_script', '_law_k']
def b_law_cell : C := (.seq
 (.ifs (.tcmp .lt (.var 1) (.blt .len false (.cons (.var 0) .nil))) (.seq
 (.ret (.ix (.var 0) (.var 1)))
 .skip) .skip)
 (.seq
 (.ret (.int 0))
 .skip))
def d_law_cell : Df := ⟨⟨"_law_cell", .fn, 0, ["_law_script", "_law_k"]⟩, ["_law_script", "_law_k"], b_law_cell, ⟨("_law_cell", none), "_law_cell", "_law_cell", defArgs (top 6), defBody (top 6), defScope (top 6), [], []⟩⟩
-- _law_draw, slots ['_law_box', '_law_many', '_law_at']
def b_law_draw : C := (.seq
 (.set 2 (.ix (.var 0) (.int 1)))
 (.seq
 (.setI (.var 0) (.int 1) (.bin .add false (.var 2) (.int 1)))
 (.seq
 (.ifs (.tcmp .lt (.var 2) (.blt .len false (.cons (.ix (.var 0) (.int 0)) .nil))) (.seq
 (.ret (.bin .mod false (.blt .int false (.cons (.ix (.ix (.var 0) (.int 0)) (.var 2)) .nil)) (.var 1)))
 .skip) .skip)
 (.seq
 (.ret (.bin .mod false (.blt .int false (.cons (.bin .add false (.bin .mul false (.var 2) (.int 7)) (.int 3)) .nil)) (.var 1)))
 .skip))))
def d_law_draw : Df := ⟨⟨"_law_draw", .fn, 0, ["_law_box", "_law_many"]⟩, ["_law_box", "_law_many", "_law_at"], b_law_draw, ⟨("_law_draw", none), "_law_draw", "_law_draw", defArgs (top 10), defBody (top 10), defScope (top 10), [], []⟩⟩
-- _law_is_done, slots ['_law_moves_here', '_law_row', '_law_table', '_law_places', '_law_k']
def b_law_is_done : C := (.seq
 (.set 2 (.blt .dict false (.cons (.var 0) .nil)))
 (.seq
 (.set 3 (.lst false (.cons (.str "r0") (.cons (.str "r1") (.cons (.str "r2") (.cons (.str "r3") .nil))))))
 (.seq
 (.ret (.cmp .eq (.blt .len false (.cons (.lc false (.name 4) [4] (.rng1 (.int 4)) (.tcmp .ne (.ix (.var 1) (.var 4)) (.mt .idx (.var 3) (.cons (.get2 (.var 2) (.ix (.var 3) (.var 4)) (.ix (.var 3) (.var 4))) .nil))) (.var 4)) .nil)) (.int 0)))
 .skip)))
def d_law_is_done : Df := ⟨⟨"_law_is_done", .fn, 0, ["_law_moves_here", "_law_row"]⟩, ["_law_moves_here", "_law_row", "_law_table", "_law_places", "_law_k"], b_law_is_done, ⟨("_law_is_done", none), "_law_is_done", "_law_is_done", defArgs (top 12), defBody (top 12), defScope (top 12), [], []⟩⟩
-- _law_next, slots ['_law_rows', '_law_found', '_law_row', '_law_to', '_law_source']
def b_law_next_l3 : C := (.seq
 (.ifs (.tcmp .ne (.var 3) (.var 4)) (.seq
 (.setI (.var 1) (.bin .add false (.bin .add false (.sl false (.var 2) .abs (.var 3)) (.tup (.cons (.ix (.var 2) (.var 4)) .nil))) (.sl false (.var 2) (.bin .add false (.var 3) (.int 1)) .abs)) (.bl true))
 .skip) .skip)
 .skip)
def b_law_next_l2 : C := (.seq
 (.fors (.name 4) (.rng1 (.int 5)) b_law_next_l3)
 .skip)
def b_law_next_l1 : C := (.seq
 (.fors (.name 3) (.rng1 (.int 5)) b_law_next_l2)
 .skip)
def b_law_next : C := (.seq
 (.set 1 .dnewT)
 (.seq
 (.lks (.var 0) (.fors (.name 2) (.it (.var 0)) b_law_next_l1))
 (.seq
 (.ret (.var 1))
 .skip)))
def d_law_next : Df := ⟨⟨"_law_next", .fn, 0, ["_law_rows"]⟩, ["_law_rows", "_law_found", "_law_row", "_law_to", "_law_source"], b_law_next, ⟨("_law_next", none), "_law_next", "_law_next", defArgs (top 13), defBody (top 13), defScope (top 13), [], []⟩⟩
-- Ordering.make_all, slots ['self']
def b_Ordering_make_all_l1 : C := (.seq
 (.ifs (.tnot (.tru (.fld "Ordering" "ready" (.var 0)))) (.seq
 (.ex (.meth "Ordering" "part" 2 (.var 0) .nil))
 .skip) .skip)
 (.seq
 (.ex (.meth "Ordering" "make" 1 (.var 0) (.cons (.pop (.fld "Ordering" "ready" (.var 0)) (.int 0)) .nil)))
 .skip))
def b_Ordering_make_all : C := (.seq
 (.whl (.tru (.fld "Ordering" "left" (.var 0))) b_Ordering_make_all_l1)
 (.seq
 (.ret (.blt .tup false (.cons (.fld "Ordering" "made" (.var 0)) .nil)))
 .skip))
def d_Ordering_make_all : Df := ⟨⟨"make_all", (.meth "Ordering"), 1, ["self"]⟩, ["self"], b_Ordering_make_all, ⟨("Ordering", some "make_all"), "make_all", "Ordering.make_all", defArgs (inClass (top 2) 3), defBody (inClass (top 2) 3), defScope (inClass (top 2) 3), [], []⟩⟩
-- _law_digits, slots ['_law_script', '_law_first', '_law_last', '_law_digits_here', '_law_k', '_law_cell_here', '_law_turn', '_law_seed']
def b_law_digits_l2 : C := (.seq
 (.ifs (.tcmp .gt (.var 5) (.int 0)) (.seq
 (.ex (.mt .app (.var 3) (.cons (.bin .mod false (.blt .int false (.cons (.var 5) .nil)) (.int 1000)) .nil)))
 (.seq
 (.set 5 (.bin .fdiv false (.var 5) (.int 1000)))
 .skip)) .skip)
 .skip)
def b_law_digits_l3 : C := (.seq
 (.set 7 (.bin .mod false (.blt .int false (.cons (.bin .add false (.bin .add false (.bin .mul false (.var 7) (.int 16807)) (.bin .mul false (.int 7) (.var 6))) (.int 1)) .nil)) (.int 2147483647)))
 (.seq
 (.ex (.mt .app (.var 3) (.cons (.bin .mod false (.blt .int false (.cons (.bin .fdiv false (.var 7) (.int 997)) .nil)) (.int 1000)) .nil)))
 .skip))
def b_law_digits_l1 : C := (.seq
 (.set 5 (.call 3 (.cons (.var 0) (.cons (.var 4) .nil))))
 (.seq
 (.ifs (.tcmp .lt (.var 5) (.int 0)) (.seq
 (.set 5 (.bin .sub false (.int 1) (.bin .mul false (.int 2) (.var 5))))
 .skip) .skip)
 (.seq
 (.ifs (.tcmp .ge (.var 5) (.bin .pow false (.int 10) (.int 18))) (.seq
 (.fors (.name 6) (.rng1 (.int 60)) b_law_digits_l2)
 .skip) (.seq
 (.set 7 (.bin .mod false (.blt .int false (.cons (.bin .add false (.bin .add false (.bin .mul false (.var 5) (.int 48271)) (.bin .mul false (.var 4) (.int 69621))) (.int 11)) .nil)) (.int 2147483647)))
 (.seq
 (.fors (.name 6) (.rng1 (.int 12)) b_law_digits_l3)
 .skip)))
 .skip)))
def b_law_digits : C := (.seq
 (.set 3 (.lst true .nil))
 (.seq
 (.fors (.name 4) (.rng2 (.var 1) (.var 2)) b_law_digits_l1)
 (.seq
 (.ret (.frz (.var 3)))
 .skip)))
def d_law_digits : Df := ⟨⟨"_law_digits", .fn, 1, ["_law_script", "_law_first", "_law_last"]⟩, ["_law_script", "_law_first", "_law_last", "_law_digits_here", "_law_k", "_law_cell_here", "_law_turn", "_law_seed"], b_law_digits, ⟨("_law_digits", none), "_law_digits", "_law_digits", defArgs (top 9), defBody (top 9), defScope (top 9), [], []⟩⟩
-- _law_moves, slots ['_law_box', '_law_kind', '_law_places', '_law_found', '_law_k']
def b_law_moves_l1 : C := (.seq
 (.ex (.mt .app (.var 3) (.cons (.tup (.cons (.pop (.var 2) (.call 4 (.cons (.var 0) (.cons (.blt .len false (.cons (.var 2) .nil)) .nil)))) (.cons (.ix (.lst false (.cons (.str "r0") (.cons (.str "r1") (.cons (.str "r2") (.cons (.str "r3") .nil))))) (.call 4 (.cons (.var 0) (.cons (.int 4) .nil)))) .nil))) .nil)))
 .skip)
def b_law_moves : C := (.seq
 (.set 1 (.call 4 (.cons (.var 0) (.cons (.int 3) .nil))))
 (.seq
 (.ifs (.tcmp .eq (.var 1) (.int 0)) (.seq
 (.ret (.ctup (.cons (.tup (.cons (.str "r0") (.cons (.str "r1") .nil))) (.cons (.tup (.cons (.str "r1") (.cons (.str "r0") .nil))) .nil))))
 .skip) .skip)
 (.seq
 (.ifs (.tcmp .eq (.var 1) (.int 1)) (.seq
 (.ret (.ctup (.cons (.tup (.cons (.str "r0") (.cons (.str "r1") .nil))) (.cons (.tup (.cons (.str "r1") (.cons (.str "r2") .nil))) (.cons (.tup (.cons (.str "r2") (.cons (.str "r0") .nil))) .nil)))))
 .skip) .skip)
 (.seq
 (.set 2 (.lst true (.cons (.str "r0") (.cons (.str "r1") (.cons (.str "r2") (.cons (.str "r3") .nil))))))
 (.seq
 (.set 3 (.lst true .nil))
 (.seq
 (.fors (.name 4) (.rng1 (.call 4 (.cons (.var 0) (.cons (.int 4) .nil)))) b_law_moves_l1)
 (.seq
 (.ret (.blt .tup true (.cons (.var 3) .nil)))
 .skip)))))))
def d_law_moves : Df := ⟨⟨"_law_moves", .fn, 1, ["_law_box"]⟩, ["_law_box", "_law_kind", "_law_places", "_law_found", "_law_k"], b_law_moves, ⟨("_law_moves", none), "_law_moves", "_law_moves", defArgs (top 11), defBody (top 11), defScope (top 11), [], []⟩⟩
-- order_moves, slots ['moves']
def b_order_moves : C := (.seq
 (.ret (.meth "Ordering" "make_all" 7 (.mk "Ordering" 0 (.cons (.var 0) .nil)) .nil))
 .skip)
def d_order_moves : Df := ⟨⟨"order_moves", .fn, 2, ["moves"]⟩, ["moves"], b_order_moves, ⟨("order_moves", none), "order_moves", "order_moves", defArgs (top 3), defBody (top 3), defScope (top 3), [], []⟩⟩
-- law, slots ['_law_script', '_law_box', '_law_moves_here', '_law_many', '_law_rows', '_law_turn', '_law_row']
def b_law_l1 : C := (.seq
 (.ifs (.tcmp .gt (.blt .len false (.cons (.lk (.var 4) (.lc false (.name 6) [6] (.it (.var 4)) (.tru (.call 5 (.cons (.var 2) (.cons (.var 6) .nil)))) (.var 6))) .nil)) (.int 0)) (.seq
 (.ret (.bl false))
 .skip) .skip)
 (.seq
 (.set 4 (.call 6 (.cons (.var 4) .nil)))
 .skip))
def b_law : C := (.seq
 (.set 1 (.lst true (.cons (.call 8 (.cons (.var 0) (.cons (.int 0) (.cons (.int 20) .nil)))) (.cons (.int 0) .nil))))
 (.seq
 (.set 2 (.call 9 (.cons (.var 1) .nil)))
 (.seq
 (.set 3 (.blt .len false (.cons (.call 10 (.cons (.var 2) .nil)) .nil)))
 (.seq
 (.set 4 (.dspT (.tup (.cons (.int 0) (.cons (.int 1) (.cons (.int 2) (.cons (.int 3) (.cons (.int 4) .nil)))))) (.bl true)))
 (.seq
 (.fors (.name 5) (.rng1 (.blt .min2 false (.cons (.var 3) (.cons (.int 4) .nil)))) b_law_l1)
 (.seq
 (.ret (.vor (.cmp .gt (.blt .len false (.cons (.lk (.var 4) (.lc false (.name 6) [6] (.it (.var 4)) (.tru (.call 5 (.cons (.var 2) (.cons (.var 6) .nil)))) (.var 6))) .nil)) (.int 0)) (.v1 (.cmp .gt (.var 3) (.int 4)))))
 .skip))))))
def d_law : Df := ⟨⟨"law", .fn, 3, ["_law_script"]⟩, ["_law_script", "_law_box", "_law_moves_here", "_law_many", "_law_rows", "_law_turn", "_law_row"], b_law, ⟨("law", none), "law", "law", defArgs (top 14), defBody (top 14), defScope (top 14), [], []⟩⟩
def ds : List Df := [d_Ordering___init, d_Ordering_make, d_Ordering_part, d_law_cell, d_law_draw, d_law_is_done, d_law_next, d_Ordering_make_all, d_law_digits, d_law_moves, d_order_moves, d_law]
def gls : List Str := ["SCRATCH"]
def G : Nat → D
  | 0 => .str "t"
  | _ => .non
def frees : List Str := ["list", "len", "int", "range", "dict", "tuple", "min"]
def nats : List (Str × Str) := [("Ordering", "made"), ("Ordering", "ready"), ("Ordering", "left"), ("Ordering", "present")]
def fa : List He.Fa := [.glo "_law_cell", .glo "_law_draw", .glo "_law_is_done", .glo "_law_next", .glo "_law_digits", .glo "_law_moves", .glo "order_moves", .glo "law", .glo "Ordering", .cls "Ordering", .mkr "Ordering", .meth "Ordering" "make", .meth "Ordering" "part", .meth "Ordering" "make_all", .noat "Ordering" "made", .noat "Ordering" "ready", .noat "Ordering" "left", .noat "Ordering" "present", .free "list", .free "len", .free "int", .free "range", .free "dict", .free "tuple", .free "min", .str "SCRATCH" "t"]
def fn : List He.DefD := ds.map (·.d)
def loose : List PySem.Str := [("SCRATCH" : PySem.Str), ("Ordering" : PySem.Str), ("order_moves" : PySem.Str), ("_law_is_integer" : PySem.Str), ("_law_cell" : PySem.Str), ("_law_list_is" : PySem.Str), ("_law_same" : PySem.Str), ("_law_digits" : PySem.Str), ("_law_draw" : PySem.Str), ("_law_moves" : PySem.Str), ("_law_is_done" : PySem.Str), ("_law_next" : PySem.Str)]
abbrev RowO : PySem.W.OpenRow := PySem.W.OpenLaw.row PySem.Challenge.rw_stopsheld_k13_no_shorter_moves
abbrev hk : PySem.W.Hook := He.hookD 6 fa fn
def ob (s : PySem.W.SharedT) : He.AlD := He.obsDG 6 fa fn (HandSHeadRun.getT s)
theorem ob_eq (s : PySem.W.SharedT) : ob s = hk.obs s.abs := He.obsDG_eq (HandSHeadRun.getT_eq s)
theorem run (w : World) : HandSHeadRun.RunEq RowO (PySem.W.view RowO.prog [14]) hk ob 1500 loose w := by
  intro os
  kernel_rfl
theorem checked : ∀ d ∈ ds, okD gls frees nats (ds.map (·.fi)) d = true := by decide +kernel
theorem nfacts {K : PySem.W.Frag} {mg : PySem.Str → Option Value} {h : Heap} (X : K.In h) (N : h.Ns mainGlobals mg) (c : He.SaysD fa fn K) : NFacts gls frees nats G K mg where
  gls := fun k x e => by
    match k, e with
    | 0, e => cases e; obtain ⟨t, ht⟩ := He.str_ok X N (c.fact 25 (f := .str "SCRATCH" "t") rfl); exact ⟨_, .str "t", ht, ⟨t, rfl⟩, fun _ _ => rfl⟩
    | n + 1, e => exact absurd (show ([] : List PySem.Str)[n]? = some x from e) (by simp)
  frees := fun x hx => by
    simp only [frees, List.mem_cons, List.mem_nil_iff, or_false] at hx
    rcases hx with rfl | rfl | rfl | rfl | rfl | rfl | rfl
    · exact He.free_ok X N (c.fact 18 (f := .free "list") rfl)
    · exact He.free_ok X N (c.fact 19 (f := .free "len") rfl)
    · exact He.free_ok X N (c.fact 20 (f := .free "int") rfl)
    · exact He.free_ok X N (c.fact 21 (f := .free "range") rfl)
    · exact He.free_ok X N (c.fact 22 (f := .free "dict") rfl)
    · exact He.free_ok X N (c.fact 23 (f := .free "tuple") rfl)
    · exact He.free_ok X N (c.fact 24 (f := .free "min") rfl)
  nats := fun p hp => by
    simp only [nats, List.mem_cons, List.mem_nil_iff, or_false] at hp
    rcases hp with rfl | rfl | rfl | rfl
    · exact ⟨He.cls_ok (c.fact 9 (f := .cls "Ordering") rfl), He.noat_ok (c.fact 14 (f := .noat "Ordering" "made") rfl)⟩
    · exact ⟨He.cls_ok (c.fact 9 (f := .cls "Ordering") rfl), He.noat_ok (c.fact 15 (f := .noat "Ordering" "ready") rfl)⟩
    · exact ⟨He.cls_ok (c.fact 9 (f := .cls "Ordering") rfl), He.noat_ok (c.fact 16 (f := .noat "Ordering" "left") rfl)⟩
    · exact ⟨He.cls_ok (c.fact 9 (f := .cls "Ordering") rfl), He.noat_ok (c.fact 17 (f := .noat "Ordering" "present") rfl)⟩
theorem kinds {K : PySem.W.Frag} {mg : PySem.Str → Option Value} {h : Heap} (X : K.In h) (N : h.Ns mainGlobals mg) (c : He.SaysD fa fn K) : ∀ d ∈ ds, KindOk K mg d.fi := by
  intro d hd
  simp only [ds, List.mem_cons, List.mem_nil_iff, or_false] at hd
  rcases hd with rfl | rfl | rfl | rfl | rfl | rfl | rfl | rfl | rfl | rfl | rfl | rfl
  · exact ⟨He.mkr_ok (c.fact 10 (f := .mkr "Ordering") rfl), He.glo_ok X N (c.fact 8 (f := .glo "Ordering") rfl)⟩
  · exact ⟨He.cls_ok (c.fact 9 (f := .cls "Ordering") rfl), He.meth_ok (c.fact 11 (f := .meth "Ordering" "make") rfl)⟩
  · exact ⟨He.cls_ok (c.fact 9 (f := .cls "Ordering") rfl), He.meth_ok (c.fact 12 (f := .meth "Ordering" "part") rfl)⟩
  · exact He.glo_ok X N (c.fact 0 (f := .glo "_law_cell") rfl)
  · exact He.glo_ok X N (c.fact 1 (f := .glo "_law_draw") rfl)
  · exact He.glo_ok X N (c.fact 2 (f := .glo "_law_is_done") rfl)
  · exact He.glo_ok X N (c.fact 3 (f := .glo "_law_next") rfl)
  · exact ⟨He.cls_ok (c.fact 9 (f := .cls "Ordering") rfl), He.meth_ok (c.fact 13 (f := .meth "Ordering" "make_all") rfl)⟩
  · exact He.glo_ok X N (c.fact 4 (f := .glo "_law_digits") rfl)
  · exact He.glo_ok X N (c.fact 5 (f := .glo "_law_moves") rfl)
  · exact He.glo_ok X N (c.fact 6 (f := .glo "order_moves") rfl)
  · exact He.glo_ok X N (c.fact 7 (f := .glo "law") rfl)
theorem funs {K : PySem.W.Frag} (c : He.SaysD fa fn K) : ∀ d ∈ ds, ∃ fd, FunD K d.d.name d.d.qual d.d.params d.d.body d.d.scope (d.d.dvs K) (d.d.kws K) (He.fAd K d.d.at_) fd := by
  intro d hd
  obtain ⟨i, hi⟩ := List.getElem?_of_mem hd
  exact c.def_ i (d := d.d) (by show (ds.map (·.d))[i]? = _; rw [List.getElem?_map, hi]; rfl)
end K13
namespace K13
open PySem L2 Co
theorem cell_ok (j : Nat) (hj : j = 3) : CellF (mean ds G) j := by
  subst hj
  intro ns k s Q E w h0 hQ
  rw [mean_eq (d := d_law_cell) rfl]
  exact cell_gen ns k s w h0 hQ
theorem cellB_ok {k : Nat} (hk : 0 < k) : CellF (meanB ds G k) 3 := by
  intro ns i s Q E w h0 hQ
  rw [meanB_eq (by show 0 < k; exact hk)]
  exact cell_ok 3 rfl ns i s Q E w h0 hQ
theorem draw_ok {k : Nat} (hk : 0 < k) : DrawF (meanB ds G k) 4 := by
  intro s a w hb m hm Q E hQ
  rw [meanB_eq (by show 0 < k; exact hk), mean_eq (d := d_law_draw) rfl]
  exact draw_gen w hb m hm hQ
theorem digits_ok (ns : List Int) (n : Nat) (hn : n ≤ 1000) (s : S) (w : s.Wf) {Q : D → S → Prop} {E : XP} (hQ : ∀ ms : List Int, Q (.lv (ms.map .int)) s) : wp (mean ds G 8 [.sc (ns.map .int), .int 0, .int n] s) Q E := by
  rw [mean_eq (d := d_law_digits) rfl]
  exact dig_gen (j := 3) (cellB_ok (by decide)) ns n hn s w hQ
theorem make_ok {k : Nat} (hk : 0 < k) : MakeF (meanB ds G k) 1 := by
  intro s o l p r m t d src x h h1 h2 hR hM hP Q E hQ
  rw [meanB_eq (by show 0 < k; exact hk), mean_eq (d := d_Ordering_make) rfl]
  exact make_gen h h1 h2 hR hM hP hQ
theorem part_ok {k : Nat} (hk : 0 < k) : PartF (meanB ds G k) 2 := by
  intro s o l p r m t h hL hl hR hM hP Q E hQ
  rw [meanB_eq (by show 0 < k; exact hk), mean_eq (d := d_Ordering_part) rfl]
  exact part_gen rfl h hL hl hR hM hP hQ
theorem init_ok {k : Nat} (hk : 0 < k) : InitF (meanB ds G k) 0 := by
  intro s w X ms hX hn hl Q E hQ
  rw [meanB_eq (by show 0 < k; exact hk), mean_eq (d := d_Ordering___init) rfl]
  exact init_gen w hX hn hl hQ
theorem all_ok {k : Nat} (hk : 1 < k) : AllF (meanB ds G k) 7 := by
  intro s o l p r m L hl kn ne nt h Q E hQ
  rw [meanB_eq (by show 1 < k; exact hk), mean_eq (d := d_Ordering_make_all) rfl]
  exact all_gen (jp := 2) (jm := 1) (part_ok (by decide)) (make_ok (by decide)) hl kn ne nt h hQ
theorem order_ok {k : Nat} (hk : 2 < k) {s : S} (w : s.Wf) {X : D} {ms : Prs} (hX : ∀ s, anyIt X s = .ok (ms.map mv, none) s) (hn : (ms.map (·.1)).Nodup) (hl : ms.length ≤ 10) (nt : ∀ q ∈ ms, q.1 ≠ "t") {Q : D → S → Prop} {E : XP}
    (hQ : Q (.tup ((ordS (movS ms)).map mv)) s) : wp (meanB ds G k 10 [X] s) Q E := by
  rw [meanB_eq (by show 2 < k; exact hk), mean_eq (d := d_order_moves) rfl]
  exact order_gen (ja := 7) (ji := 0) (init_ok (by decide)) (all_ok (by decide)) w hX hn hl nt hQ
end K13
namespace K13
open PySem L2 Co
def names4 : List Str := ["r0", "r1", "r2", "r3"]
structure MvOk (ms : Prs) : Prop where
  nd : (ms.map (·.1)).Nodup
  len : ms.length ≤ 3
  to_ : ∀ q ∈ ms, q.1 ∈ names4
  src : ∀ q ∈ ms, q.2 ∈ names4
def ringP2 : Prs := [("r0", "r1"), ("r1", "r0")]
def ringP3 : Prs := [("r0", "r1"), ("r1", "r2"), ("r2", "r0")]
theorem ok2 : MvOk ringP2 := ⟨by decide, by decide, by decide, by decide⟩
theorem ok3 : MvOk ringP3 := ⟨by decide, by decide, by decide, by decide⟩
section
variable {s0 s : S} {a b c : Nat} {P : List Str} {M : Prs} {x1 x4 : Option D}
theorem mv_turn {k : Nat} (hk : 0 < k) (h : MvAt s0 s a b c P M) (hP : 0 < P.length) (hP2 : P.length ≤ 100) (hM : M.length ≤ 100) {Q : QS}
    (hQ : ∀ s' (i : Nat) (d : Str) (src : Str), P[i]? = some d → src ∈ names4 → MvAt s0 s' a b c (P.eraseIdx i) (M ++ [(d, src)]) → Q .nx [some (.ref a), x1, some (.ref b), some (.ref c), x4] s') :
    wps ((ev (meanB ds G k) G b_law_moves_l1).s [some (.ref a), x1, some (.ref b), some (.ref c), x4] s) Q := by
  simp only [b_law_moves_l1, ev, wps_seq, wps_if, wps_ret, wps_nx, wps_fl, wps_expr, wps_set, wps_setT, wps_setI, wps_setF, wps_lks, wp_bool, wp_tru, wp_notM, wp_andM, wp_orM, wp_ifM, wp_op2, wp_op1, wp_arg, wp_cons, wp_nil, wp_lit, wp_mth, wp_meth, wp_mk, wp_pop, wp_get2, wp_lck, wp_v, wp_ok, wps_ok, List.map_cons, List.map_nil, List.length_cons, List.length_nil, Nat.zero_add, Nat.reduceAdd, Nat.reduceSub, List.replicate_zero, List.replicate_succ, List.cons_append, List.nil_append, List.append_nil, List.getElem?_cons_zero, List.getElem?_cons_succ, List.set_cons_zero, List.set_cons_succ, blF, mtF, opF, cmF, f_add, f_sub, f_mul, f_mod, f_fdiv, f_pow, f_lt, f_le, f_gt, f_ge, f_eqi, f_eqs, f_int, f_neg, upd_heap, upd_next, all_heap, all_next, Bool.false_eq_true, if_true, if_false, decide_eq_true_eq, Nat.sub_self]
  have e2 : isLst (.ref c) s = true := by simp [isLst, lstOf, h.hc]
  have e3 : isLst (.ref b) s = true := by simp [isLst, lstOf, h.hb]
  simp only [e2, e3, if_true]
  rw [len_ref h.hb]
  simp only [ev, wps_seq, wps_if, wps_ret, wps_nx, wps_fl, wps_expr, wps_set, wps_setT, wps_setI, wps_setF, wps_lks, wp_bool, wp_tru, wp_notM, wp_andM, wp_orM, wp_ifM, wp_op2, wp_op1, wp_arg, wp_cons, wp_nil, wp_lit, wp_mth, wp_meth, wp_mk, wp_pop, wp_get2, wp_lck, wp_v, wp_ok, wps_ok, List.map_cons, List.map_nil, List.length_cons, List.length_nil, Nat.zero_add, Nat.reduceAdd, Nat.reduceSub, List.replicate_zero, List.replicate_succ, List.cons_append, List.nil_append, List.append_nil, List.getElem?_cons_zero, List.getElem?_cons_succ, List.set_cons_zero, List.set_cons_succ, blF, mtF, opF, cmF, f_add, f_sub, f_mul, f_mod, f_fdiv, f_pow, f_lt, f_le, f_gt, f_ge, f_eqi, f_eqs, f_int, f_neg, upd_heap, upd_next, all_heap, all_next, Bool.false_eq_true, if_true, if_false, decide_eq_true_eq, Nat.sub_self, List.length_map]
  refine draw_ok hk h.wf h.box _ (by omega) fun v t h0 h1 af => ?_
  have ht := h.after af
  have hi : v.toNat < P.length := by omega
  have hd : P[v.toNat]? = some P[v.toNat] := List.getElem?_eq_getElem hi
  have e4 : pop1F (.ref b) [.int v] t = .ok (.str P[v.toNat]) (t.upd b (.lst ((P.eraseIdx v.toNat).map .str))) := by
    have z : Ix63 v := ⟨by have : (-(2 : Int) ^ 63) ≤ 0 := by decide
                           omega, by have : (1000 : Int) < 2 ^ 63 := by decide
                                     omega⟩
    have q : seqIndex? v (P.map D.str).length = some v.toNat := by
      unfold seqIndex?
      rw [List.length_map]
      simp
      omega
    have y : (P.map D.str)[v.toNat]? = some (.str P[v.toNat]) := by rw [List.getElem?_map, hd]; rfl
    simp only [pop1F, hlOf, ht.hb, z, if_true, q, y]
    rw [erase_map]
  simp only [e4, ev, wps_seq, wps_if, wps_ret, wps_nx, wps_fl, wps_expr, wps_set, wps_setT, wps_setI, wps_setF, wps_lks, wp_bool, wp_tru, wp_notM, wp_andM, wp_orM, wp_ifM, wp_op2, wp_op1, wp_arg, wp_cons, wp_nil, wp_lit, wp_mth, wp_meth, wp_mk, wp_pop, wp_get2, wp_lck, wp_v, wp_ok, wps_ok, List.map_cons, List.map_nil, List.length_cons, List.length_nil, Nat.zero_add, Nat.reduceAdd, Nat.reduceSub, List.replicate_zero, List.replicate_succ, List.cons_append, List.nil_append, List.append_nil, List.getElem?_cons_zero, List.getElem?_cons_succ, List.set_cons_zero, List.set_cons_succ, blF, mtF, opF, cmF, f_add, f_sub, f_mul, f_mod, f_fdiv, f_pow, f_lt, f_le, f_gt, f_ge, f_eqi, f_eqs, f_int, f_neg, upd_heap, upd_next, all_heap, all_next, Bool.false_eq_true, if_true, if_false, decide_eq_true_eq, Nat.sub_self]
  obtain ⟨n1, n2, n3⟩ := ht.ne
  obtain ⟨l1, l2, l3⟩ := ht.lt
  generalize hs3 : t.upd b (.lst ((P.eraseIdx v.toNat).map .str)) = t3
  have c3 : t3.heap c = some (.lst (M.map mv)) := by rw [← hs3, upd_heap, if_neg (Ne.symm n3)]; exact ht.hc
  have at3 : MvAt s0 t3 a b c (P.eraseIdx v.toNat) M := by
    rw [← hs3]
    refine ⟨ht.wf.upd (ht.wf.lt ht.hb) (below_strs _ _), ?_, by rw [upd_heap, if_pos rfl], by rw [upd_heap, if_neg (Ne.symm n3)]; exact ht.hc, ht.ne, ht.lt, fun x hx hn => ?_⟩
    · obtain ⟨ns, k, h1, h2⟩ := ht.box
      exact ⟨ns, k, by rw [upd_heap, if_neg n1]; exact h1, h2⟩
    · rw [upd_heap, if_neg (by omega)]
      exact ht.same x hx hn
  rw [mkL_lv (by decide)]
  simp only [ev, wps_seq, wps_if, wps_ret, wps_nx, wps_fl, wps_expr, wps_set, wps_setT, wps_setI, wps_setF, wps_lks, wp_bool, wp_tru, wp_notM, wp_andM, wp_orM, wp_ifM, wp_op2, wp_op1, wp_arg, wp_cons, wp_nil, wp_lit, wp_mth, wp_meth, wp_mk, wp_pop, wp_get2, wp_lck, wp_v, wp_ok, wps_ok, List.map_cons, List.map_nil, List.length_cons, List.length_nil, Nat.zero_add, Nat.reduceAdd, Nat.reduceSub, List.replicate_zero, List.replicate_succ, List.cons_append, List.nil_append, List.append_nil, List.getElem?_cons_zero, List.getElem?_cons_succ, List.set_cons_zero, List.set_cons_succ, blF, mtF, opF, cmF, f_add, f_sub, f_mul, f_mod, f_fdiv, f_pow, f_lt, f_le, f_gt, f_ge, f_eqi, f_eqs, f_int, f_neg, upd_heap, upd_next, all_heap, all_next, Bool.false_eq_true, if_true, if_false, decide_eq_true_eq, Nat.sub_self]
  refine draw_ok hk at3.wf at3.box _ (by omega) fun u t4 g0 g1 af4 => ?_
  have at4 := at3.after af4
  have e1 : ixF (.lv [.str "r0", .str "r1", .str "r2", .str "r3"]) (.int u) t4 = .ok (.str (names4.getD u.toNat "r0")) t4 := by
    have : ([D.str "r0", .str "r1", .str "r2", .str "r3"] : List D)[u.toNat]? = some (.str (names4.getD u.toNat "r0")) := by
      have q : ([D.str "r0", .str "r1", .str "r2", .str "r3"] : List D) = names4.map .str := rfl
      rw [q, List.getElem?_map, List.getD, List.getElem?_eq_getElem (by show u.toNat < 4; omega)]
      rfl
    simp only [ixF, seqOf, lstOf, Co.atI_nat g0, this]
  have e5 : appF (.ref c) [.tup [.str P[v.toNat], .str (names4.getD u.toNat "r0")]] t4 = _ := LoAt.app (q := (P[v.toNat], names4.getD u.toNat "r0")) at4.hc (by omega)
  simp only [e1, mkT2, e5, ev, wps_seq, wps_if, wps_ret, wps_nx, wps_fl, wps_expr, wps_set, wps_setT, wps_setI, wps_setF, wps_lks, wp_bool, wp_tru, wp_notM, wp_andM, wp_orM, wp_ifM, wp_op2, wp_op1, wp_arg, wp_cons, wp_nil, wp_lit, wp_mth, wp_meth, wp_mk, wp_pop, wp_get2, wp_lck, wp_v, wp_ok, wps_ok, List.map_cons, List.map_nil, List.length_cons, List.length_nil, Nat.zero_add, Nat.reduceAdd, Nat.reduceSub, List.replicate_zero, List.replicate_succ, List.cons_append, List.nil_append, List.append_nil, List.getElem?_cons_zero, List.getElem?_cons_succ, List.set_cons_zero, List.set_cons_succ, blF, mtF, opF, cmF, f_add, f_sub, f_mul, f_mod, f_fdiv, f_pow, f_lt, f_le, f_gt, f_ge, f_eqi, f_eqs, f_int, f_neg, upd_heap, upd_next, all_heap, all_next, Bool.false_eq_true, if_true, if_false, decide_eq_true_eq, Nat.sub_self]
  refine hQ _ v.toNat P[v.toNat] (names4.getD u.toNat "r0") hd ?_ ?_
  · rw [List.getD, List.getElem?_eq_getElem (by show u.toNat < 4; omega)]
    exact List.getElem_mem _
  · refine ⟨at4.wf.upd (at4.wf.lt at4.hc) (below_mvs t4.next (M ++ [(P[v.toNat], names4.getD u.toNat "r0")])), ?_, ?_, by rw [upd_heap, if_pos rfl], at4.ne, at4.lt, fun x hx hn => ?_⟩
    · obtain ⟨ns, k, h1, h2⟩ := at4.box
      exact ⟨ns, k, by rw [upd_heap, if_neg n2]; exact h1, h2⟩
    · rw [upd_heap, if_neg n3]; exact at4.hb
    · rw [upd_heap, if_neg (by omega)]
      exact at4.same x hx hn
theorem mkC_ok {xs : List D} (h : xs.length ≤ 1000) {s : S} : mkC true xs s = .ok (.ct xs) s := by
  have z : xs.length ≤ LINE := by rw [line_is]; omega
  simp only [mkC, z, if_true]
theorem mvs_ok {k : Nat} (hk : 1 < k) (w : s.Wf) (hb : Box s a) (ha : a < s.next) {Q : D → S → Prop} {E : XP} (hQ : ∀ ms t, MvOk ms → After s a t → Q (.ct (ms.map mv)) t) : wp (meanB ds G k 9 [.ref a] s) Q E := by
  rw [meanB_eq (by show 1 < k; exact hk), mean_eq (d := d_law_moves) rfl]
  generalize hlp : (ev (meanB ds G d_law_moves.fi.dep) G b_law_moves_l1).s = lp
  refine wp_callB rfl ?_
  simp only [d_law_moves, b_law_moves] at hlp ⊢
  simp only [ev, wps_seq, wps_if, wps_ret, wps_nx, wps_fl, wps_expr, wps_set, wps_setT, wps_setI, wps_setF, wps_lks, wp_bool, wp_tru, wp_notM, wp_andM, wp_orM, wp_ifM, wp_op2, wp_op1, wp_arg, wp_cons, wp_nil, wp_lit, wp_mth, wp_meth, wp_mk, wp_pop, wp_get2, wp_lck, wp_v, wp_ok, wps_ok, List.map_cons, List.map_nil, List.length_cons, List.length_nil, Nat.zero_add, Nat.reduceAdd, Nat.reduceSub, List.replicate_zero, List.replicate_succ, List.cons_append, List.nil_append, List.append_nil, List.getElem?_cons_zero, List.getElem?_cons_succ, List.set_cons_zero, List.set_cons_succ, blF, mtF, opF, cmF, f_add, f_sub, f_mul, f_mod, f_fdiv, f_pow, f_lt, f_le, f_gt, f_ge, f_eqi, f_eqs, f_int, f_neg, upd_heap, upd_next, all_heap, all_next, Bool.false_eq_true, if_true, if_false, decide_eq_true_eq, Nat.sub_self, hlp]
  refine draw_ok (k := 1) (by decide) w hb 3 (by decide) fun v t v0 v3 af0 => ?_
  have af' : ∀ t' : S, t'.Wf → Box t' a → (∀ x, x < s.next → x ≠ a → t'.heap x = s.heap x) → ∀ d, below s.next d → After s a (gcS s.next [d] t') := fun t' w' b' fr d hd => gc_after w b' ha fr hd
  by_cases z0 : v = 0
  · simp only [z0, decide_true, ev, wps_seq, wps_if, wps_ret, wps_nx, wps_fl, wps_expr, wps_set, wps_setT, wps_setI, wps_setF, wps_lks, wp_bool, wp_tru, wp_notM, wp_andM, wp_orM, wp_ifM, wp_op2, wp_op1, wp_arg, wp_cons, wp_nil, wp_lit, wp_mth, wp_meth, wp_mk, wp_pop, wp_get2, wp_lck, wp_v, wp_ok, wps_ok, List.map_cons, List.map_nil, List.length_cons, List.length_nil, Nat.zero_add, Nat.reduceAdd, Nat.reduceSub, List.replicate_zero, List.replicate_succ, List.cons_append, List.nil_append, List.append_nil, List.getElem?_cons_zero, List.getElem?_cons_succ, List.set_cons_zero, List.set_cons_succ, blF, mtF, opF, cmF, f_add, f_sub, f_mul, f_mod, f_fdiv, f_pow, f_lt, f_le, f_gt, f_ge, f_eqi, f_eqs, f_int, f_neg, upd_heap, upd_next, all_heap, all_next, Bool.false_eq_true, if_true, if_false, decide_eq_true_eq, Nat.sub_self, mkT2]
    rw [mkC_ok (by show 2 ≤ 1000; decide), wp_ok]
    exact hQ ringP2 _ ok2 (af' t af0.wf af0.box (fun x hx hn => af0.same x hn) _ (below_mvs _ ringP2))
  by_cases z1 : v = 1
  · have e10 : ¬ ((1 : Int) = 0) := by decide
    simp only [z1, e10, decide_true, decide_false, ev, wps_seq, wps_if, wps_ret, wps_nx, wps_fl, wps_expr, wps_set, wps_setT, wps_setI, wps_setF, wps_lks, wp_bool, wp_tru, wp_notM, wp_andM, wp_orM, wp_ifM, wp_op2, wp_op1, wp_arg, wp_cons, wp_nil, wp_lit, wp_mth, wp_meth, wp_mk, wp_pop, wp_get2, wp_lck, wp_v, wp_ok, wps_ok, List.map_cons, List.map_nil, List.length_cons, List.length_nil, Nat.zero_add, Nat.reduceAdd, Nat.reduceSub, List.replicate_zero, List.replicate_succ, List.cons_append, List.nil_append, List.append_nil, List.getElem?_cons_zero, List.getElem?_cons_succ, List.set_cons_zero, List.set_cons_succ, blF, mtF, opF, cmF, f_add, f_sub, f_mul, f_mod, f_fdiv, f_pow, f_lt, f_le, f_gt, f_ge, f_eqi, f_eqs, f_int, f_neg, upd_heap, upd_next, all_heap, all_next, Bool.false_eq_true, if_true, if_false, decide_eq_true_eq, Nat.sub_self, mkT2]
    rw [mkC_ok (by show 3 ≤ 1000; decide), wp_ok]
    exact hQ ringP3 _ ok3 (af' t af0.wf af0.box (fun x hx hn => af0.same x hn) _ (below_mvs _ ringP3))
  simp only [z0, z1, decide_false, ev, wps_seq, wps_if, wps_ret, wps_nx, wps_fl, wps_expr, wps_set, wps_setT, wps_setI, wps_setF, wps_lks, wp_bool, wp_tru, wp_notM, wp_andM, wp_orM, wp_ifM, wp_op2, wp_op1, wp_arg, wp_cons, wp_nil, wp_lit, wp_mth, wp_meth, wp_mk, wp_pop, wp_get2, wp_lck, wp_v, wp_ok, wps_ok, List.map_cons, List.map_nil, List.length_cons, List.length_nil, Nat.zero_add, Nat.reduceAdd, Nat.reduceSub, List.replicate_zero, List.replicate_succ, List.cons_append, List.nil_append, List.append_nil, List.getElem?_cons_zero, List.getElem?_cons_succ, List.set_cons_zero, List.set_cons_succ, blF, mtF, opF, cmF, f_add, f_sub, f_mul, f_mod, f_fdiv, f_pow, f_lt, f_le, f_gt, f_ge, f_eqi, f_eqs, f_int, f_neg, upd_heap, upd_next, all_heap, all_next, Bool.false_eq_true, if_true, if_false, decide_eq_true_eq, Nat.sub_self]
  rw [mkL_ref (by decide)]
  simp only [ev, wps_seq, wps_if, wps_ret, wps_nx, wps_fl, wps_expr, wps_set, wps_setT, wps_setI, wps_setF, wps_lks, wp_bool, wp_tru, wp_notM, wp_andM, wp_orM, wp_ifM, wp_op2, wp_op1, wp_arg, wp_cons, wp_nil, wp_lit, wp_mth, wp_meth, wp_mk, wp_pop, wp_get2, wp_lck, wp_v, wp_ok, wps_ok, List.map_cons, List.map_nil, List.length_cons, List.length_nil, Nat.zero_add, Nat.reduceAdd, Nat.reduceSub, List.replicate_zero, List.replicate_succ, List.cons_append, List.nil_append, List.append_nil, List.getElem?_cons_zero, List.getElem?_cons_succ, List.set_cons_zero, List.set_cons_succ, blF, mtF, opF, cmF, f_add, f_sub, f_mul, f_mod, f_fdiv, f_pow, f_lt, f_le, f_gt, f_ge, f_eqi, f_eqs, f_int, f_neg, upd_heap, upd_next, all_heap, all_next, Bool.false_eq_true, if_true, if_false, decide_eq_true_eq, Nat.sub_self]
  rw [mkL_ref (by decide)]
  simp only [ev, wps_seq, wps_if, wps_ret, wps_nx, wps_fl, wps_expr, wps_set, wps_setT, wps_setI, wps_setF, wps_lks, wp_bool, wp_tru, wp_notM, wp_andM, wp_orM, wp_ifM, wp_op2, wp_op1, wp_arg, wp_cons, wp_nil, wp_lit, wp_mth, wp_meth, wp_mk, wp_pop, wp_get2, wp_lck, wp_v, wp_ok, wps_ok, List.map_cons, List.map_nil, List.length_cons, List.length_nil, Nat.zero_add, Nat.reduceAdd, Nat.reduceSub, List.replicate_zero, List.replicate_succ, List.cons_append, List.nil_append, List.append_nil, List.getElem?_cons_zero, List.getElem?_cons_succ, List.set_cons_zero, List.set_cons_succ, blF, mtF, opF, cmF, f_add, f_sub, f_mul, f_mod, f_fdiv, f_pow, f_lt, f_le, f_gt, f_ge, f_eqi, f_eqs, f_int, f_neg, upd_heap, upd_next, all_heap, all_next, Bool.false_eq_true, if_true, if_false, decide_eq_true_eq, Nat.sub_self]
  generalize hs1 : (t.alloc (.lst [.str "r0", .str "r1", .str "r2", .str "r3"])).alloc (.lst []) = s1
  have tn := af0.next
  have hta : a < t.next := by omega
  have n1 : s1.next = t.next + 2 := by rw [← hs1]; rfl
  have at1 : MvAt s s1 a t.next (t.next + 1) names4 [] := by
    have wA : (t.alloc (.lst (names4.map .str))).Wf := af0.wf.alloc (below_strs _ _)
    have wB : ((t.alloc (.lst (names4.map .str))).alloc (.lst [])).Wf := wA.alloc trivial
    have e1 : s1 = (t.alloc (.lst (names4.map .str))).alloc (.lst []) := by rw [← hs1]; rfl
    rw [e1]
    refine ⟨wB, ?_, ?_, ?_, ⟨by omega, by omega, by omega⟩, ⟨ha, by omega, by omega⟩, fun x hx hn => ?_⟩
    · obtain ⟨ns, k, h1, h2⟩ := af0.box
      exact ⟨ns, k, by rw [all_heap, all_next, if_neg (by omega), all_heap, if_neg (by omega)]; exact h1, h2⟩
    · rw [all_heap, all_next, if_neg (by omega), all_heap, if_pos rfl]
    · rw [all_heap, all_next, if_pos rfl]; rfl
    · rw [all_heap, all_next, if_neg (by omega), all_heap, if_neg (by omega)]
      exact af0.same x hn
  obtain ⟨u, t1, u0, u9, af, ev1⟩ := DrawF.get (draw_ok (k := 1) (by decide)) at1.wf at1.box 4 (by omega)
  have at2 := at1.after af
  have hi : rng1M (argM (meanB ds G 1 4) (consM (varM 0) (consM (litM (.int 4)) nilM))) [some (.ref a), some (.int v), some (.ref t.next), some (.ref (t.next + 1)), none] s1 = .ok (rngD 0 u.toNat, none) t1 := by
    have r := f_rng1 (i := u) (s := t1) ⟨by have : (-(2 : Int) ^ 62) ≤ 0 := by decide
                                            omega, by have : (1000 : Int) < 2 ^ 62 := by decide
                                                      omega⟩
    simp only [rng1M, argM, consM, nilM, varM, litM, List.getElem?_cons_zero, bd_ok, ev1, r]
  refine wps_for (fun i env t' => ∃ (P : List Str) (M : Prs) (x4 : Option D), env = [some (.ref a), some (.int v), some (.ref t.next), some (.ref (t.next + 1)), x4] ∧ MvAt s t' a t.next (t.next + 1) P M ∧ P.length + i = 4 ∧ M.length = i ∧ (P ++ M.map (·.1)).Nodup ∧ (∀ p ∈ P, p ∈ names4) ∧ (∀ q ∈ M, q.1 ∈ names4 ∧ q.2 ∈ names4)) hi
    ⟨names4, [], none, rfl, at2, rfl, rfl, by decide, fun _ h => h, fun q h => by cases h⟩ (fun _ _ _ _ _ => trivial) (fun i d env t' hd hi => ?_) fun env t' hi => ?_
  · obtain ⟨P, M, x4, rfl, at3, hl, hm, hn, hp, hq⟩ := hi
    obtain ⟨hk, rfl⟩ := rngD_is hd
    refine ⟨_, rfl, ?_⟩
    subst hlp
    refine mv_turn (by decide) at3 (by omega) (by omega) (by omega) fun s' i' d' src h1 h2 h3 => ?_
    have hi' : i' < P.length := (List.getElem?_eq_some_iff.mp h1).1
    refine ⟨_, _, _, rfl, h3, ?_, ?_, pick_nodup hn h1, fun p h => hp p (List.mem_of_mem_eraseIdx h), fun q h => ?_⟩
    · rw [List.length_eraseIdx, if_pos hi']; omega
    · rw [List.length_append, hm]; rfl
    · rcases List.mem_append.mp h with z | z
      · exact hq q z
      · rw [List.mem_singleton.mp z]
        exact ⟨hp _ (List.mem_of_getElem? h1), h2⟩
  · obtain ⟨P, M, x4, rfl, at3, hl, hm, hn, hp, hq⟩ := hi
    have hr : M.length ≤ 3 := by
      have : (rngD 0 u.toNat).length = u.toNat := rngD_len
      omega
    simp only [ev, wps_seq, wps_if, wps_ret, wps_nx, wps_fl, wps_expr, wps_set, wps_setT, wps_setI, wps_setF, wps_lks, wp_bool, wp_tru, wp_notM, wp_andM, wp_orM, wp_ifM, wp_op2, wp_op1, wp_arg, wp_cons, wp_nil, wp_lit, wp_mth, wp_meth, wp_mk, wp_pop, wp_get2, wp_lck, wp_v, wp_ok, wps_ok, List.map_cons, List.map_nil, List.length_cons, List.length_nil, Nat.zero_add, Nat.reduceAdd, Nat.reduceSub, List.replicate_zero, List.replicate_succ, List.cons_append, List.nil_append, List.append_nil, List.getElem?_cons_zero, List.getElem?_cons_succ, List.set_cons_zero, List.set_cons_succ, blF, mtF, opF, cmF, f_add, f_sub, f_mul, f_mod, f_fdiv, f_pow, f_lt, f_le, f_gt, f_ge, f_eqi, f_eqs, f_int, f_neg, upd_heap, upd_next, all_heap, all_next, Bool.false_eq_true, if_true, if_false, decide_eq_true_eq, Nat.sub_self]
    have e3 : tupB true [.ref (t.next + 1)] t' = .ok (.ct (M.map mv)) t' := by
      have hlen : (M.map mv).length ≤ LINE := by rw [line_is, List.length_map]; omega
      simp [tupB, lstOf, at3.hc, mkC]
      simpa using hlen
    simp only [e3, ev, wps_seq, wps_if, wps_ret, wps_nx, wps_fl, wps_expr, wps_set, wps_setT, wps_setI, wps_setF, wps_lks, wp_bool, wp_tru, wp_notM, wp_andM, wp_orM, wp_ifM, wp_op2, wp_op1, wp_arg, wp_cons, wp_nil, wp_lit, wp_mth, wp_meth, wp_mk, wp_pop, wp_get2, wp_lck, wp_v, wp_ok, wps_ok, List.map_cons, List.map_nil, List.length_cons, List.length_nil, Nat.zero_add, Nat.reduceAdd, Nat.reduceSub, List.replicate_zero, List.replicate_succ, List.cons_append, List.nil_append, List.append_nil, List.getElem?_cons_zero, List.getElem?_cons_succ, List.set_cons_zero, List.set_cons_succ, blF, mtF, opF, cmF, f_add, f_sub, f_mul, f_mod, f_fdiv, f_pow, f_lt, f_le, f_gt, f_ge, f_eqi, f_eqs, f_int, f_neg, upd_heap, upd_next, all_heap, all_next, Bool.false_eq_true, if_true, if_false, decide_eq_true_eq, Nat.sub_self]
    exact hQ M _ ⟨(List.nodup_append.mp hn).2.1, hr, fun q h => (hq q h).1, fun q h => (hq q h).2⟩ (af' t' at3.wf at3.box (fun x hx hn => at3.same x hx hn) _ (below_mvs _ _))
end
end K13
namespace K13
open PySem L2 Co
/-! ### rows of what stands where -/
def rowT (r : List Int) : D := .tup (r.map .int)
def rowK (r : List Int) : List Key := r.map .inl
def kvT (rows : List (List Int)) : List (List Key × D) := rows.map fun r => (rowK r, .bl true)
def putR (acc : List (List Int)) (r : List Int) : List (List Int) := if r ∈ acc then acc else acc ++ [r]
theorem rowK_inj {r r' : List Int} (h : rowK r = rowK r') : r = r' := by
  unfold rowK at h
  exact (List.map_inj_right (fun a b z => Sum.inl.inj z)).mp h
theorem keys_ints (r : List Int) : keysOf (r.map D.int) = some (rowK r) := by
  induction r with
  | nil => rfl
  | cons i r ih => simp [keysOf, Co.keyOf, ih, rowK]
theorem keyT_row (r : List Int) : keyT (rowT r) = some (rowK r) := keys_ints r
theorem put_kvT (acc : List (List Int)) (r : List Int) : putD (kvT acc) (rowK r) (.bl true) = kvT (putR acc r) := by
  have e : ((kvT acc).any fun kv => decide (kv.1 = rowK r)) = decide (r ∈ acc) := by
    rw [Bool.eq_iff_iff, List.any_eq_true, decide_eq_true_eq]
    constructor
    · rintro ⟨kv, hkv, he⟩
      obtain ⟨x, hx, rfl⟩ := List.mem_map.mp hkv
      rw [decide_eq_true_eq] at he
      rw [← rowK_inj he]
      exact hx
    · intro h
      exact ⟨(rowK r, .bl true), List.mem_map.mpr ⟨r, h, rfl⟩, by simp⟩
  unfold putD putR
  rw [e]
  by_cases h : r ∈ acc
  · simp only [h, decide_true, if_true]
    unfold kvT
    rw [List.map_map]
    refine List.map_congr_left fun x _ => ?_
    simp only [Function.comp]
    split <;> rfl
  · simp only [h, decide_false, Bool.false_eq_true, if_false]
    simp [kvT]
theorem put_len (acc : List (List Int)) (r : List Int) : (putR acc r).length ≤ acc.length + 1 := by
  unfold putR
  split
  · omega
  · rw [List.length_append]; exact Nat.le_refl _
theorem put_mem {acc : List (List Int)} {r x : List Int} : x ∈ putR acc r ↔ x ∈ acc ∨ x = r := by
  unfold putR
  by_cases h : r ∈ acc
  · rw [if_pos h]
    exact ⟨.inl, fun z => z.elim id fun e => e ▸ h⟩
  · rw [if_neg h, List.mem_append, List.mem_singleton]
def setR (r : List Int) (to src : Nat) : List Int := r.take to ++ [r.getD src 0] ++ r.drop (to + 1)
def step3 (r : List Int) (to : Nat) (acc : List (List Int)) (src : Nat) : List (List Int) := if to ≠ src then putR acc (setR r to src) else acc
def step2 (r : List Int) (acc : List (List Int)) (to : Nat) : List (List Int) := (List.range 5).foldl (step3 r to) acc
def step1 (acc : List (List Int)) (r : List Int) : List (List Int) := (List.range 5).foldl (step2 r) acc
def nextR (rows : List (List Int)) : List (List Int) := rows.foldl step1 []
theorem step3_len (r : List Int) (to : Nat) (acc : List (List Int)) (src : Nat) : (step3 r to acc src).length ≤ acc.length + 1 := by
  unfold step3
  split
  · exact put_len _ _
  · omega
theorem fold_len {α β : Type} (f : List β → α → List β) (m : Nat) (hf : ∀ acc a, (f acc a).length ≤ acc.length + m) : ∀ (l : List α) (acc : List β), (l.foldl f acc).length ≤ acc.length + m * l.length
  | [], acc => by simp
  | a :: l, acc => by
    have h1 := fold_len f m hf l (f acc a)
    have h2 := hf acc a
    rw [List.foldl_cons, List.length_cons, Nat.mul_succ]
    omega
theorem step2_len (r : List Int) (acc : List (List Int)) (to : Nat) : (step2 r acc to).length ≤ acc.length + 5 := fold_len (step3 r to) 1 (step3_len r to) (List.range 5) acc
theorem step1_len (acc : List (List Int)) (r : List Int) : (step1 acc r).length ≤ acc.length + 25 := fold_len (step2 r) 5 (step2_len r) (List.range 5) acc
theorem next_len (rows : List (List Int)) : (nextR rows).length ≤ 25 * rows.length := by
  have := fold_len step1 25 step1_len rows []
  simpa [nextR] using this
theorem fold_mem {α β : Type} (f : List β → α → List β) (P : α → β → Prop) (hf : ∀ acc a x, x ∈ f acc a ↔ x ∈ acc ∨ P a x) : ∀ (l : List α) (acc : List β) (x : β), x ∈ l.foldl f acc ↔ x ∈ acc ∨ ∃ a ∈ l, P a x
  | [], acc, x => by simp
  | a :: l, acc, x => by
    rw [List.foldl_cons, fold_mem f P hf l (f acc a) x, hf]
    constructor
    · rintro ((h | h) | ⟨b, hb, h⟩)
      · exact .inl h
      · exact .inr ⟨a, List.mem_cons_self, h⟩
      · exact .inr ⟨b, List.mem_cons_of_mem _ hb, h⟩
    · rintro (h | ⟨b, hb, h⟩)
      · exact .inl (.inl h)
      · rcases List.mem_cons.mp hb with rfl | hb
        · exact .inl (.inr h)
        · exact .inr ⟨b, hb, h⟩
theorem next_mem {rows : List (List Int)} {x : List Int} : x ∈ nextR rows ↔ ∃ r ∈ rows, ∃ to ∈ List.range 5, ∃ src ∈ List.range 5, to ≠ src ∧ x = setR r to src := by
  have h3 : ∀ r to acc src x, x ∈ step3 r to acc src ↔ x ∈ acc ∨ (to ≠ src ∧ x = setR r to src) := by
    intro r to acc src x
    unfold step3
    by_cases z : to = src
    · rw [if_neg fun y => y z]
      exact ⟨.inl, fun h => h.elim id fun y => absurd z y.1⟩
    · rw [if_pos z, put_mem]
      exact ⟨fun h => h.imp id fun y => ⟨z, y⟩, fun h => h.imp id fun y => y.2⟩
  have h2 := fun r acc to x => fold_mem (step3 r to) (fun src x => to ≠ src ∧ x = setR r to src) (h3 r to) (List.range 5) acc x
  have h1 := fun acc r x => fold_mem (step2 r) (fun to x => ∃ src ∈ List.range 5, to ≠ src ∧ x = setR r to src) (h2 r) (List.range 5) acc x
  have h0 := fold_mem step1 (fun r x => ∃ to ∈ List.range 5, ∃ src ∈ List.range 5, to ≠ src ∧ x = setR r to src) h1 rows [] x
  unfold nextR
  rw [h0]
  simp
end K13
namespace K13
open PySem L2 Co
theorem dict_ct {L : Prs} (kn : (L.map (·.1)).Nodup) {s : S} : dicF [.ct (L.map mv)] s = .ok (.ref s.next) (s.alloc (.dK (kd L))) := by
  have e : mergeD [] (L.map fun q => ((Sum.inr q.1 : Key), D.str q.2)) = kd L := by
    unfold mergeD
    rw [show ([] : List (Key × D)) = kd [] from rfl, fold_kd, fold_put _ [] (by simpa using kn), List.nil_append]
  simp only [dicF, dseqOf, pairs_mv, e]
theorem anyct (M : Prs) (s : S) : anyIt (.ct (M.map mv)) s = .ok (M.map mv, none) s := rfl
theorem dict_get {s : S} {e : Nat} {ms : Prs} (he : s.heap e = some (.dK (kd ms))) (k : Str) : isDic (.ref e) s = true ∧ dget (.ref e) (.str k) s = some ((getS ms k).map .str) := by
  constructor
  · simp [isDic, dicOf, he]
  · simp [dget, dicOf, he, Co.keyOf, getK_kd]
theorem str_getD (o : Option Str) (p : Str) : (o.map D.str).getD (.str p) = .str (o.getD p) := by cases o <;> rfl
def idx4 (x : Str) : Nat := if x = "r0" then 0 else if x = "r1" then 1 else if x = "r2" then 2 else 3
theorem idx_ok {x : Str} (h : x ∈ names4) (s : S) : idxF (.lv [.str "r0", .str "r1", .str "r2", .str "r3"]) [.str x] s = .ok (.int (idx4 x : Nat)) s := by
  have h : x = "r0" ∨ x = "r1" ∨ x = "r2" ∨ x = "r3" := by simpa [names4] using h
  rcases h with rfl | rfl | rfl | rfl <;> rfl
def plc (k : Nat) : Str := names4.getD k "r0"
def tgt (ms : Prs) (k : Nat) : Str := (getS ms (plc k)).getD (plc k)
theorem plc_mem {k : Nat} (h : k < 4) : plc k ∈ names4 := by
  unfold plc
  rw [List.getD, List.getElem?_eq_getElem (by show k < 4; exact h)]
  exact List.getElem_mem _
theorem tgt_mem {ms : Prs} (ok : MvOk ms) {k : Nat} (h : k < 4) : tgt ms k ∈ names4 := by
  unfold tgt
  cases g : getS ms (plc k) with
  | none => exact plc_mem h
  | some v => exact ok.src _ (getS_mem g)
def doneB (ms : Prs) (r : List Int) : Bool := (List.range 4).all fun k => decide (r.getD k 0 = idx4 (tgt ms k))
def fDone (ms : Prs) (r : List Int) (d : D) : Option D := match d with
  | .int i => if r.getD i.toNat 0 ≠ idx4 (tgt ms i.toNat) then some (.int i) else none
  | _ => none
theorem fDone_nil (ms : Prs) (r : List Int) : (((rngD 0 4).filterMap (fDone ms r)).length : Int) = 0 ↔ doneB ms r = true := by
  have e : (rngD 0 4).filterMap (fDone ms r) = ((List.range 4).filter fun k => decide (r.getD k 0 ≠ idx4 (tgt ms k))).map fun (k : Nat) => D.int (0 + (k : Int)) := by
    unfold rngD
    generalize List.range 4 = l
    induction l with
    | nil => rfl
    | cons k l ih =>
      rw [List.map_cons, List.filterMap_cons, List.filter_cons]
      have e0 : ((0 : Int) + (k : Int)).toNat = k := by omega
      by_cases z : r.getD k 0 = idx4 (tgt ms k)
      · have : fDone ms r (.int (0 + (k : Int))) = none := by simp only [fDone, e0]; rw [if_neg fun y => y z]
        rw [this, if_neg (by rw [decide_eq_true_eq]; exact fun y => y z)]
        exact ih
      · have : fDone ms r (.int (0 + (k : Int))) = some (.int (0 + (k : Int))) := by simp only [fDone, e0]; rw [if_pos z]
        rw [this, if_pos (by simpa using z), List.map_cons]
        simp only
        rw [ih]
  rw [e, List.length_map]
  unfold doneB
  rw [List.all_eq_true]
  constructor
  · intro h k hk
    have h : ((List.range 4).filter fun k => decide (r.getD k 0 ≠ idx4 (tgt ms k))).length = 0 := by omega
    have h := List.filter_eq_nil_iff.mp (List.length_eq_zero_iff.mp h) k hk
    simpa using h
  · intro h
    have : ((List.range 4).filter fun k => decide (r.getD k 0 ≠ idx4 (tgt ms k))) = [] := List.filter_eq_nil_iff.mpr fun k hk => by
      have := h k hk
      simpa using this
    rw [this]
    rfl
section
variable {s : S} {a : Nat}
theorem ix_row {r : List Int} {k : Nat} (h : k < r.length) (s : S) : ixF (rowT r) (.int (k : Int)) s = .ok (.int (r.getD k 0)) s := by
  have : (r.map D.int)[k]? = some (.int (r.getD k 0)) := by
    rw [List.getElem?_map, List.getD, List.getElem?_eq_getElem h]
    rfl
  simp only [rowT, ixF, seqOf, Co.atI_nat (Int.natCast_nonneg k), Int.toNat_natCast, this]
theorem ix_plc {k : Nat} (h : k < 4) (s : S) : ixF (.lv [.str "r0", .str "r1", .str "r2", .str "r3"]) (.int (k : Int)) s = .ok (.str (plc k)) s := by
  have : ([D.str "r0", .str "r1", .str "r2", .str "r3"] : List D)[k]? = some (.str (plc k)) := by
    have q : ([D.str "r0", .str "r1", .str "r2", .str "r3"] : List D) = names4.map .str := rfl
    unfold plc
    rw [q, List.getElem?_map, List.getD, List.getElem?_eq_getElem (by show k < 4; omega)]
    rfl
  simp only [ixF, seqOf, lstOf, Co.atI_nat (Int.natCast_nonneg k), Int.toNat_natCast, this]
theorem done_ok {k : Nat} (hk : 0 < k) (w : s.Wf) {ms : Prs} (ok : MvOk ms) {r : List Int} (hr : r.length = 5) {Q : D → S → Prop} {E : XP} (hQ : Q (.bl (doneB ms r)) s) : wp (meanB ds G k 5 [.ct (ms.map mv), rowT r] s) Q E := by
  rw [meanB_eq (by show 0 < k; exact hk), mean_eq (d := d_law_is_done) rfl]
  refine wp_callB rfl ?_
  simp only [d_law_is_done, b_law_is_done, ev, wps_seq, wps_if, wps_ret, wps_nx, wps_fl, wps_expr, wps_set, wps_setT, wps_setI, wps_setF, wps_lks, wp_bool, wp_tru, wp_notM, wp_andM, wp_orM, wp_ifM, wp_op2, wp_op1, wp_arg, wp_cons, wp_nil, wp_lit, wp_mth, wp_meth, wp_mk, wp_pop, wp_get2, wp_lck, wp_v, wp_ok, wps_ok, List.map_cons, List.map_nil, List.length_cons, List.length_nil, Nat.zero_add, Nat.reduceAdd, Nat.reduceSub, List.replicate_zero, List.replicate_succ, List.cons_append, List.nil_append, List.append_nil, List.getElem?_cons_zero, List.getElem?_cons_succ, List.set_cons_zero, List.set_cons_succ, blF, mtF, opF, cmF, f_add, f_sub, f_mul, f_mod, f_fdiv, f_pow, f_lt, f_le, f_gt, f_ge, f_eqi, f_eqs, f_int, f_neg, upd_heap, upd_next, all_heap, all_next, Bool.false_eq_true, if_true, if_false, decide_eq_true_eq, Nat.sub_self]
  rw [dict_ct ok.nd, wp_ok, mkL_lv (by decide)]
  simp only [ev, wps_seq, wps_if, wps_ret, wps_nx, wps_fl, wps_expr, wps_set, wps_setT, wps_setI, wps_setF, wps_lks, wp_bool, wp_tru, wp_notM, wp_andM, wp_orM, wp_ifM, wp_op2, wp_op1, wp_arg, wp_cons, wp_nil, wp_lit, wp_mth, wp_meth, wp_mk, wp_pop, wp_get2, wp_lck, wp_v, wp_ok, wps_ok, List.map_cons, List.map_nil, List.length_cons, List.length_nil, Nat.zero_add, Nat.reduceAdd, Nat.reduceSub, List.replicate_zero, List.replicate_succ, List.cons_append, List.nil_append, List.append_nil, List.getElem?_cons_zero, List.getElem?_cons_succ, List.set_cons_zero, List.set_cons_succ, blF, mtF, opF, cmF, f_add, f_sub, f_mul, f_mod, f_fdiv, f_pow, f_lt, f_le, f_gt, f_ge, f_eqi, f_eqs, f_int, f_neg, upd_heap, upd_next, all_heap, all_next, Bool.false_eq_true, if_true, if_false, decide_eq_true_eq, Nat.sub_self]
  have e1 : (s.alloc (.dK (kd ms))).heap s.next = some (.dK (kd ms)) := by rw [all_heap, if_pos rfl]
  generalize hs : s.alloc (.dK (kd ms)) = s1 at e1 ⊢
  refine wp_lc (ds := rngD 0 4) (gd := none) (s1 := s1) (rng1_lit (k := 4) (by decide)) (fDone ms r) trivial (fun d hd => ?_) (by rw [line_is, rngD_len]; omega) ?_
  · obtain ⟨i, hi⟩ := List.mem_iff_getElem?.mp hd
    obtain ⟨h1, rfl⟩ := rngD_is hi
    rw [Int.zero_add]
    refine ⟨_, rfl, ?_⟩
    obtain ⟨g1, g2⟩ := dict_get e1 (plc i)
    have key : boolM (op2M (eqF true) (op2M ixF (varM 1) (varM 4)) (mthM isLst idxF (varM 3) (consM (get2M (varM 2) (op2M ixF (varM 3) (varM 4)) (op2M ixF (varM 3) (varM 4))) nilM)))
        ((wipeE [some (.ct (ms.map mv)), some (rowT r), some (.ref s.next), some (.lv [.str "r0", .str "r1", .str "r2", .str "r3"]), none] [4]).set 4 (some (.int (i : Int)))) s1 = .ok (!decide (r.getD i 0 = (idx4 (tgt ms i) : Nat))) s1 := by
      refine wp_eq ?_
      simp only [wipeE, ev, wps_seq, wps_if, wps_ret, wps_nx, wps_fl, wps_expr, wps_set, wps_setT, wps_setI, wps_setF, wps_lks, wp_bool, wp_tru, wp_notM, wp_andM, wp_orM, wp_ifM, wp_op2, wp_op1, wp_arg, wp_cons, wp_nil, wp_lit, wp_mth, wp_meth, wp_mk, wp_pop, wp_get2, wp_lck, wp_v, wp_ok, wps_ok, List.map_cons, List.map_nil, List.length_cons, List.length_nil, Nat.zero_add, Nat.reduceAdd, Nat.reduceSub, List.replicate_zero, List.replicate_succ, List.cons_append, List.nil_append, List.append_nil, List.getElem?_cons_zero, List.getElem?_cons_succ, List.set_cons_zero, List.set_cons_succ, blF, mtF, opF, cmF, f_add, f_sub, f_mul, f_mod, f_fdiv, f_pow, f_lt, f_le, f_gt, f_ge, f_eqi, f_eqs, f_int, f_neg, upd_heap, upd_next, all_heap, all_next, Bool.false_eq_true, if_true, if_false, decide_eq_true_eq, Nat.sub_self, ix_row (show i < r.length by omega), ix_plc h1, g1, g2, str_getD]
      have e3 : isLst (.lv [.str "r0", .str "r1", .str "r2", .str "r3"]) s1 = true := rfl
      have e4 : (getS ms (plc i)).getD (plc i) = tgt ms i := rfl
      simp only [e3, e4, idx_ok (tgt_mem ok h1), ev, wps_seq, wps_if, wps_ret, wps_nx, wps_fl, wps_expr, wps_set, wps_setT, wps_setI, wps_setF, wps_lks, wp_bool, wp_tru, wp_notM, wp_andM, wp_orM, wp_ifM, wp_op2, wp_op1, wp_arg, wp_cons, wp_nil, wp_lit, wp_mth, wp_meth, wp_mk, wp_pop, wp_get2, wp_lck, wp_v, wp_ok, wps_ok, List.map_cons, List.map_nil, List.length_cons, List.length_nil, Nat.zero_add, Nat.reduceAdd, Nat.reduceSub, List.replicate_zero, List.replicate_succ, List.cons_append, List.nil_append, List.append_nil, List.getElem?_cons_zero, List.getElem?_cons_succ, List.set_cons_zero, List.set_cons_succ, blF, mtF, opF, cmF, f_add, f_sub, f_mul, f_mod, f_fdiv, f_pow, f_lt, f_le, f_gt, f_ge, f_eqi, f_eqs, f_int, f_neg, upd_heap, upd_next, all_heap, all_next, Bool.false_eq_true, if_true, if_false, decide_eq_true_eq, Nat.sub_self]
      exact ⟨trivial, trivial⟩
    by_cases z : r.getD i 0 = (idx4 (tgt ms i) : Nat)
    · have ef : fDone ms r (.int (i : Int)) = none := by simp only [fDone, Int.toNat_natCast]; rw [if_neg fun y => y z]
      rw [ef]
      rw [decide_eq_true z] at key
      exact key
    · have ef : fDone ms r (.int (i : Int)) = some (.int (i : Int)) := by simp only [fDone, Int.toNat_natCast]; rw [if_pos z]
      rw [ef]
      rw [decide_eq_false z] at key
      exact ⟨key, rfl⟩
  · have ll : ((rngD 0 4).filterMap (fDone ms r)).length ≤ 1000 := by
      refine Nat.le_trans (List.length_filterMap_le _ _) ?_
      rw [rngD_len]
      omega
    rw [mkL_lv ll, wp_ok, len_lv]
    have ed : decide ((((rngD 0 4).filterMap (fDone ms r)).length : Int) = 0) = doneB ms r := by
      rw [Bool.eq_iff_iff, decide_eq_true_eq]
      exact fDone_nil ms r
    simp only [ev, wps_seq, wps_if, wps_ret, wps_nx, wps_fl, wps_expr, wps_set, wps_setT, wps_setI, wps_setF, wps_lks, wp_bool, wp_tru, wp_notM, wp_andM, wp_orM, wp_ifM, wp_op2, wp_op1, wp_arg, wp_cons, wp_nil, wp_lit, wp_mth, wp_meth, wp_mk, wp_pop, wp_get2, wp_lck, wp_v, wp_ok, wps_ok, List.map_cons, List.map_nil, List.length_cons, List.length_nil, Nat.zero_add, Nat.reduceAdd, Nat.reduceSub, List.replicate_zero, List.replicate_succ, List.cons_append, List.nil_append, List.append_nil, List.getElem?_cons_zero, List.getElem?_cons_succ, List.set_cons_zero, List.set_cons_succ, blF, mtF, opF, cmF, f_add, f_sub, f_mul, f_mod, f_fdiv, f_pow, f_lt, f_le, f_gt, f_ge, f_eqi, f_eqs, f_int, f_neg, upd_heap, upd_next, all_heap, all_next, Bool.false_eq_true, if_true, if_false, decide_eq_true_eq, Nat.sub_self, ed]
    rw [gc_pure w (fun b hb => by rw [← hs, all_heap, if_neg (by omega)]) (belowL_of fun d hd => by rw [List.mem_singleton.mp hd]; trivial)]
    exact hQ
end
end K13
namespace K13
open PySem L2 Co
theorem upd_upd {s : S} {a : Nat} {o o' : Ob} : (s.upd a o).upd a o' = s.upd a o' := by
  unfold S.upd
  congr 1
  funext b
  unfold updA
  by_cases h : b = a
  · rw [if_pos h, if_pos h]
  · rw [if_neg h, if_neg h]
    exact if_neg h
theorem upd_self {s : S} {a : Nat} {o : Ob} (h : s.heap a = some o) : s.upd a o = s := by
  obtain ⟨n, hp⟩ := s
  unfold S.upd
  congr 1
  funext b
  unfold updA
  by_cases z : b = a
  · rw [if_pos z, z]; exact h.symm
  · rw [if_neg z]
theorem upd_comm {s : S} {a b : Nat} {o o' : Ob} (h : a ≠ b) : (s.upd a o).upd b o' = (s.upd b o').upd a o := by
  unfold S.upd
  congr 1
  funext c
  show (if c = b then some o' else if c = a then some o else s.heap c) = (if c = a then some o else if c = b then some o' else s.heap c)
  by_cases z : c = b
  · rw [if_pos z, if_pos z, if_neg fun y => h (y.symm.trans z)]
  · rw [if_neg z, if_neg z]
/-- the state amid the rows that come next -/
def nxS (s : S) (a : Nat) (rows acc : List (List Int)) : S := (s.alloc (.dT (kvT acc))).upd a (.lkT (kvT rows))
section
variable {s : S} {a : Nat} {rows acc : List (List Int)} {r : List Int} {to : Nat} {x2 x3 x4 : Option D}
theorem nx_new (ha : a < s.next) : (nxS s a rows acc).heap s.next = some (.dT (kvT acc)) := by
  unfold nxS
  rw [upd_heap, if_neg (by omega), all_heap, if_pos rfl]
theorem nx_put (ha : a < s.next) (acc' : List (List Int)) : (nxS s a rows acc).upd s.next (.dT (kvT acc')) = nxS s a rows acc' := by
  unfold nxS
  rw [upd_comm (by omega), alloc_upd]
theorem row_sl {n : Nat} (hr : r.length = 5) (hn : n ≤ 5) (s : S) : slF false (rowT r) none (some (n : Int)) s = .ok (.tup ((r.take n).map .int)) s := by
  have e : cutD (r.map D.int) none (some (n : Int)) = (r.take n).map .int := by
    unfold cutD
    rw [HT.sIx_none, HT.sIx_nat, List.length_map, hr, Nat.min_eq_left hn, List.map_take]
    simp
  simp only [rowT, slF, e]
theorem row_sr {n : Nat} (hr : r.length = 5) (hn : n ≤ 5) (s : S) : slF false (rowT r) (some (n : Int)) none s = .ok (.tup ((r.drop n).map .int)) s := by
  have e : cutD (r.map D.int) (some (n : Int)) none = (r.drop n).map .int := by
    unfold cutD
    rw [HT.sIx_none, HT.sIx_nat, List.length_map, hr, Nat.min_eq_left hn, List.map_drop]
    rw [List.take_of_length_le (by rw [List.length_drop, List.length_map]; omega)]
  simp only [rowT, slF, e]
theorem add_tup {xs ys : List D} {s : S} (hl : xs.length + ys.length ≤ 1000) : addF false (.tup xs) (.tup ys) s = .ok (.tup (xs ++ ys)) s := by
  have z : xs.length + ys.length ≤ LINE := by rw [line_is]; omega
  simp only [addF, z, if_true]
theorem turn3 (ha : a < s.next) (hr : r.length = 5) (ht : to < 5) {src : Nat} (hs : src < 5) (hl : acc.length ≤ 1000000) {Q : QS} (hQ : Q .nx [some (.ref a), some (.ref s.next), some (rowT r), some (.int (to : Int)), some (.int (src : Int))] (nxS s a rows (step3 r to acc src))) :
    wps ((ev (meanB ds G 0) G b_law_next_l3).s [some (.ref a), some (.ref s.next), some (rowT r), some (.int (to : Int)), some (.int (src : Int))] (nxS s a rows acc)) Q := by
  simp only [b_law_next_l3, ev, wps_seq, wps_if, wps_ret, wps_nx, wps_fl, wps_expr, wps_set, wps_setT, wps_setI, wps_setF, wps_lks, wp_bool, wp_tru, wp_notM, wp_andM, wp_orM, wp_ifM, wp_op2, wp_op1, wp_arg, wp_cons, wp_nil, wp_lit, wp_mth, wp_meth, wp_mk, wp_pop, wp_get2, wp_lck, wp_v, wp_ok, wps_ok, List.map_cons, List.map_nil, List.length_cons, List.length_nil, Nat.zero_add, Nat.reduceAdd, Nat.reduceSub, List.replicate_zero, List.replicate_succ, List.cons_append, List.nil_append, List.append_nil, List.getElem?_cons_zero, List.getElem?_cons_succ, List.set_cons_zero, List.set_cons_succ, blF, mtF, opF, cmF, f_add, f_sub, f_mul, f_mod, f_fdiv, f_pow, f_lt, f_le, f_gt, f_ge, f_eqi, f_eqs, f_int, f_neg, upd_heap, upd_next, all_heap, all_next, Bool.false_eq_true, if_true, if_false, decide_eq_true_eq, Nat.sub_self]
  by_cases z : to = src
  · have : ((to : Int) = (src : Int)) := by omega
    simp only [this, decide_true, Bool.not_true, ev, wps_seq, wps_if, wps_ret, wps_nx, wps_fl, wps_expr, wps_set, wps_setT, wps_setI, wps_setF, wps_lks, wp_bool, wp_tru, wp_notM, wp_andM, wp_orM, wp_ifM, wp_op2, wp_op1, wp_arg, wp_cons, wp_nil, wp_lit, wp_mth, wp_meth, wp_mk, wp_pop, wp_get2, wp_lck, wp_v, wp_ok, wps_ok, List.map_cons, List.map_nil, List.length_cons, List.length_nil, Nat.zero_add, Nat.reduceAdd, Nat.reduceSub, List.replicate_zero, List.replicate_succ, List.cons_append, List.nil_append, List.append_nil, List.getElem?_cons_zero, List.getElem?_cons_succ, List.set_cons_zero, List.set_cons_succ, blF, mtF, opF, cmF, f_add, f_sub, f_mul, f_mod, f_fdiv, f_pow, f_lt, f_le, f_gt, f_ge, f_eqi, f_eqs, f_int, f_neg, upd_heap, upd_next, all_heap, all_next, Bool.false_eq_true, if_true, if_false, decide_eq_true_eq, Nat.sub_self]
    unfold step3 at hQ
    rw [if_neg fun y => y z] at hQ
    rw [this] at hQ
    exact hQ
  · have : ¬ ((to : Int) = (src : Int)) := by omega
    simp only [this, decide_false, Bool.not_false, ev, wps_seq, wps_if, wps_ret, wps_nx, wps_fl, wps_expr, wps_set, wps_setT, wps_setI, wps_setF, wps_lks, wp_bool, wp_tru, wp_notM, wp_andM, wp_orM, wp_ifM, wp_op2, wp_op1, wp_arg, wp_cons, wp_nil, wp_lit, wp_mth, wp_meth, wp_mk, wp_pop, wp_get2, wp_lck, wp_v, wp_ok, wps_ok, List.map_cons, List.map_nil, List.length_cons, List.length_nil, Nat.zero_add, Nat.reduceAdd, Nat.reduceSub, List.replicate_zero, List.replicate_succ, List.cons_append, List.nil_append, List.append_nil, List.getElem?_cons_zero, List.getElem?_cons_succ, List.set_cons_zero, List.set_cons_succ, blF, mtF, opF, cmF, f_add, f_sub, f_mul, f_mod, f_fdiv, f_pow, f_lt, f_le, f_gt, f_ge, f_eqi, f_eqs, f_int, f_neg, upd_heap, upd_next, all_heap, all_next, Bool.false_eq_true, if_true, if_false, decide_eq_true_eq, Nat.sub_self, wp_sl, wp_pn, wp_ps, isAbs]
    have h1 : ((to : Int) + 1) = ((to + 1 : Nat) : Int) := by omega
    have hm : mkT [.int (r.getD src 0)] (nxS s a rows acc) = .ok (.tup [.int (r.getD src 0)]) (nxS s a rows acc) := by
      unfold mkT
      rw [if_pos (by rw [line_is]; simp)]
    simp only [row_sl hr (show to ≤ 5 by omega), ix_row (show src < r.length by omega), hm, ev, wps_seq, wps_if, wps_ret, wps_nx, wps_fl, wps_expr, wps_set, wps_setT, wps_setI, wps_setF, wps_lks, wp_bool, wp_tru, wp_notM, wp_andM, wp_orM, wp_ifM, wp_op2, wp_op1, wp_arg, wp_cons, wp_nil, wp_lit, wp_mth, wp_meth, wp_mk, wp_pop, wp_get2, wp_lck, wp_v, wp_ok, wps_ok, List.map_cons, List.map_nil, List.length_cons, List.length_nil, Nat.zero_add, Nat.reduceAdd, Nat.reduceSub, List.replicate_zero, List.replicate_succ, List.cons_append, List.nil_append, List.append_nil, List.getElem?_cons_zero, List.getElem?_cons_succ, List.set_cons_zero, List.set_cons_succ, blF, mtF, opF, cmF, f_add, f_sub, f_mul, f_mod, f_fdiv, f_pow, f_lt, f_le, f_gt, f_ge, f_eqi, f_eqs, f_int, f_neg, upd_heap, upd_next, all_heap, all_next, Bool.false_eq_true, if_true, if_false, decide_eq_true_eq, Nat.sub_self]
    rw [add_tup (by rw [List.length_map, List.length_take]; show min to r.length + 1 ≤ 1000; omega), wp_ok]
    simp only [h1, row_sr hr (show to + 1 ≤ 5 by omega), ev, wps_seq, wps_if, wps_ret, wps_nx, wps_fl, wps_expr, wps_set, wps_setT, wps_setI, wps_setF, wps_lks, wp_bool, wp_tru, wp_notM, wp_andM, wp_orM, wp_ifM, wp_op2, wp_op1, wp_arg, wp_cons, wp_nil, wp_lit, wp_mth, wp_meth, wp_mk, wp_pop, wp_get2, wp_lck, wp_v, wp_ok, wps_ok, List.map_cons, List.map_nil, List.length_cons, List.length_nil, Nat.zero_add, Nat.reduceAdd, Nat.reduceSub, List.replicate_zero, List.replicate_succ, List.cons_append, List.nil_append, List.append_nil, List.getElem?_cons_zero, List.getElem?_cons_succ, List.set_cons_zero, List.set_cons_succ, blF, mtF, opF, cmF, f_add, f_sub, f_mul, f_mod, f_fdiv, f_pow, f_lt, f_le, f_gt, f_ge, f_eqi, f_eqs, f_int, f_neg, upd_heap, upd_next, all_heap, all_next, Bool.false_eq_true, if_true, if_false, decide_eq_true_eq, Nat.sub_self]
    rw [add_tup (by rw [List.length_append, List.length_map, List.length_map, List.length_take, List.length_drop]; show min to r.length + 1 + _ ≤ 1000; omega), wp_ok]
    have er : D.tup ((r.take to).map D.int ++ [D.int (r.getD src 0)] ++ (r.drop (to + 1)).map D.int) = rowT (setR r to src) := by
      simp [rowT, setR]
    have ep : Co.putF (.ref s.next) (rowT (setR r to src)) (.bl true) (nxS s a rows acc) = some (nxS s a rows (step3 r to acc src)) := by
      have lP : (kvT acc).length < LINE := by rw [line_is]; unfold kvT; rw [List.length_map]; omega
      simp only [Co.putF, nx_new ha, keyT_row, lP, if_true, put_kvT, nx_put ha]
      unfold step3
      rw [if_pos z]
    simp only [List.cons_append, List.nil_append, List.append_assoc] at er
    simp only [List.cons_append, List.nil_append, List.append_assoc, er, ep, ev, wps_seq, wps_if, wps_ret, wps_nx, wps_fl, wps_expr, wps_set, wps_setT, wps_setI, wps_setF, wps_lks, wp_bool, wp_tru, wp_notM, wp_andM, wp_orM, wp_ifM, wp_op2, wp_op1, wp_arg, wp_cons, wp_nil, wp_lit, wp_mth, wp_meth, wp_mk, wp_pop, wp_get2, wp_lck, wp_v, wp_ok, wps_ok, List.map_cons, List.map_nil, List.length_cons, List.length_nil, Nat.zero_add, Nat.reduceAdd, Nat.reduceSub, List.replicate_zero, List.replicate_succ, List.cons_append, List.nil_append, List.append_nil, List.getElem?_cons_zero, List.getElem?_cons_succ, List.set_cons_zero, List.set_cons_succ, blF, mtF, opF, cmF, f_add, f_sub, f_mul, f_mod, f_fdiv, f_pow, f_lt, f_le, f_gt, f_ge, f_eqi, f_eqs, f_int, f_neg, upd_heap, upd_next, all_heap, all_next, Bool.false_eq_true, if_true, if_false, decide_eq_true_eq, Nat.sub_self]
    exact hQ
theorem turn2 (ha : a < s.next) (hr : r.length = 5) (ht : to < 5) (hl : acc.length + 5 ≤ 1000000) {Q : QS} (hQ : ∀ x4, Q .nx [some (.ref a), some (.ref s.next), some (rowT r), some (.int (to : Int)), x4] (nxS s a rows (step2 r acc to))) :
    wps ((ev (meanB ds G 0) G b_law_next_l2).s [some (.ref a), some (.ref s.next), some (rowT r), some (.int (to : Int)), x4] (nxS s a rows acc)) Q := by
  generalize h3 : (ev (meanB ds G 0) G b_law_next_l3).s = l3
  simp only [b_law_next_l2, ev, wps_seq, wps_if, wps_ret, wps_nx, wps_fl, wps_expr, wps_set, wps_setT, wps_setI, wps_setF, wps_lks, wp_bool, wp_tru, wp_notM, wp_andM, wp_orM, wp_ifM, wp_op2, wp_op1, wp_arg, wp_cons, wp_nil, wp_lit, wp_mth, wp_meth, wp_mk, wp_pop, wp_get2, wp_lck, wp_v, wp_ok, wps_ok, List.map_cons, List.map_nil, List.length_cons, List.length_nil, Nat.zero_add, Nat.reduceAdd, Nat.reduceSub, List.replicate_zero, List.replicate_succ, List.cons_append, List.nil_append, List.append_nil, List.getElem?_cons_zero, List.getElem?_cons_succ, List.set_cons_zero, List.set_cons_succ, blF, mtF, opF, cmF, f_add, f_sub, f_mul, f_mod, f_fdiv, f_pow, f_lt, f_le, f_gt, f_ge, f_eqi, f_eqs, f_int, f_neg, upd_heap, upd_next, all_heap, all_next, Bool.false_eq_true, if_true, if_false, decide_eq_true_eq, Nat.sub_self, h3]
  refine wps_for (fun i env t => t = nxS s a rows ((List.range i).foldl (step3 r to) acc) ∧ ∃ x4, env = [some (.ref a), some (.ref s.next), some (rowT r), some (.int (to : Int)), x4]) (rng1_lit (k := 5) (by decide)) ⟨rfl, _, rfl⟩ (fun _ _ _ _ _ => trivial) (fun i d env t hd hi => ?_) fun env t hi => ?_
  · obtain ⟨rfl, x4, rfl⟩ := hi
    obtain ⟨hk, rfl⟩ := rngD_is hd
    refine ⟨_, rfl, ?_⟩
    subst h3
    rw [Int.zero_add]
    have := fold_len (step3 r to) 1 (step3_len r to) (List.range i) acc
    rw [List.length_range] at this
    refine turn3 ha hr ht hk (by omega) ?_
    refine ⟨?_, _, rfl⟩
    rw [List.range_succ, List.foldl_append]
    rfl
  · obtain ⟨rfl, x4, rfl⟩ := hi
    exact hQ x4
theorem turn1 (ha : a < s.next) (hr : r.length = 5) (hl : acc.length + 25 ≤ 1000000) {Q : QS} (hQ : ∀ x3 x4, Q .nx [some (.ref a), some (.ref s.next), some (rowT r), x3, x4] (nxS s a rows (step1 acc r))) :
    wps ((ev (meanB ds G 0) G b_law_next_l1).s [some (.ref a), some (.ref s.next), some (rowT r), x3, x4] (nxS s a rows acc)) Q := by
  generalize h2 : (ev (meanB ds G 0) G b_law_next_l2).s = l2
  simp only [b_law_next_l1, ev, wps_seq, wps_if, wps_ret, wps_nx, wps_fl, wps_expr, wps_set, wps_setT, wps_setI, wps_setF, wps_lks, wp_bool, wp_tru, wp_notM, wp_andM, wp_orM, wp_ifM, wp_op2, wp_op1, wp_arg, wp_cons, wp_nil, wp_lit, wp_mth, wp_meth, wp_mk, wp_pop, wp_get2, wp_lck, wp_v, wp_ok, wps_ok, List.map_cons, List.map_nil, List.length_cons, List.length_nil, Nat.zero_add, Nat.reduceAdd, Nat.reduceSub, List.replicate_zero, List.replicate_succ, List.cons_append, List.nil_append, List.append_nil, List.getElem?_cons_zero, List.getElem?_cons_succ, List.set_cons_zero, List.set_cons_succ, blF, mtF, opF, cmF, f_add, f_sub, f_mul, f_mod, f_fdiv, f_pow, f_lt, f_le, f_gt, f_ge, f_eqi, f_eqs, f_int, f_neg, upd_heap, upd_next, all_heap, all_next, Bool.false_eq_true, if_true, if_false, decide_eq_true_eq, Nat.sub_self, h2]
  refine wps_for (fun i env t => t = nxS s a rows ((List.range i).foldl (step2 r) acc) ∧ ∃ x3 x4, env = [some (.ref a), some (.ref s.next), some (rowT r), x3, x4]) (rng1_lit (k := 5) (by decide)) ⟨rfl, _, _, rfl⟩ (fun _ _ _ _ _ => trivial) (fun i d env t hd hi => ?_) fun env t hi => ?_
  · obtain ⟨rfl, x3, x4, rfl⟩ := hi
    obtain ⟨hk, rfl⟩ := rngD_is hd
    refine ⟨_, rfl, ?_⟩
    subst h2
    rw [Int.zero_add]
    have := fold_len (step2 r) 5 (step2_len r) (List.range i) acc
    rw [List.length_range] at this
    refine turn2 ha hr hk (by omega) fun x4 => ?_
    refine ⟨?_, _, _, rfl⟩
    rw [List.range_succ, List.foldl_append]
    rfl
  · obtain ⟨rfl, x3, x4, rfl⟩ := hi
    exact hQ x3 x4
theorem next_ok {k : Nat} (hk : 0 < k) (w : s.Wf) (ha : s.heap a = some (.dT (kvT rows))) (hr : ∀ r ∈ rows, r.length = 5) (hl : rows.length ≤ 30000) {Q : D → S → Prop} {E : XP} (hQ : Q (.ref s.next) (s.alloc (.dT (kvT (nextR rows))))) : wp (meanB ds G k 6 [.ref a] s) Q E := by
  have al := w.lt ha
  rw [meanB_eq (by show 0 < k; exact hk), mean_eq (d := d_law_next) rfl]
  generalize h1 : (ev (meanB ds G d_law_next.fi.dep) G b_law_next_l1).s = l1
  refine wp_callB rfl ?_
  simp only [d_law_next, b_law_next] at h1 ⊢
  simp only [ev, wps_seq, wps_if, wps_ret, wps_nx, wps_fl, wps_expr, wps_set, wps_setT, wps_setI, wps_setF, wps_lks, wp_bool, wp_tru, wp_notM, wp_andM, wp_orM, wp_ifM, wp_op2, wp_op1, wp_arg, wp_cons, wp_nil, wp_lit, wp_mth, wp_meth, wp_mk, wp_pop, wp_get2, wp_lck, wp_v, wp_ok, wps_ok, List.map_cons, List.map_nil, List.length_cons, List.length_nil, Nat.zero_add, Nat.reduceAdd, Nat.reduceSub, List.replicate_zero, List.replicate_succ, List.cons_append, List.nil_append, List.append_nil, List.getElem?_cons_zero, List.getElem?_cons_succ, List.set_cons_zero, List.set_cons_succ, blF, mtF, opF, cmF, f_add, f_sub, f_mul, f_mod, f_fdiv, f_pow, f_lt, f_le, f_gt, f_ge, f_eqi, f_eqs, f_int, f_neg, upd_heap, upd_next, all_heap, all_next, Bool.false_eq_true, if_true, if_false, decide_eq_true_eq, Nat.sub_self, h1]
  have ed : ∀ (env : Co.Env) (Q : D → S → Prop) (E : XP), wp (dnewTM env s) Q E = Q (.ref s.next) (s.alloc (.dT [])) := fun _ _ _ => rfl
  simp only [ed, ev, wps_seq, wps_if, wps_ret, wps_nx, wps_fl, wps_expr, wps_set, wps_setT, wps_setI, wps_setF, wps_lks, wp_bool, wp_tru, wp_notM, wp_andM, wp_orM, wp_ifM, wp_op2, wp_op1, wp_arg, wp_cons, wp_nil, wp_lit, wp_mth, wp_meth, wp_mk, wp_pop, wp_get2, wp_lck, wp_v, wp_ok, wps_ok, List.map_cons, List.map_nil, List.length_cons, List.length_nil, Nat.zero_add, Nat.reduceAdd, Nat.reduceSub, List.replicate_zero, List.replicate_succ, List.cons_append, List.nil_append, List.append_nil, List.getElem?_cons_zero, List.getElem?_cons_succ, List.set_cons_zero, List.set_cons_succ, blF, mtF, opF, cmF, f_add, f_sub, f_mul, f_mod, f_fdiv, f_pow, f_lt, f_le, f_gt, f_ge, f_eqi, f_eqs, f_int, f_neg, upd_heap, upd_next, all_heap, all_next, Bool.false_eq_true, if_true, if_false, decide_eq_true_eq, Nat.sub_self]
  have lk : lkAt (R.ok (.ref a) (s.alloc (.dT []))) (s.alloc (.dT [])) = some (a, .lkT (kvT rows)) := by
    have : (s.alloc (.dT [])).heap a = some (.dT (kvT rows)) := by rw [all_heap, if_neg (by omega)]; exact ha
    simp [lkAt, this, lkOb]
  simp only [varM, List.getElem?_cons_zero, List.getElem?_cons_succ, lk]
  have e0 : (s.alloc (.dT [])).upd a (.lkT (kvT rows)) = nxS s a rows [] := rfl
  rw [e0]
  have nh : ∀ acc, (nxS s a rows acc).heap a = some (.lkT (kvT rows)) := fun acc => by unfold nxS; rw [upd_heap, if_pos rfl]
  have kk : keysDT (kvT rows) = rows.map rowT := by
    unfold keysDT kvT
    rw [List.map_map]
    refine List.map_congr_left fun r _ => ?_
    simp [rowT, rowK, dOfKey]
  have hi : anyItM (varM 0) [some (.ref a), some (.ref s.next), none, none, none] (nxS s a rows []) = .ok (rows.map rowT, some (a, .lkT (kvT rows))) (nxS s a rows []) := by
    simp [anyItM, varM, bd_ok, anyIt, lkOf, lkTOf, nh, kk]
  refine wps_for (fun i env t => t = nxS s a rows ((rows.take i).foldl step1 []) ∧ ∃ x2 x3 x4, env = [some (.ref a), some (.ref s.next), x2, x3, x4]) hi ⟨rfl, _, _, _, rfl⟩ (fun _ _ _ _ h => by rw [h.1]; exact nh _) (fun i d env t hd hi => ?_) fun env t hi => ?_
  · obtain ⟨rfl, x2, x3, x4, rfl⟩ := hi
    rw [List.getElem?_map] at hd
    obtain ⟨r, hq, rfl⟩ := Option.map_eq_some_iff.mp hd
    refine ⟨_, rfl, ?_⟩
    subst h1
    have := fold_len step1 25 step1_len (rows.take i) []
    rw [List.length_take, List.length_nil] at this
    refine turn1 al (hr r (List.mem_of_getElem? hq)) (by omega) fun x3 x4 => ?_
    refine ⟨?_, _, _, _, rfl⟩
    simp only [List.take_add_one, hq, List.foldl_append, Option.toList_some, List.foldl_cons, List.foldl_nil]
  · obtain ⟨rfl, x2, x3, x4, rfl⟩ := hi
    rw [List.length_map, List.take_length]
    simp only [nh, ulOb]
    have e1 : (nxS s a rows (rows.foldl step1 [])).upd a (.dT (kvT rows)) = s.alloc (.dT (kvT (nextR rows))) := by
      unfold nxS
      rw [upd_upd]
      exact upd_self (by rw [all_heap, if_neg (by omega)]; exact ha)
    rw [e1]
    simp only [ev, wps_seq, wps_if, wps_ret, wps_nx, wps_fl, wps_expr, wps_set, wps_setT, wps_setI, wps_setF, wps_lks, wp_bool, wp_tru, wp_notM, wp_andM, wp_orM, wp_ifM, wp_op2, wp_op1, wp_arg, wp_cons, wp_nil, wp_lit, wp_mth, wp_meth, wp_mk, wp_pop, wp_get2, wp_lck, wp_v, wp_ok, wps_ok, List.map_cons, List.map_nil, List.length_cons, List.length_nil, Nat.zero_add, Nat.reduceAdd, Nat.reduceSub, List.replicate_zero, List.replicate_succ, List.cons_append, List.nil_append, List.append_nil, List.getElem?_cons_zero, List.getElem?_cons_succ, List.set_cons_zero, List.set_cons_succ, blF, mtF, opF, cmF, f_add, f_sub, f_mul, f_mod, f_fdiv, f_pow, f_lt, f_le, f_gt, f_ge, f_eqi, f_eqs, f_int, f_neg, upd_heap, upd_next, all_heap, all_next, Bool.false_eq_true, if_true, if_false, decide_eq_true_eq, Nat.sub_self]
    have hg : gcS s.next [D.ref s.next] (s.alloc (.dT (kvT (nextR rows)))) = s.alloc (.dT (kvT (nextR rows))) := by
      unfold gcS
      rw [if_neg]
      intro z
      have : s.next < s.next := z.1.1
      exact Nat.lt_irrefl _ this
    rw [hg]
    exact hQ
end
end K13
namespace K13
open PySem L2 Co
/-! ### which rows are reached -/
def rowsN : Nat → List (List Int)
  | 0 => [[0, 1, 2, 3, 4]]
  | i + 1 => nextR (rowsN i)
theorem rowsN_len : ∀ i, (rowsN i).length ≤ 25 ^ i
  | 0 => Nat.le_refl _
  | i + 1 => by
    have h1 := next_len (rowsN i)
    have h2 := rowsN_len i
    show (nextR (rowsN i)).length ≤ _
    rw [Nat.pow_succ]
    omega
def names5 : List Str := ["r0", "r1", "r2", "r3", "t"]
def idx5 (x : Str) : Nat := if x = "t" then 4 else idx4 x
def cI (M : Prs) (x : Str) : Str := conts (fun y => y) M x
def rowOf (M : Prs) : List Int := names5.map fun x => (idx5 (cI M x) : Int)
def nm (k : Nat) : Str := names5.getD k "t"
theorem nm_mem (k : Nat) : nm k ∈ names5 := by
  unfold nm
  by_cases h : k < 5
  · rw [List.getD, List.getElem?_eq_getElem (by show k < 5; exact h)]
    exact List.getElem_mem _
  · rw [List.getD, List.getElem?_eq_none (by show 5 ≤ k; omega)]
    decide
theorem idx_inj : ∀ x ∈ names5, ∀ y ∈ names5, idx5 x = idx5 y → x = y := by decide
theorem idx45 : ∀ x ∈ names4, idx5 x = idx4 x ∧ x ∈ names5 ∧ x ≠ "t" := by decide
theorem nm_of : ∀ x ∈ names5, ∃ k, k < 5 ∧ nm k = x := by
  have : ∀ x ∈ names5, x = nm 0 ∨ x = nm 1 ∨ x = nm 2 ∨ x = nm 3 ∨ x = nm 4 := by decide
  intro x hx
  rcases this x hx with h | h | h | h | h
  · exact ⟨0, by decide, h.symm⟩
  · exact ⟨1, by decide, h.symm⟩
  · exact ⟨2, by decide, h.symm⟩
  · exact ⟨3, by decide, h.symm⟩
  · exact ⟨4, by decide, h.symm⟩
theorem row_len (M : Prs) : (rowOf M).length = 5 := rfl
theorem row_at (M : Prs) {k : Nat} (h : k < 5) : (rowOf M).getD k 0 = (idx5 (cI M (nm k)) : Int) := by
  have e : k = 0 ∨ k = 1 ∨ k = 2 ∨ k = 3 ∨ k = 4 := by omega
  rcases e with rfl | rfl | rfl | rfl | rfl <;> rfl
theorem cI_snoc (M : Prs) (q : Str × Str) (x : Str) : cI (M ++ [q]) x = if x = q.1 then cI M q.2 else cI M x := by
  unfold cI
  rw [conts_snoc]
  rfl
theorem row_snoc (M : Prs) {to src : Nat} (ht : to < 5) (hs : src < 5) : setR (rowOf M) to src = rowOf (M ++ [(nm to, nm src)]) := by
  have e0 : setR (rowOf M) to src = (rowOf M).take to ++ [(idx5 (cI M (nm src)) : Int)] ++ (rowOf M).drop (to + 1) := by
    unfold setR
    rw [row_at M hs]
  rw [e0]
  have r1 : rowOf (M ++ [(nm to, nm src)]) = names5.map fun x => (idx5 (if x = nm to then cI M (nm src) else cI M x) : Int) := by
    unfold rowOf
    refine List.map_congr_left fun x _ => ?_
    rw [cI_snoc]
  rw [r1]
  generalize cI M (nm src) = v
  unfold rowOf
  generalize cI M = f
  have e : to = 0 ∨ to = 1 ∨ to = 2 ∨ to = 3 ∨ to = 4 := by omega
  rcases e with rfl | rfl | rfl | rfl | rfl <;> rfl
theorem reached : ∀ {i : Nat} {r : List Int}, r ∈ rowsN i → ∃ M : Prs, M.length = i ∧ (∀ q ∈ M, q.1 ∈ names5 ∧ q.2 ∈ names5) ∧ r = rowOf M
  | 0, r, h => ⟨[], rfl, fun q h => (by cases h), by rw [List.mem_singleton.mp h]; rfl⟩
  | i + 1, r, h => by
    obtain ⟨r0, h0, to, ht, src, hs, _, e⟩ := next_mem.mp h
    obtain ⟨M, m1, m2, m3⟩ := reached h0
    rw [List.mem_range] at ht hs
    refine ⟨M ++ [(nm to, nm src)], by rw [List.length_append, m1]; rfl, fun q hq => ?_, by rw [e, m3, row_snoc M ht hs]⟩
    rcases List.mem_append.mp hq with z | z
    · exact m2 q z
    · rw [List.mem_singleton.mp z]; exact ⟨nm_mem to, nm_mem src⟩
theorem reach : ∀ (n : Nat) (M : Prs), M.length = n → (∀ q ∈ M, q.1 ∈ names5 ∧ q.2 ∈ names5) → (∀ q ∈ M, q.1 ≠ q.2) → rowOf M ∈ rowsN n
  | 0, M, h, _, _ => by
    rw [List.length_eq_zero_iff.mp h]
    exact List.mem_singleton.mpr rfl
  | n + 1, M, h, h1, h2 => by
    have hne : M ≠ [] := fun z => by rw [z] at h; cases h
    have e := List.dropLast_concat_getLast hne
    have hl : M.getLast hne ∈ M := List.getLast_mem hne
    have hd : ∀ q ∈ M.dropLast, q ∈ M := fun q hq => (List.dropLast_sublist M).subset hq
    have ih := reach n M.dropLast (by rw [List.length_dropLast, h]; rfl) (fun q hq => h1 q (hd q hq)) fun q hq => h2 q (hd q hq)
    obtain ⟨to, ht, e1⟩ := nm_of _ (h1 _ hl).1
    obtain ⟨src, hs, e2⟩ := nm_of _ (h1 _ hl).2
    refine next_mem.mpr ⟨_, ih, to, List.mem_range.mpr ht, src, List.mem_range.mpr hs, fun z => ?_, ?_⟩
    · rw [z, e2] at e1
      exact h2 _ hl e1.symm
    · rw [row_snoc _ ht hs, e1, e2, e]
theorem cI_mem : ∀ {M : Prs} {V : List Str} {f : Str → Str}, (∀ x ∈ V, f x ∈ V) → (∀ q ∈ M, q.2 ∈ V) → ∀ x ∈ V, conts f M x ∈ V
  | [], V, f, h, _, x, hx => h x hx
  | q :: M, V, f, h, h1, x, hx => cI_mem (M := M) (f := putC f q) (fun y hy => by
      unfold putC
      split
      · exact h _ (h1 q List.mem_cons_self)
      · exact h y hy) (fun p hp => h1 p (List.mem_cons_of_mem _ hp)) x hx
theorem cI_other : ∀ {M : Prs} {f : Str → Str} {k : Str}, (∀ q ∈ M, q.1 ≠ k) → conts f M k = f k
  | [], f, k, _ => rfl
  | q :: M, f, k, h => by
    have := cI_other (M := M) (f := putC f q) (k := k) fun p hp => h p (List.mem_cons_of_mem _ hp)
    show conts (putC f q) M k = f k
    rw [this]
    unfold putC
    rw [if_neg fun z => h q List.mem_cons_self z.symm]
theorem cI_triv : ∀ {M : Prs} {f : Str → Str}, conts f (M.filter fun q => decide (q.1 ≠ q.2)) = conts f M
  | [], f => rfl
  | q :: M, f => by
    rw [List.filter_cons]
    by_cases z : q.1 = q.2
    · rw [if_neg (by simp [z])]
      have : putC f q = f := by
        funext y
        unfold putC
        by_cases w : y = q.1
        · rw [if_pos w, w, z]
        · rw [if_neg w]
      show _ = conts (putC f q) M
      rw [this]
      exact cI_triv
    · rw [if_pos (by simpa using z)]
      exact cI_triv (M := M) (f := putC f q)
theorem plc_nm {k : Nat} (h : k < 4) : plc k = nm k := by
  have e : k = 0 ∨ k = 1 ∨ k = 2 ∨ k = 3 := by omega
  rcases e with rfl | rfl | rfl | rfl <;> rfl
theorem plc_of : ∀ x ∈ names4, ∃ k, k < 4 ∧ plc k = x := by
  have : ∀ x ∈ names4, x = plc 0 ∨ x = plc 1 ∨ x = plc 2 ∨ x = plc 3 := by decide
  intro x hx
  rcases this x hx with h | h | h | h
  · exact ⟨0, by decide, h.symm⟩
  · exact ⟨1, by decide, h.symm⟩
  · exact ⟨2, by decide, h.symm⟩
  · exact ⟨3, by decide, h.symm⟩
theorem done_iff {ms : Prs} (ok : MvOk ms) {M : Prs} (hM : ∀ q ∈ M, q.1 ∈ names5 ∧ q.2 ∈ names5) : doneB ms (rowOf M) = true ↔ ∀ x ∈ names4, cI M x = (getS ms x).getD x := by
  have ci : ∀ x ∈ names5, cI M x ∈ names5 := cI_mem (fun _ h => h) fun q hq => (hM q hq).2
  unfold doneB
  rw [List.all_eq_true]
  constructor
  · intro h x hx
    obtain ⟨k, hk, rfl⟩ := plc_of x hx
    have := h k (List.mem_range.mpr hk)
    rw [decide_eq_true_eq, row_at M (by omega), ← (idx45 _ (tgt_mem ok hk)).1] at this
    have := idx_inj _ (ci _ (nm_mem k)) _ (idx45 _ (tgt_mem ok hk)).2.1 (by omega)
    rw [plc_nm hk] at *
    rw [this]
    unfold tgt
    rw [plc_nm hk]
  · intro h k hk
    rw [List.mem_range] at hk
    rw [decide_eq_true_eq, row_at M (by omega), ← plc_nm hk, h _ (plc_mem hk), ← (idx45 _ (tgt_mem ok hk)).1]
    rfl
section
variable {ms : Prs}
theorem mov_facts (ok : MvOk ms) : (movS ms).length ≤ 3 ∧ ((movS ms).map (·.1)).Nodup ∧ (∀ q ∈ movS ms, q.1 ≠ q.2) ∧ (∀ q ∈ movS ms, q.1 ≠ "t") ∧ ∀ q ∈ movS ms, q.1 ∈ names5 ∧ q.2 ∈ names5 :=
  ⟨Nat.le_trans (List.length_filter_le _ _) ok.len, mov_nodup ok.nd, fun q hq => (mov_mem.mp hq).2, fun q hq => (idx45 _ (ok.to_ q (mov_mem.mp hq).1)).2.2, fun q hq => ⟨(idx45 _ (ok.to_ q (mov_mem.mp hq).1)).2.1, (idx45 _ (ok.src q (mov_mem.mp hq).1)).2.1⟩⟩
def manyS (ms : Prs) : Nat := (ordS (movS ms)).length
/-- a row of moves that brings it about is as long at least -/
theorem low_of (ok : MvOk ms) {M : Prs} (hM : ∀ q ∈ M, q.1 ∈ names5 ∧ q.2 ∈ names5) (h : ∀ x ∈ names4, cI M x = (getS ms x).getD x) : manyS ms ≤ M.length := by
  obtain ⟨f1, f2, f3, f4, f5⟩ := mov_facts ok
  obtain ⟨_, ol⟩ := ordS_ok (β := Nat) (L := movS ms) (f := fun _ => 0) (by omega) (Ks := (movS ms).map (·.1)) (fun q hq => List.mem_map_of_mem hq) f2 f3 f4
  unfold manyS
  rw [ol]
  refine low (by omega) f2 f3 (fun q hq => ?_) (fun k hk hkt => ?_) f4
  · have hm := (mov_mem.mp hq).1
    have e : getS ms q.1 = some q.2 := mem_getS ok.nd hm
    have := h q.1 (ok.to_ q hm)
    rw [e] at this
    exact this
  · by_cases h4 : k ∈ names4
    · have := h k h4
      cases g : getS ms k with
      | none => rw [g] at this; exact this
      | some v =>
        rw [g] at this
        by_cases z : k = v
        · rw [← z] at this; exact this
        · exact absurd rfl (hk (k, v) (mov_mem.mpr ⟨getS_mem g, z⟩))
    · refine cI_other fun q hq z => ?_
      have := (hM q hq).1
      rw [z] at this
      have n5 : ∀ x ∈ names5, x ∈ names4 ∨ x = "t" := by decide
      rcases n5 k this with y | y
      · exact h4 y
      · exact hkt y
theorem low_row (ok : MvOk ms) {i : Nat} {r : List Int} (hr : r ∈ rowsN i) (hd : doneB ms r = true) : manyS ms ≤ i := by
  obtain ⟨M, m1, m2, rfl⟩ := reached hr
  rw [← m1]
  exact low_of ok m2 ((done_iff ok m2).mp hd)
theorem high_row (ok : MvOk ms) : ∃ r ∈ rowsN (manyS ms), doneB ms r = true := by
  obtain ⟨f1, f2, f3, f4, f5⟩ := mov_facts ok
  have on := ordS_names (V := names5) (by decide) f5
  obtain ⟨oc, _⟩ := ordS_ok (β := Str) (L := movS ms) (f := fun y => y) (by omega) (Ks := (movS ms).map (·.1)) (fun q hq => List.mem_map_of_mem hq) f2 f3 f4
  have hx : ∀ x ∈ names4, cI (ordS (movS ms)) x = (getS ms x).getD x := fun x hx => by
    have := oc x (idx45 x hx).2.2
    rw [getS_mov ok.nd] at this
    exact this
  refine ⟨rowOf (ordS (movS ms)), reach _ _ rfl on fun q hq => ?_, (done_iff ok on).mpr hx⟩
  have h1 : manyS ms ≤ ((ordS (movS ms)).filter fun q => decide (q.1 ≠ q.2)).length := low_of ok (fun q hq => on q (List.mem_filter.mp hq).1) fun x hx' => by
    have := hx x hx'
    unfold cI at this ⊢
    rw [cI_triv]
    exact this
  have h2 := List.length_filter_le (fun q : Str × Str => decide (q.1 ≠ q.2)) (ordS (movS ms))
  have h3 : ((ordS (movS ms)).filter fun q => decide (q.1 ≠ q.2)).length = (ordS (movS ms)).length := by unfold manyS at h1; omega
  have := List.length_filter_eq_length_iff.mp h3 q hq
  rwa [decide_eq_true_eq] at this
end
end K13
namespace K13
open PySem L2 Co
theorem rows5 : ∀ {i : Nat} {r : List Int}, r ∈ rowsN i → r.length = 5 := fun h => by
  obtain ⟨M, _, _, rfl⟩ := reached h
  rfl
def pickD (ms : Prs) (d : D) : Option D := match d with
  | .tup ds => if doneB ms (ds.map fun d => match d with
      | .int i => i
      | _ => 0) = true then some (.tup ds) else none
  | _ => none
theorem pick_row (ms : Prs) (r : List Int) : pickD ms (rowT r) = if doneB ms r = true then some (rowT r) else none := by
  have : (r.map D.int).map (fun d => match d with
      | .int i => i
      | _ => (0 : Int)) = r := by
    rw [List.map_map]
    exact List.map_id _
  simp only [pickD, rowT, this]
theorem pick_all (ms : Prs) (rows : List (List Int)) : (rows.map rowT).filterMap (pickD ms) = (rows.filter (doneB ms)).map rowT := by
  induction rows with
  | nil => rfl
  | cons r rows ih =>
    rw [List.map_cons, List.filterMap_cons, List.filter_cons, pick_row]
    by_cases z : doneB ms r = true
    · rw [if_pos z, if_pos z, List.map_cons]
      simp only
      rw [ih]
    · rw [if_neg z, if_neg z]
      exact ih
section
variable {x0 x1 x3 x5 x6 : Option D} {s : S} {a : Nat} {i : Nat} {ms : Prs}
/-- how many rows are done: the comprehension under its lock -/
theorem count_ok (w : s.Wf) (ok : MvOk ms) (ha : s.heap a = some (.dT (kvT (rowsN i)))) (hi : i ≤ 4) {Q : D → S → Prop} {E : XP} (hQ : Q (.int (((rowsN i).filter (doneB ms)).length : Nat)) s) :
    wp (argM lenF (consM (lockM (varM 4) (lcM false (.name 6) (anyItM (varM 4)) [6] (truM (argM (meanB ds G 3 5) (consM (varM 2) (consM (varM 6) nilM)))) (varM 6))) nilM) [x0, x1, some (.ct (ms.map mv)), x3, some (.ref a), x5, x6] s) Q E := by
  have al := w.lt ha
  have hlen := rowsN_len i
  have h25 : 25 ^ i ≤ 25 ^ 4 := Nat.pow_le_pow_right (by decide) hi
  have hbig : (rowsN i).length ≤ LINE := by
    rw [line_is]
    have : (25 : Nat) ^ 4 = 390625 := by decide
    omega
  simp only [ev, wps_seq, wps_if, wps_ret, wps_nx, wps_fl, wps_expr, wps_set, wps_setT, wps_setI, wps_setF, wps_lks, wp_bool, wp_tru, wp_notM, wp_andM, wp_orM, wp_ifM, wp_op2, wp_op1, wp_arg, wp_cons, wp_nil, wp_lit, wp_mth, wp_meth, wp_mk, wp_pop, wp_get2, wp_lck, wp_v, wp_ok, wps_ok, List.map_cons, List.map_nil, List.length_cons, List.length_nil, Nat.zero_add, Nat.reduceAdd, Nat.reduceSub, List.replicate_zero, List.replicate_succ, List.cons_append, List.nil_append, List.append_nil, List.getElem?_cons_zero, List.getElem?_cons_succ, List.set_cons_zero, List.set_cons_succ, blF, mtF, opF, cmF, f_add, f_sub, f_mul, f_mod, f_fdiv, f_pow, f_lt, f_le, f_gt, f_ge, f_eqi, f_eqs, f_int, f_neg, upd_heap, upd_next, all_heap, all_next, Bool.false_eq_true, if_true, if_false, decide_eq_true_eq, Nat.sub_self]
  have lk : lkAt (R.ok (.ref a) s) s = some (a, .lkT (kvT (rowsN i))) := by simp [lkAt, ha, lkOb]
  simp only [varM, List.getElem?_cons_zero, List.getElem?_cons_succ, lk]
  have kk : keysDT (kvT (rowsN i)) = (rowsN i).map rowT := by
    unfold keysDT kvT
    rw [List.map_map]
    refine List.map_congr_left fun r _ => ?_
    simp [rowT, rowK, dOfKey]
  have t1 : (s.upd a (.lkT (kvT (rowsN i)))).heap a = some (.lkT (kvT (rowsN i))) := by rw [upd_heap, if_pos rfl]
  have w1 : (s.upd a (.lkT (kvT (rowsN i)))).Wf := w.upd (o := .lkT (kvT (rowsN i))) al (belowL_of fun d hd => by
    obtain ⟨q, hq, rfl⟩ := List.mem_map.mp hd
    obtain ⟨r, hr, rfl⟩ := List.mem_map.mp hq
    trivial)
  have back : (s.upd a (.lkT (kvT (rowsN i)))).upd a (.dT (kvT (rowsN i))) = s := by
    rw [upd_upd]
    exact upd_self ha
  generalize s.upd a (.lkT (kvT (rowsN i))) = t at t1 w1 back ⊢
  refine wp_lc (ds := (rowsN i).map rowT) (gd := some (a, .lkT (kvT (rowsN i)))) (s1 := t) ?_ (pickD ms) t1 (fun d hd => ?_) (by rw [List.length_map]; exact hbig) ?_
  · simp [anyItM, varM, bd_ok, anyIt, lkOf, lkTOf, t1, kk]
  · obtain ⟨r, hr, rfl⟩ := List.mem_map.mp hd
    refine ⟨_, rfl, ?_⟩
    have key : truM (argM (meanB ds G 3 5) (consM (varM 2) (consM (varM 6) nilM))) ((wipeE [x0, x1, some (.ct (ms.map mv)), x3, some (.ref a), x5, x6] [6]).set 6 (some (rowT r))) t = .ok (doneB ms r) t := by
      refine wp_eq ?_
      simp only [wipeE, ev, wps_seq, wps_if, wps_ret, wps_nx, wps_fl, wps_expr, wps_set, wps_setT, wps_setI, wps_setF, wps_lks, wp_bool, wp_tru, wp_notM, wp_andM, wp_orM, wp_ifM, wp_op2, wp_op1, wp_arg, wp_cons, wp_nil, wp_lit, wp_mth, wp_meth, wp_mk, wp_pop, wp_get2, wp_lck, wp_v, wp_ok, wps_ok, List.map_cons, List.map_nil, List.length_cons, List.length_nil, Nat.zero_add, Nat.reduceAdd, Nat.reduceSub, List.replicate_zero, List.replicate_succ, List.cons_append, List.nil_append, List.append_nil, List.getElem?_cons_zero, List.getElem?_cons_succ, List.set_cons_zero, List.set_cons_succ, blF, mtF, opF, cmF, f_add, f_sub, f_mul, f_mod, f_fdiv, f_pow, f_lt, f_le, f_gt, f_ge, f_eqi, f_eqs, f_int, f_neg, upd_heap, upd_next, all_heap, all_next, Bool.false_eq_true, if_true, if_false, decide_eq_true_eq, Nat.sub_self]
      refine done_ok (by decide) w1 ok (rows5 hr) ?_
      exact ⟨rfl, rfl⟩
    rw [pick_row]
    by_cases z : doneB ms r = true
    · rw [if_pos z]
      rw [z] at key
      exact ⟨key, rfl⟩
    · rw [if_neg z]
      rw [show doneB ms r = false by simpa using z] at key
      exact key
  · rw [pick_all]
    have ll : (((rowsN i).filter (doneB ms)).map rowT).length ≤ LINE := by
      rw [List.length_map]
      exact Nat.le_trans (List.length_filter_le _ _) hbig
    have em : mkL false (((rowsN i).filter (doneB ms)).map rowT) t = .ok (.lv (((rowsN i).filter (doneB ms)).map rowT)) t := by
      simp only [mkL, ll, if_true, Bool.false_eq_true, if_false]
    rw [em, wp_ok]
    simp only [t1, ulOb, back, len_lv, List.length_map, ev, wps_seq, wps_if, wps_ret, wps_nx, wps_fl, wps_expr, wps_set, wps_setT, wps_setI, wps_setF, wps_lks, wp_bool, wp_tru, wp_notM, wp_andM, wp_orM, wp_ifM, wp_op2, wp_op1, wp_arg, wp_cons, wp_nil, wp_lit, wp_mth, wp_meth, wp_mk, wp_pop, wp_get2, wp_lck, wp_v, wp_ok, wps_ok, List.map_cons, List.map_nil, List.length_cons, List.length_nil, Nat.zero_add, Nat.reduceAdd, Nat.reduceSub, List.replicate_zero, List.replicate_succ, List.cons_append, List.nil_append, List.append_nil, List.getElem?_cons_zero, List.getElem?_cons_succ, List.set_cons_zero, List.set_cons_succ, blF, mtF, opF, cmF, f_add, f_sub, f_mul, f_mod, f_fdiv, f_pow, f_lt, f_le, f_gt, f_ge, f_eqi, f_eqs, f_int, f_neg, upd_heap, upd_next, all_heap, all_next, Bool.false_eq_true, if_true, if_false, decide_eq_true_eq, Nat.sub_self]
    exact hQ
end
theorem wp_orV {m n : ME D} {env : Co.Env} {s : S} {Q : D → S → Prop} {E : XP} : wp (orV m n env s) Q E = wp (m env s) (fun x s1 => match truD x s1 with
    | some true => Q x s1
    | some false => wp (n env s1) Q E
    | none => False) E := by
  unfold orV
  rw [wp_bd]
  congr 1
  funext x s1
  cases truD x s1 with
  | none => rfl
  | some k => cases k <;> rfl
theorem many_cnt {ms : Prs} (ok : MvOk ms) {i : Nat} (h : i < manyS ms) : ((rowsN i).filter (doneB ms)).length = 0 := by
  rw [List.length_eq_zero_iff, List.filter_eq_nil_iff]
  intro r hr hd
  have := low_row ok hr hd
  omega
theorem many_end {ms : Prs} (ok : MvOk ms) : 0 < ((rowsN (manyS ms)).filter (doneB ms)).length := by
  obtain ⟨r, hr, hd⟩ := high_row ok
  exact List.length_pos_of_mem (List.mem_filter.mpr ⟨hr, hd⟩)
theorem law_true (ns : List Int) (hn : ns.length ≤ 63) : ∃ s', mean ds G 11 [.sc (ns.map .int)] S0 = .ok (.bl true) s' := by
  generalize h1 : (ev (meanB ds G 3) G b_law_l1).s = l1
  have key : wp (mean ds G 11 [.sc (ns.map .int)] S0) (fun d _ => d = .bl true) (fun _ _ _ => False) := by
    rw [mean_eq (d := d_law) rfl]
    refine wp_callB rfl ?_
    simp only [d_law, b_law, ev, wps_seq, wps_if, wps_ret, wps_nx, wps_fl, wps_expr, wps_set, wps_setT, wps_setI, wps_setF, wps_lks, wp_bool, wp_tru, wp_notM, wp_andM, wp_orM, wp_ifM, wp_op2, wp_op1, wp_arg, wp_cons, wp_nil, wp_lit, wp_mth, wp_meth, wp_mk, wp_pop, wp_get2, wp_lck, wp_v, wp_ok, wps_ok, List.map_cons, List.map_nil, List.length_cons, List.length_nil, Nat.zero_add, Nat.reduceAdd, Nat.reduceSub, List.replicate_zero, List.replicate_succ, List.cons_append, List.nil_append, List.append_nil, List.getElem?_cons_zero, List.getElem?_cons_succ, List.set_cons_zero, List.set_cons_succ, blF, mtF, opF, cmF, f_add, f_sub, f_mul, f_mod, f_fdiv, f_pow, f_lt, f_le, f_gt, f_ge, f_eqi, f_eqs, f_int, f_neg, upd_heap, upd_next, all_heap, all_next, Bool.false_eq_true, if_true, if_false, decide_eq_true_eq, Nat.sub_self, h1]
    rw [meanB_eq (by show 1 < 3; decide)]
    refine digits_ok ns 20 (by decide) S0 wf0 fun dg => ?_
    rw [mkL_ref (by show 2 ≤ 1000; decide)]
    simp only [ev, wps_seq, wps_if, wps_ret, wps_nx, wps_fl, wps_expr, wps_set, wps_setT, wps_setI, wps_setF, wps_lks, wp_bool, wp_tru, wp_notM, wp_andM, wp_orM, wp_ifM, wp_op2, wp_op1, wp_arg, wp_cons, wp_nil, wp_lit, wp_mth, wp_meth, wp_mk, wp_pop, wp_get2, wp_lck, wp_v, wp_ok, wps_ok, List.map_cons, List.map_nil, List.length_cons, List.length_nil, Nat.zero_add, Nat.reduceAdd, Nat.reduceSub, List.replicate_zero, List.replicate_succ, List.cons_append, List.nil_append, List.append_nil, List.getElem?_cons_zero, List.getElem?_cons_succ, List.set_cons_zero, List.set_cons_succ, blF, mtF, opF, cmF, f_add, f_sub, f_mul, f_mod, f_fdiv, f_pow, f_lt, f_le, f_gt, f_ge, f_eqi, f_eqs, f_int, f_neg, upd_heap, upd_next, all_heap, all_next, Bool.false_eq_true, if_true, if_false, decide_eq_true_eq, Nat.sub_self]
    have w1 : (S0.alloc (.lst [.lv (dg.map .int), .int 0])).Wf := wf0.alloc (by
      refine ⟨?_, trivial, trivial⟩
      exact below_ints _ dg)
    have b1 : Box (S0.alloc (.lst [.lv (dg.map .int), .int 0])) S0.next := ⟨dg, 0, by rw [all_heap, if_pos rfl], Int.le_refl 0⟩
    generalize S0.alloc (.lst [.lv (dg.map .int), .int 0]) = s1 at w1 b1 ⊢
    have bl : S0.next < s1.next := by obtain ⟨q, k, e1, e2⟩ := b1; exact w1.lt e1
    refine mvs_ok (by decide) w1 b1 bl fun ms t ok af => ?_
    have hl := ok.len
    refine order_ok (by decide) af.wf (anyct ms) ok.nd (by omega) (fun q hq => (idx45 _ (ok.to_ q hq)).2.2) ?_
    have lt : lenF [.tup ((ordS (movS ms)).map mv)] t = .ok (.int (manyS ms : Nat)) t := by simp [lenF, lenD, seqOf, lstOf, manyS]
    rw [lt, wp_ok]
    have em : mkT [.int 0, .int 1, .int 2, .int 3, .int 4] t = .ok (rowT [0, 1, 2, 3, 4]) t := by
      unfold mkT
      rw [if_pos (by rw [line_is]; simp)]
      rfl
    simp only [ev, wps_seq, wps_if, wps_ret, wps_nx, wps_fl, wps_expr, wps_set, wps_setT, wps_setI, wps_setF, wps_lks, wp_bool, wp_tru, wp_notM, wp_andM, wp_orM, wp_ifM, wp_op2, wp_op1, wp_arg, wp_cons, wp_nil, wp_lit, wp_mth, wp_meth, wp_mk, wp_pop, wp_get2, wp_lck, wp_v, wp_ok, wps_ok, List.map_cons, List.map_nil, List.length_cons, List.length_nil, Nat.zero_add, Nat.reduceAdd, Nat.reduceSub, List.replicate_zero, List.replicate_succ, List.cons_append, List.nil_append, List.append_nil, List.getElem?_cons_zero, List.getElem?_cons_succ, List.set_cons_zero, List.set_cons_succ, blF, mtF, opF, cmF, f_add, f_sub, f_mul, f_mod, f_fdiv, f_pow, f_lt, f_le, f_gt, f_ge, f_eqi, f_eqs, f_int, f_neg, upd_heap, upd_next, all_heap, all_next, Bool.false_eq_true, if_true, if_false, decide_eq_true_eq, Nat.sub_self, em]
    have ed : dspTF [rowT [0, 1, 2, 3, 4], .bl true] t = .ok (.ref t.next) (t.alloc (.dT (kvT (rowsN 0)))) := rfl
    simp only [ed, ev, wps_seq, wps_if, wps_ret, wps_nx, wps_fl, wps_expr, wps_set, wps_setT, wps_setI, wps_setF, wps_lks, wp_bool, wp_tru, wp_notM, wp_andM, wp_orM, wp_ifM, wp_op2, wp_op1, wp_arg, wp_cons, wp_nil, wp_lit, wp_mth, wp_meth, wp_mk, wp_pop, wp_get2, wp_lck, wp_v, wp_ok, wps_ok, List.map_cons, List.map_nil, List.length_cons, List.length_nil, Nat.zero_add, Nat.reduceAdd, Nat.reduceSub, List.replicate_zero, List.replicate_succ, List.cons_append, List.nil_append, List.append_nil, List.getElem?_cons_zero, List.getElem?_cons_succ, List.set_cons_zero, List.set_cons_succ, blF, mtF, opF, cmF, f_add, f_sub, f_mul, f_mod, f_fdiv, f_pow, f_lt, f_le, f_gt, f_ge, f_eqi, f_eqs, f_int, f_neg, upd_heap, upd_next, all_heap, all_next, Bool.false_eq_true, if_true, if_false, decide_eq_true_eq, Nat.sub_self]
    have w2 : (t.alloc (.dT (kvT (rowsN 0)))).Wf := af.wf.alloc (by exact ⟨trivial, trivial⟩)
    have a2 : (t.alloc (.dT (kvT (rowsN 0)))).heap t.next = some (.dT (kvT (rowsN 0))) := by rw [all_heap, if_pos rfl]
    generalize t.alloc (.dT (kvT (rowsN 0))) = t2 at w2 a2 ⊢
    generalize t.next = a at a2 ⊢
    obtain ⟨n, hn4, hne⟩ : ∃ n : Nat, n ≤ 4 ∧ n ≤ manyS ms ∧ (manyS ms ≤ 4 → n = manyS ms) ∧ (if (4 : Int) < (manyS ms : Nat) then (4 : Int) else (manyS ms : Nat)) = (n : Int) := by
      by_cases z : 4 < manyS ms
      · exact ⟨4, by omega, by omega, by omega, by rw [if_pos (by omega)]; rfl⟩
      · exact ⟨manyS ms, by omega, by omega, fun _ => rfl, by rw [if_neg (by omega)]⟩
    obtain ⟨hnm, hnf, hnv⟩ := hne
    have hit : rng1M (argM min2F (consM (varM 3) (consM (litM (.int 4)) nilM))) [some (.sc (ns.map .int)), some (.ref S0.next), some (.ct (ms.map mv)), some (.int (manyS ms : Nat)), some (.ref a), none, none] t2 = .ok (rngD 0 n, none) t2 := by
      have e62 : (1000 : Int) < 2 ^ 62 := by decide
      have e62' : (-(2 : Int) ^ 62) ≤ 0 := by decide
      have r := f_rng1 (i := (n : Int)) (s := t2) ⟨by omega, by omega⟩
      rw [Int.toNat_natCast] at r
      simp only [rng1M, argM, consM, nilM, varM, litM, List.getElem?_cons_zero, List.getElem?_cons_succ, bd_ok, min2F, hnv, r]
    refine wps_for (fun i env t => ∃ a x5 x6, env = [some (.sc (ns.map .int)), some (.ref S0.next), some (.ct (ms.map mv)), some (.int (manyS ms : Nat)), some (.ref a), x5, x6] ∧ t.Wf ∧ t.heap a = some (.dT (kvT (rowsN i)))) hit ⟨a, _, _, rfl, w2, a2⟩ (fun _ _ _ _ _ => trivial) (fun i d env t hd hi => ?_) fun env t hi => ?_
    · obtain ⟨a, x5, x6, rfl, w, ha⟩ := hi
      obtain ⟨hk, rfl⟩ := rngD_is hd
      refine ⟨_, rfl, ?_⟩
      subst h1
      unfold b_law_l1
      rw [show (ev (meanB ds G 3) G (.seq
 (.ifs (.tcmp .gt (.blt .len false (.cons (.lk (.var 4) (.lc false (.name 6) [6] (.it (.var 4)) (.tru (.call 5 (.cons (.var 2) (.cons (.var 6) .nil)))) (.var 6))) .nil)) (.int 0)) (.seq
 (.ret (.bl false))
 .skip) .skip)
 (.seq
 (.set 4 (.call 6 (.cons (.var 4) .nil)))
 .skip))).s = seqM (ifS (boolM (op2M gtF (argM lenF (consM (lockM (varM 4) (lcM false (.name 6) (anyItM (varM 4)) [6] (truM (argM (meanB ds G 3 5) (consM (varM 2) (consM (varM 6) nilM)))) (varM 6))) nilM)) (litM (.int 0)))) (seqM (retM (litM (.bl false))) nxM) nxM) (seqM (setM 4 (argM (meanB ds G 3 6) (consM (varM 4) nilM))) nxM) from rfl]
      rw [wps_seq, wps_if, wp_bool, wp_op2]
      refine count_ok w ok ha (by omega) ?_
      rw [many_cnt ok (show i < manyS ms by omega)]
      simp only [ev, wps_seq, wps_if, wps_ret, wps_nx, wps_fl, wps_expr, wps_set, wps_setT, wps_setI, wps_setF, wps_lks, wp_bool, wp_tru, wp_notM, wp_andM, wp_orM, wp_ifM, wp_op2, wp_op1, wp_arg, wp_cons, wp_nil, wp_lit, wp_mth, wp_meth, wp_mk, wp_pop, wp_get2, wp_lck, wp_v, wp_ok, wps_ok, List.map_cons, List.map_nil, List.length_cons, List.length_nil, Nat.zero_add, Nat.reduceAdd, Nat.reduceSub, List.replicate_zero, List.replicate_succ, List.cons_append, List.nil_append, List.append_nil, List.getElem?_cons_zero, List.getElem?_cons_succ, List.set_cons_zero, List.set_cons_succ, blF, mtF, opF, cmF, f_add, f_sub, f_mul, f_mod, f_fdiv, f_pow, f_lt, f_le, f_gt, f_ge, f_eqi, f_eqs, f_int, f_neg, upd_heap, upd_next, all_heap, all_next, Bool.false_eq_true, if_true, if_false, decide_eq_true_eq, Nat.sub_self]
      have e0 : ¬ ((0 : Int) < ((0 : Nat) : Int)) := by omega
      simp only [e0, decide_false, ev, wps_seq, wps_if, wps_ret, wps_nx, wps_fl, wps_expr, wps_set, wps_setT, wps_setI, wps_setF, wps_lks, wp_bool, wp_tru, wp_notM, wp_andM, wp_orM, wp_ifM, wp_op2, wp_op1, wp_arg, wp_cons, wp_nil, wp_lit, wp_mth, wp_meth, wp_mk, wp_pop, wp_get2, wp_lck, wp_v, wp_ok, wps_ok, List.map_cons, List.map_nil, List.length_cons, List.length_nil, Nat.zero_add, Nat.reduceAdd, Nat.reduceSub, List.replicate_zero, List.replicate_succ, List.cons_append, List.nil_append, List.append_nil, List.getElem?_cons_zero, List.getElem?_cons_succ, List.set_cons_zero, List.set_cons_succ, blF, mtF, opF, cmF, f_add, f_sub, f_mul, f_mod, f_fdiv, f_pow, f_lt, f_le, f_gt, f_ge, f_eqi, f_eqs, f_int, f_neg, upd_heap, upd_next, all_heap, all_next, Bool.false_eq_true, if_true, if_false, decide_eq_true_eq, Nat.sub_self]
      have l30 : (rowsN i).length ≤ 30000 := by
        have h1 := rowsN_len i
        have h25 : 25 ^ i ≤ 25 ^ 3 := Nat.pow_le_pow_right (by decide) (by omega)
        have : (25 : Nat) ^ 3 = 15625 := by decide
        omega
      refine next_ok (by decide) w ha (fun r hr => rows5 hr) l30 ?_
      refine ⟨_, _, _, rfl, w.alloc (belowL_of fun d hd => ?_), by rw [all_heap, if_pos rfl]; rfl⟩
      obtain ⟨q, hq, rfl⟩ := List.mem_map.mp hd
      obtain ⟨r, hr, rfl⟩ := List.mem_map.mp hq
      trivial
    · obtain ⟨a, x5, x6, rfl, w, ha⟩ := hi
      rw [rngD_len] at ha
      simp only [wps_seq, wps_ret, wp_orV, wp_op2]
      refine count_ok w ok ha hn4 ?_
      simp only [ev, wps_seq, wps_if, wps_ret, wps_nx, wps_fl, wps_expr, wps_set, wps_setT, wps_setI, wps_setF, wps_lks, wp_bool, wp_tru, wp_notM, wp_andM, wp_orM, wp_ifM, wp_op2, wp_op1, wp_arg, wp_cons, wp_nil, wp_lit, wp_mth, wp_meth, wp_mk, wp_pop, wp_get2, wp_lck, wp_v, wp_ok, wps_ok, List.map_cons, List.map_nil, List.length_cons, List.length_nil, Nat.zero_add, Nat.reduceAdd, Nat.reduceSub, List.replicate_zero, List.replicate_succ, List.cons_append, List.nil_append, List.append_nil, List.getElem?_cons_zero, List.getElem?_cons_succ, List.set_cons_zero, List.set_cons_succ, blF, mtF, opF, cmF, f_add, f_sub, f_mul, f_mod, f_fdiv, f_pow, f_lt, f_le, f_gt, f_ge, f_eqi, f_eqs, f_int, f_neg, upd_heap, upd_next, all_heap, all_next, Bool.false_eq_true, if_true, if_false, decide_eq_true_eq, Nat.sub_self]
      by_cases z : manyS ms ≤ 4
      · have e1 : (0 : Int) < (((rowsN n).filter (doneB ms)).length : Nat) := by
          rw [hnf z]
          have := many_end ok
          omega
        simp only [e1, decide_true, truD]
      · by_cases y : (0 : Int) < (((rowsN n).filter (doneB ms)).length : Nat)
        · simp only [y, decide_true, truD]
        · have e2 : (4 : Int) < (manyS ms : Nat) := by omega
          simp only [y, e2, decide_true, decide_false, truD, ev, wps_seq, wps_if, wps_ret, wps_nx, wps_fl, wps_expr, wps_set, wps_setT, wps_setI, wps_setF, wps_lks, wp_bool, wp_tru, wp_notM, wp_andM, wp_orM, wp_ifM, wp_op2, wp_op1, wp_arg, wp_cons, wp_nil, wp_lit, wp_mth, wp_meth, wp_mk, wp_pop, wp_get2, wp_lck, wp_v, wp_ok, wps_ok, List.map_cons, List.map_nil, List.length_cons, List.length_nil, Nat.zero_add, Nat.reduceAdd, Nat.reduceSub, List.replicate_zero, List.replicate_succ, List.cons_append, List.nil_append, List.append_nil, List.getElem?_cons_zero, List.getElem?_cons_succ, List.set_cons_zero, List.set_cons_succ, blF, mtF, opF, cmF, f_add, f_sub, f_mul, f_mod, f_fdiv, f_pow, f_lt, f_le, f_gt, f_ge, f_eqi, f_eqs, f_int, f_neg, upd_heap, upd_next, all_heap, all_next, Bool.false_eq_true, if_true, if_false, decide_eq_true_eq, Nat.sub_self]
  obtain ⟨d, s', h1, h2⟩ := wp_get key
  exact ⟨s', by rw [h1, h2]⟩
end K13
open PySem PySem.W PySem.Calls PyProof.Rows
theorem PySem.Challenge.cw_stopsheld_k13_no_shorter_moves_holds : PySem.Challenge.rw_stopsheld_k13_no_shorter_moves.Holds := by
  w_on; o_law
  refine HandSHeadRun.head_any (r := OpenLaw.row PySem.Challenge.rw_stopsheld_k13_no_shorter_moves) (q := view (OpenLaw.row PySem.Challenge.rw_stopsheld_k13_no_shorter_moves).prog [14]) (H := K13.hk) (ob := K13.ob) (M := 1500) (loose := K13.loose) (d := HandSHeadRun.topDef (OpenLaw.row PySem.Challenge.rw_stopsheld_k13_no_shorter_moves).prog 14) (kwd := []) K13.ob_eq
    (by kernel_rfl) (fun s => by kernel_rfl) K13.run (by kernel_rfl) (by kernel_rfl) (by kernel_rfl) (by rfl) (by first | assumption | decide +kernel) (by decide +kernel) ⟨rfl, rfl, rfl, rfl, rfl, by decide +kernel⟩ ?hw ?hc
  case hw => w_witness2
  case hc =>
    exact Co.walkG (l := PySem.Challenge.rw_stopsheld_k13_no_shorter_moves) (n := 63) (ds := K13.ds) (G := K13.G) (gls := K13.gls) (frees := K13.frees) (nats := K13.nats) (j := 11) (d := K13.d_law) rfl (by decide) (by kernel_rfl) rfl ⟨rfl, by decide +kernel, by decide +kernel⟩ (by kernel_rfl) rfl rfl
      K13.checked (fun K mg h X N c => ⟨K13.nfacts X N c, K13.kinds X N c, K13.funs c⟩) K13.law_true
