import PyProof.Rows.All
import Wide.All
import OpenK.AllK
import Wide.FinOn
import HandS.ForMost
import HandS.Exc
import HandS.WordsExc
import HandS.TryOnly
import HandS.Wide
import HandS.IsInst
import HandS.ClsMeth
import HandS.TupAny
import HandS.TupLe
import HandS.OwnEq
import HandS.ExcInit
import HandS.ExcField
import HandS.ExcIs
import HandS.TryMany
import KE.KExcInit
import KE.KOpsOwn
import HandS.Iter
import KE.GoesMore
import PyProof.EnumMake
import HandS.Defaults
import KE.KTupSum
import HandS.More
import HandS.SetFor
import HandS.SortInts
import HandS.EndBits
import PySem.Challenge.RW_tellontree_k56_whole_least_period
set_option Elab.async false
set_option linter.all false
set_option maxRecDepth 100000
set_option maxHeartbeats 8000000
/-! pure data, a store of tracked objects, and how they stand in the layer's heap -/
namespace SI
open PySem PySem.Spec PyProof.Rows L2

/-- pure data; ref n: the n-th tracked object -/
inductive D where
  | non | bl (b : Bool) | int (i : Int) | str (x : Str) | ty (n : String) | gl (a : Addr) | ref (n : Nat)
  | tup (xs : List D) | lst (xs : List D) | rdl (xs : List D)
  | dk (ks : List Key) (vs : List D) | dt (ks : List (List Key)) (vs : List D)
  | ins (C : Addr) (fs : List Str) (vs : List D)
  | exc (a C : Addr) (od : Option Addr) (fs : List Str) (vs : List D)
/-- a tracked object -/
inductive O where
  | lst (xs : List D) | dk (ks : List Key) (vs : List D) | dt (ks : List (List Key)) (vs : List D)
  | ins (C : Addr) (fs : List Str) (vs : List D) | gone
mutual
def D.beq : D → D → Bool
  | .non, .non => true
  | .bl a, .bl b => a == b
  | .int a, .int b => a == b
  | .str a, .str b => decide (a = b)
  | .ty a, .ty b => a == b
  | .gl a, .gl b => a == b
  | .ref a, .ref b => a == b
  | .tup a, .tup b => D.beqs a b
  | .lst a, .lst b => D.beqs a b
  | .rdl a, .rdl b => D.beqs a b
  | .dk k a, .dk l b => decide (k = l) && D.beqs a b
  | .dt k a, .dt l b => decide (k = l) && D.beqs a b
  | .ins C k a, .ins E l b => decide (C = E) && (decide (k = l) && D.beqs a b)
  | .exc x C o k a, .exc y E p l b => decide (x = y) && (decide (C = E) && (decide (o = p) && (decide (k = l) && D.beqs a b)))
  | _, _ => false
def D.beqs : List D → List D → Bool
  | [], [] => true
  | x :: xs, y :: ys => D.beq x y && D.beqs xs ys
  | _, _ => false
end
mutual
theorem D.beq_iff : ∀ a b : D, D.beq a b = true ↔ a = b
  | .non, b => by cases b <;> simp [D.beq]
  | .bl _, b => by cases b <;> simp [D.beq]
  | .int _, b => by cases b <;> simp [D.beq]
  | .str _, b => by cases b <;> simp [D.beq]
  | .ty _, b => by cases b <;> simp [D.beq]
  | .gl _, b => by cases b <;> simp [D.beq]
  | .ref _, b => by cases b <;> simp [D.beq]
  | .tup xs, b => by cases b <;> simp [D.beq, D.beqs_iff xs]
  | .lst xs, b => by cases b <;> simp [D.beq, D.beqs_iff xs]
  | .rdl xs, b => by cases b <;> simp [D.beq, D.beqs_iff xs]
  | .dk _ xs, b => by cases b <;> simp [D.beq, D.beqs_iff xs]
  | .dt _ xs, b => by cases b <;> simp [D.beq, D.beqs_iff xs]
  | .ins _ _ xs, b => by cases b <;> simp [D.beq, D.beqs_iff xs]
  | .exc _ _ _ _ xs, b => by cases b <;> simp [D.beq, D.beqs_iff xs]
theorem D.beqs_iff : ∀ a b : List D, D.beqs a b = true ↔ a = b
  | [], b => by cases b <;> simp [D.beqs]
  | x :: xs, b => by cases b <;> simp [D.beqs, D.beq_iff x, D.beqs_iff xs]
end
instance : DecidableEq D := fun a b => decidable_of_iff _ (D.beq_iff a b)
def O.beq : O → O → Bool
  | .lst a, .lst b => D.beqs a b
  | .dk k a, .dk l b => decide (k = l) && D.beqs a b
  | .dt k a, .dt l b => decide (k = l) && D.beqs a b
  | .ins C k a, .ins E l b => decide (C = E) && (decide (k = l) && D.beqs a b)
  | .gone, .gone => true
  | _, _ => false
theorem O.beq_iff (a b : O) : O.beq a b = true ↔ a = b := by
  cases a <;> cases b <;> simp [O.beq, D.beqs_iff]
instance : DecidableEq O := fun a b => decidable_of_iff _ (O.beq_iff a b)
mutual
/-- every ref in it is below n -/
def D.bel (n : Nat) : D → Bool
  | .ref k => decide (k < n)
  | .tup xs => D.bels n xs
  | .lst xs => D.bels n xs
  | .rdl xs => D.bels n xs
  | .dk _ xs => D.bels n xs
  | .dt _ xs => D.bels n xs
  | .ins _ _ xs => D.bels n xs
  | .exc _ _ _ _ xs => D.bels n xs
  | _ => true
def D.bels (n : Nat) : List D → Bool
  | [] => true
  | x :: xs => D.bel n x && D.bels n xs
end
def O.bel (n : Nat) : O → Bool
  | .lst xs => D.bels n xs
  | .dk _ xs => D.bels n xs
  | .dt _ xs => D.bels n xs
  | .ins _ _ xs => D.bels n xs
  | .gone => true
abbrev S := List O
abbrev Mu := List (Option Addr)

/-- at a stands u, and a is not tracked -/
def Live (mu : Mu) (a : Addr) : Prop := some a ∈ mu
def Fix (mu : Mu) (H : Hp) (a : Addr) (u : HO) : Prop := H a = some u ∧ ¬ Live mu a
def FixR (mu : Mu) (H : Hp) (a : Addr) (u : HO) : Prop := Rd H a u ∧ ¬ Live mu a
def KTup (K : PySem.W.Frag) (a : Addr) (xs : List V) : Prop :=
  ∃ (o : Obj) (its : Array Value) (n : Nat), K.lookup a = some o ∧ o.cls = .type "tuple" ∧ o.data = .seq its n ∧ its.size ≤ sizeLine ∧ Vals xs its.toList
def KLst (K : PySem.W.Frag) (a : Addr) (xs : List V) : Prop :=
  ∃ (o : Obj) (its : Array Value) (n : Nat), K.lookup a = some o ∧ o.cls = .type "list" ∧ o.dict = none ∧ o.data = .seq its n ∧ its.size ≤ sizeLine ∧ Vals xs its.toList

mutual
def RelD (K : PySem.W.Frag) (mu : Mu) (H : Hp) : D → V → Prop
  | .non, v => v = .non
  | .bl b, v => v = .bl b
  | .int i, v => v = .int i
  | .str x, v => v = .str x
  | .ty n, v => v = .ty n
  | .gl a, v => v = .ref a
  | .ref n, v => ∃ a, mu[n]? = some (some a) ∧ v = .ref a
  | .tup xs, v => ∃ a vs, v = .ref a ∧ (KTup K a vs ∨ Fix mu H a (.tup vs)) ∧ RelDs K mu H xs vs
  | .lst xs, v => ∃ a vs, v = .ref a ∧ Fix mu H a (.lst vs) ∧ RelDs K mu H xs vs
  | .rdl xs, v => ∃ a vs, v = .ref a ∧ (KLst K a vs ∨ FixR mu H a (.lst vs)) ∧ RelDs K mu H xs vs
  | .dk ks ds, v => ∃ a vs, v = .ref a ∧ Fix mu H a (.dK (ks.zip vs)) ∧ ks.length = vs.length ∧ RelDs K mu H ds vs
  | .dt ks ds, v => ∃ a vs, v = .ref a ∧ Fix mu H a (.dT (ks.zip vs)) ∧ ks.length = vs.length ∧ RelDs K mu H ds vs
  | .ins C fs ds, v => ∃ a dx vs, v = .ref a ∧ H a = some (.ins C dx (fs.zip vs)) ∧ ¬ Live mu a ∧ fs.length = vs.length ∧ RelDs K mu H ds vs
  | .exc a C od fs ds, v => v = .ref a ∧ ∃ vs, ((fs = [] ∧ od = none) ∨ ∃ d, od = some d ∧ H d = some (.xd (fs.zip vs)) ∧ ¬ Live mu d) ∧ fs.length = vs.length ∧ RelDs K mu H ds vs
def RelDs (K : PySem.W.Frag) (mu : Mu) (H : Hp) : List D → List V → Prop
  | [], vs => vs = []
  | x :: xs, vs => ∃ v r, vs = v :: r ∧ RelD K mu H x v ∧ RelDs K mu H xs r
end

/-- from one state of the heap to a later one: what is not tracked stays, what is tracked stays tracked -/
structure Ge (mu : Mu) (H : Hp) (mu' : Mu) (H' : Hp) : Prop where
  fr : ∀ a o, H a = some o → ¬ Live mu a → H' a = some o ∧ ¬ Live mu' a
  rf : ∀ (n : Nat) (a : Addr), mu[n]? = some (some a) → mu'[n]? = some (some a)
theorem Ge.refl (mu : Mu) (H : Hp) : Ge mu H mu H := ⟨fun _ _ h n => ⟨h, n⟩, fun _ _ h => h⟩
theorem Ge.trans {mu mu1 mu2 : Mu} {H H1 H2 : Hp} (a : Ge mu H mu1 H1) (b : Ge mu1 H1 mu2 H2) : Ge mu H mu2 H2 :=
  ⟨fun c o h n => b.fr c o (a.fr c o h n).1 (a.fr c o h n).2, fun n c h => b.rf n c (a.rf n c h)⟩
theorem Ge.fix {mu mu' : Mu} {H H' : Hp} (g : Ge mu H mu' H') {a : Addr} {u : HO} (h : Fix mu H a u) : Fix mu' H' a u := g.fr a u h.1 h.2
theorem Ge.fixR {mu mu' : Mu} {H H' : Hp} (g : Ge mu H mu' H') {a : Addr} {u : HO} (h : FixR mu H a u) : FixR mu' H' a u := by
  obtain ⟨h, n⟩ := h
  rcases h with h | ⟨o, h⟩
  · exact ⟨.inl (g.fr _ _ h n).1, (g.fr _ _ h n).2⟩
  · exact ⟨.inr ⟨o, (g.fr _ _ h n).1⟩, (g.fr _ _ h n).2⟩
mutual
theorem RelD.mono {K : PySem.W.Frag} {mu mu' : Mu} {H H' : Hp} (g : Ge mu H mu' H') : ∀ (d : D) (v : V), RelD K mu H d v → RelD K mu' H' d v
  | .non, _, h => by simpa only [RelD] using h
  | .bl _, _, h => by simpa only [RelD] using h
  | .int _, _, h => by simpa only [RelD] using h
  | .str _, _, h => by simpa only [RelD] using h
  | .ty _, _, h => by simpa only [RelD] using h
  | .gl _, _, h => by simpa only [RelD] using h
  | .ref n, v, h => by
    simp only [RelD] at h ⊢
    obtain ⟨a, e, r⟩ := h
    exact ⟨a, g.rf n a e, r⟩
  | .tup xs, v, h => by
    simp only [RelD] at h ⊢
    obtain ⟨a, vs, e, r, t⟩ := h
    exact ⟨a, vs, e, r.imp id g.fix, RelDs.mono g xs vs t⟩
  | .lst xs, v, h => by
    simp only [RelD] at h ⊢
    obtain ⟨a, vs, e, r, t⟩ := h
    exact ⟨a, vs, e, g.fix r, RelDs.mono g xs vs t⟩
  | .rdl xs, v, h => by
    simp only [RelD] at h ⊢
    obtain ⟨a, vs, e, r, t⟩ := h
    exact ⟨a, vs, e, r.imp id g.fixR, RelDs.mono g xs vs t⟩
  | .dk ks xs, v, h => by
    simp only [RelD] at h ⊢
    obtain ⟨a, vs, e, r, l, t⟩ := h
    exact ⟨a, vs, e, g.fix r, l, RelDs.mono g xs vs t⟩
  | .dt ks xs, v, h => by
    simp only [RelD] at h ⊢
    obtain ⟨a, vs, e, r, l, t⟩ := h
    exact ⟨a, vs, e, g.fix r, l, RelDs.mono g xs vs t⟩
  | .ins C fs xs, v, h => by
    simp only [RelD] at h ⊢
    obtain ⟨a, dx, vs, e, r, nl, l, t⟩ := h
    exact ⟨a, dx, vs, e, (g.fr _ _ r nl).1, (g.fr _ _ r nl).2, l, RelDs.mono g xs vs t⟩
  | .exc a C od fs xs, v, h => by
    simp only [RelD] at h ⊢
    obtain ⟨e, vs, r, l, t⟩ := h
    exact ⟨e, vs, r.imp id fun ⟨d, e1, e2, e3⟩ => ⟨d, e1, (g.fr _ _ e2 e3).1, (g.fr _ _ e2 e3).2⟩, l, RelDs.mono g xs vs t⟩
theorem RelDs.mono {K : PySem.W.Frag} {mu mu' : Mu} {H H' : Hp} (g : Ge mu H mu' H') : ∀ (ds : List D) (vs : List V), RelDs K mu H ds vs → RelDs K mu' H' ds vs
  | [], vs, h => by simpa only [RelDs] using h
  | x :: xs, vs, h => by
    simp only [RelDs] at h ⊢
    obtain ⟨v, r, e, h1, h2⟩ := h
    exact ⟨v, r, e, RelD.mono g x v h1, RelDs.mono g xs r h2⟩
end
theorem RelDs.length {K : PySem.W.Frag} {mu : Mu} {H : Hp} : ∀ {ds : List D} {vs : List V}, RelDs K mu H ds vs → ds.length = vs.length
  | [], vs, h => by
    simp only [RelDs] at h
    rw [h]
    rfl
  | x :: xs, vs, h => by
    simp only [RelDs] at h
    obtain ⟨v, r, rfl, _, h2⟩ := h
    rw [List.length_cons, List.length_cons, RelDs.length h2]
theorem RelDs.get {K : PySem.W.Frag} {mu : Mu} {H : Hp} : ∀ {ds : List D} {vs : List V} {i : Nat} {d : D}, RelDs K mu H ds vs → ds[i]? = some d → ∃ v, vs[i]? = some v ∧ RelD K mu H d v
  | [], vs, i, d, h, e => by simp at e
  | x :: xs, vs, 0, d, h, e => by
    simp only [RelDs] at h
    obtain ⟨v, r, rfl, h1, h2⟩ := h
    have e' : x = d := by simpa using e
    subst e'
    exact ⟨v, rfl, h1⟩
  | x :: xs, vs, i + 1, d, h, e => by
    simp only [RelDs] at h
    obtain ⟨v, r, rfl, h1, h2⟩ := h
    obtain ⟨w, e1, e2⟩ := RelDs.get (i := i) (d := d) h2 (by simpa using e)
    exact ⟨w, by simpa using e1, e2⟩
theorem RelDs.getV {K : PySem.W.Frag} {mu : Mu} {H : Hp} {ds : List D} {vs : List V} {i : Nat} {v : V} (h : RelDs K mu H ds vs) (e : vs[i]? = some v) : ∃ d, ds[i]? = some d ∧ RelD K mu H d v := by
  have hl := h.length
  have hi : i < vs.length := by
    rcases Nat.lt_or_ge i vs.length with z | z
    · exact z
    · rw [List.getElem?_eq_none z] at e
      cases e
  have hd : i < ds.length := by omega
  obtain ⟨w, e1, e2⟩ := h.get (List.getElem?_eq_getElem hd)
  rw [e] at e1
  cases e1
  exact ⟨_, List.getElem?_eq_getElem hd, e2⟩
theorem RelDs.nil {K : PySem.W.Frag} {mu : Mu} {H : Hp} : RelDs K mu H [] [] := by simp only [RelDs]
theorem RelDs.cons {K : PySem.W.Frag} {mu : Mu} {H : Hp} {d : D} {v : V} {ds : List D} {vs : List V} (h : RelD K mu H d v) (t : RelDs K mu H ds vs) : RelDs K mu H (d :: ds) (v :: vs) := by
  simp only [RelDs]
  exact ⟨v, vs, rfl, h, t⟩
theorem RelDs.append {K : PySem.W.Frag} {mu : Mu} {H : Hp} : ∀ {ds es : List D} {vs us : List V}, RelDs K mu H ds vs → RelDs K mu H es us → RelDs K mu H (ds ++ es) (vs ++ us)
  | [], es, vs, us, h, k => by
    simp only [RelDs] at h
    subst h
    exact k
  | x :: xs, es, vs, us, h, k => by
    simp only [RelDs] at h
    obtain ⟨v, r, rfl, h1, h2⟩ := h
    exact .cons h1 (RelDs.append h2 k)
theorem RelDs.set {K : PySem.W.Frag} {mu : Mu} {H : Hp} {d : D} {v : V} (hd : RelD K mu H d v) : ∀ {ds : List D} {vs : List V} (i : Nat), RelDs K mu H ds vs → RelDs K mu H (ds.set i d) (vs.set i v)
  | [], vs, i, h => by
    simp only [RelDs] at h
    subst h
    exact .nil
  | x :: xs, vs, 0, h => by
    simp only [RelDs] at h
    obtain ⟨w, r, rfl, h1, h2⟩ := h
    exact .cons hd h2
  | x :: xs, vs, i + 1, h => by
    simp only [RelDs] at h
    obtain ⟨w, r, rfl, h1, h2⟩ := h
    exact .cons h1 (RelDs.set hd i h2)
theorem RelDs.take {K : PySem.W.Frag} {mu : Mu} {H : Hp} : ∀ {ds : List D} {vs : List V} (n : Nat), RelDs K mu H ds vs → RelDs K mu H (ds.take n) (vs.take n)
  | _, _, 0, _ => by simpa using RelDs.nil
  | [], vs, n + 1, h => by
    simp only [RelDs] at h
    subst h
    exact .nil
  | x :: xs, vs, n + 1, h => by
    simp only [RelDs] at h
    obtain ⟨w, r, rfl, h1, h2⟩ := h
    exact .cons h1 (RelDs.take n h2)
theorem RelDs.drop {K : PySem.W.Frag} {mu : Mu} {H : Hp} : ∀ {ds : List D} {vs : List V} (n : Nat), RelDs K mu H ds vs → RelDs K mu H (ds.drop n) (vs.drop n)
  | _, _, 0, h => h
  | [], vs, n + 1, h => by
    simp only [RelDs] at h
    subst h
    exact .nil
  | x :: xs, vs, n + 1, h => by
    simp only [RelDs] at h
    obtain ⟨w, r, rfl, h1, h2⟩ := h
    exact RelDs.drop n h2
theorem RelDs.ints {K : PySem.W.Frag} {mu : Mu} {H : Hp} : ∀ (ns : List Int), RelDs K mu H (ns.map D.int) (ns.map V.int)
  | [] => .nil
  | n :: r => .cons (by simp only [RelD]) (RelDs.ints r)

/-- what a tracked object is -/
def OR (K : PySem.W.Frag) (mu : Mu) (H : Hp) (a : Addr) : O → Prop
  | .lst xs => ∃ vs, H a = some (.lst vs) ∧ RelDs K mu H xs vs
  | .dk ks ds => ∃ vs, H a = some (.dK (ks.zip vs)) ∧ ks.length = vs.length ∧ RelDs K mu H ds vs
  | .dt ks ds => ∃ vs, H a = some (.dT (ks.zip vs)) ∧ ks.length = vs.length ∧ RelDs K mu H ds vs
  | .ins C fs ds => ∃ dx vs, H a = some (.ins C dx (fs.zip vs)) ∧ fs.length = vs.length ∧ RelDs K mu H ds vs
  | .gone => True
theorem OR.mono {K : PySem.W.Frag} {mu mu' : Mu} {H H' : Hp} {a : Addr} (g : Ge mu H mu' H') (e : H' a = H a) : ∀ {o : O}, OR K mu H a o → OR K mu' H' a o
  | .lst xs, ⟨vs, h, r⟩ => ⟨vs, e.trans h, r.mono g⟩
  | .dk ks ds, ⟨vs, h, l, r⟩ => ⟨vs, e.trans h, l, r.mono g⟩
  | .dt ks ds, ⟨vs, h, l, r⟩ => ⟨vs, e.trans h, l, r.mono g⟩
  | .ins C fs ds, ⟨dx, vs, h, l, r⟩ => ⟨dx, vs, e.trans h, l, r.mono g⟩
  | .gone, _ => trivial

structure Sim (K : PySem.W.Frag) (mu : Mu) (s : S) (H : Hp) : Prop where
  len : mu.length = s.length
  inj : ∀ (i j : Nat) (a : Addr), mu[i]? = some (some a) → mu[j]? = some (some a) → i = j
  dom : ∀ a, Live mu a → ∃ o, H a = some o
  obj : ∀ (n : Nat) (o : O), s[n]? = some o → o = .gone ∨ ∃ a, mu[n]? = some (some a) ∧ OR K mu H a o
theorem live_at {mu : Mu} {n : Nat} {a : Addr} (h : mu[n]? = some (some a)) : Live mu a := List.mem_of_getElem? h
theorem live_iff {mu : Mu} {a : Addr} : Live mu a ↔ ∃ n : Nat, mu[n]? = some (some a) := List.mem_iff_getElem?
theorem live_app {mu : Mu} {a p : Addr} : Live (mu ++ [some p]) a ↔ Live mu a ∨ a = p := by
  unfold Live
  simp
section
variable {K : PySem.W.Frag} {mu : Mu} {s : S} {H : Hp} {p : Addr} {u : HO}
theorem Sim.fresh (m : Sim K mu s H) (hp : H p = none) : ¬ Live mu p := fun z => by
  obtain ⟨o, e⟩ := m.dom p z
  rw [hp] at e
  cases e
/-- a new object that is not tracked -/
theorem Ge.pure (m : Sim K mu s H) (hp : H p = none) : Ge mu H mu (upd H p u) :=
  ⟨fun a o h n => ⟨by rw [upd_ne (ne_of_none h hp)]; exact h, n⟩, fun _ _ h => h⟩
theorem Sim.pure (m : Sim K mu s H) (hp : H p = none) : Sim K mu s (upd H p u) where
  len := m.len
  inj := m.inj
  dom := fun a l => by
    obtain ⟨o, e⟩ := m.dom a l
    exact ⟨o, by rw [upd_ne (ne_of_none e hp)]; exact e⟩
  obj := fun n o e => by
    rcases m.obj n o e with z | ⟨a, e1, r⟩
    · exact .inl z
    · refine .inr ⟨a, e1, r.mono (Ge.pure m hp) ?_⟩
      obtain ⟨ob, e2⟩ := m.dom a (live_at e1)
      exact upd_ne (ne_of_none e2 hp)
/-- a new tracked object -/
theorem Ge.track (m : Sim K mu s H) (hp : H p = none) : Ge mu H (mu ++ [some p]) (upd H p u) :=
  ⟨fun a o h n => ⟨by rw [upd_ne (ne_of_none h hp)]; exact h, fun z => (live_app.mp z).elim n (fun e => ne_of_none h hp e)⟩,
   fun n a h => by
    have hn : n < mu.length := (List.getElem?_eq_some_iff.mp h).1
    rw [List.getElem?_append_left hn]
    exact h⟩
theorem Sim.track {o : O} (m : Sim K mu s H) (hp : H p = none) (ho : OR K (mu ++ [some p]) (upd H p u) p o) : Sim K (mu ++ [some p]) (s ++ [o]) (upd H p u) where
  len := by
    rw [List.length_append, List.length_append, m.len]
    rfl
  inj := fun i j a h1 h2 => by
    rcases Nat.lt_or_ge i mu.length with hi | hi <;> rcases Nat.lt_or_ge j mu.length with hj | hj
    · rw [List.getElem?_append_left hi] at h1
      rw [List.getElem?_append_left hj] at h2
      exact m.inj i j a h1 h2
    · rw [List.getElem?_append_left hi] at h1
      rw [List.getElem?_append_right hj] at h2
      have e : p = a := by
        cases q : j - mu.length with
        | zero =>
          rw [q] at h2
          simpa using h2
        | succ k =>
          rw [q] at h2
          simp at h2
      subst e
      exact absurd (live_at h1) (m.fresh hp)
    · rw [List.getElem?_append_right hi] at h1
      rw [List.getElem?_append_left hj] at h2
      have e : p = a := by
        cases q : i - mu.length with
        | zero =>
          rw [q] at h1
          simpa using h1
        | succ k =>
          rw [q] at h1
          simp at h1
      subst e
      exact absurd (live_at h2) (m.fresh hp)
    · have e1 := (List.getElem?_eq_some_iff.mp h1).1
      have e2 := (List.getElem?_eq_some_iff.mp h2).1
      rw [List.length_append, List.length_singleton] at e1 e2
      omega
  dom := fun a l => by
    rcases live_app.mp l with l | e
    · obtain ⟨o, e⟩ := m.dom a l
      exact ⟨o, by rw [upd_ne (ne_of_none e hp)]; exact e⟩
    · subst e
      exact ⟨u, upd_same⟩
  obj := fun n o' e => by
    rcases Nat.lt_or_ge n s.length with hn | hn
    · rw [List.getElem?_append_left hn] at e
      rcases m.obj n o' e with z | ⟨a, e1, r⟩
      · exact .inl z
      · refine .inr ⟨a, (Ge.track (u := u) m hp).rf n a e1, r.mono (Ge.track m hp) ?_⟩
        obtain ⟨ob, e2⟩ := m.dom a (live_at e1)
        exact upd_ne (ne_of_none e2 hp)
    · have hl := (List.getElem?_eq_some_iff.mp e).1
      rw [List.length_append, List.length_singleton] at hl
      have en : n = s.length := by omega
      subst en
      rw [List.getElem?_append_right (Nat.le_refl _), Nat.sub_self] at e
      have e' : o = o' := by simpa using e
      subst e'
      refine .inr ⟨p, ?_, ho⟩
      rw [← m.len, List.getElem?_append_right (Nat.le_refl _), Nat.sub_self]
      rfl
/-- a tracked object changes -/
theorem Ge.put {n : Nat} {a : Addr} (h : mu[n]? = some (some a)) : Ge mu H mu (upd H a u) :=
  ⟨fun b o e nl => ⟨by rw [upd_ne (fun z => nl (by rw [z]; exact live_at h))]; exact e, nl⟩, fun _ _ h => h⟩
theorem Sim.put {n : Nat} {a : Addr} {o : O} (m : Sim K mu s H) (h : mu[n]? = some (some a)) (ho : OR K mu (upd H a u) a o) : Sim K mu (s.set n o) (upd H a u) where
  len := by rw [List.length_set]; exact m.len
  inj := m.inj
  dom := fun b l => by
    by_cases hb : b = a
    · subst hb
      exact ⟨u, upd_same⟩
    · obtain ⟨o, e⟩ := m.dom b l
      exact ⟨o, by rw [upd_ne hb]; exact e⟩
  obj := fun k o' e => by
    by_cases hk : n = k
    · subst hk
      have hl : n < s.length := by
        rw [← m.len]
        exact (List.getElem?_eq_some_iff.mp h).1
      rw [List.getElem?_set_self hl] at e
      cases e
      exact .inr ⟨a, h, ho⟩
    · rw [List.getElem?_set_ne hk] at e
      rcases m.obj k o' e with z | ⟨b, e1, r⟩
      · exact .inl z
      · refine .inr ⟨b, e1, r.mono (Ge.put h) (upd_ne fun z => ?_)⟩
        subst z
        exact hk (m.inj n k b h e1)
/-- what is behind a length is forgotten -/
theorem Sim.cut {n : Nat} (m : Sim K mu s H) (hr : ∀ k o, k < n → s[k]? = some o → o = .gone ∨ ∃ a, mu[k]? = some (some a) ∧ OR K (mu.take n) H a o) : Sim K (mu.take n) (s.take n) H where
  len := by rw [List.length_take, List.length_take, m.len]
  inj := fun i j a h1 h2 => by
    rw [List.getElem?_take] at h1 h2
    split at h1 <;> split at h2 <;> first | (exact m.inj i j a h1 h2) | (cases h1) | (cases h2)
  dom := fun a l => m.dom a (List.mem_of_mem_take l)
  obj := fun k o e => by
    rw [List.getElem?_take] at e
    split at e
    · rename_i hk
      rcases hr k o hk e with z | ⟨a, e1, r⟩
      · exact .inl z
      · exact .inr ⟨a, by rw [List.getElem?_take, if_pos hk]; exact e1, r⟩
    · cases e
end

mutual
theorem RelD.bel {K : PySem.W.Frag} {mu : Mu} {H : Hp} : ∀ (d : D) (v : V), RelD K mu H d v → d.bel mu.length = true
  | .non, _, h => by simp only [D.bel]
  | .bl _, _, h => by simp only [D.bel]
  | .int _, _, h => by simp only [D.bel]
  | .str _, _, h => by simp only [D.bel]
  | .ty _, _, h => by simp only [D.bel]
  | .gl _, _, h => by simp only [D.bel]
  | .ref n, v, h => by
    simp only [RelD] at h
    obtain ⟨a, e, r⟩ := h
    simp only [D.bel, decide_eq_true_eq]
    exact (List.getElem?_eq_some_iff.mp e).1
  | .tup xs, v, h => by
    simp only [RelD] at h
    obtain ⟨a, vs, e, r, t⟩ := h
    simp only [D.bel]
    exact RelDs.belows xs vs t
  | .lst xs, v, h => by
    simp only [RelD] at h
    obtain ⟨a, vs, e, r, t⟩ := h
    simp only [D.bel]
    exact RelDs.belows xs vs t
  | .rdl xs, v, h => by
    simp only [RelD] at h
    obtain ⟨a, vs, e, r, t⟩ := h
    simp only [D.bel]
    exact RelDs.belows xs vs t
  | .dk ks xs, v, h => by
    simp only [RelD] at h
    obtain ⟨a, vs, e, r, l, t⟩ := h
    simp only [D.bel]
    exact RelDs.belows xs vs t
  | .dt ks xs, v, h => by
    simp only [RelD] at h
    obtain ⟨a, vs, e, r, l, t⟩ := h
    simp only [D.bel]
    exact RelDs.belows xs vs t
  | .ins C fs xs, v, h => by
    simp only [RelD] at h
    obtain ⟨a, dx, vs, e, r, nl, l, t⟩ := h
    simp only [D.bel]
    exact RelDs.belows xs vs t
  | .exc a C od fs xs, v, h => by
    simp only [RelD] at h
    obtain ⟨e, vs, r, l, t⟩ := h
    simp only [D.bel]
    exact RelDs.belows xs vs t
theorem RelDs.belows {K : PySem.W.Frag} {mu : Mu} {H : Hp} : ∀ (ds : List D) (vs : List V), RelDs K mu H ds vs → D.bels mu.length ds = true
  | [], vs, h => by simp only [D.bels]
  | x :: xs, vs, h => by
    simp only [RelDs] at h
    obtain ⟨v, r, e, h1, h2⟩ := h
    simp only [D.bels, Bool.and_eq_true]
    exact ⟨RelD.bel x v h1, RelDs.belows xs r h2⟩
end
theorem not_live_take {mu : Mu} {n : Nat} {a : Addr} (h : ¬ Live mu a) : ¬ Live (mu.take n) a := fun z => h (List.mem_of_mem_take z)
theorem Fix.cut {mu : Mu} {H : Hp} {a : Addr} {u : HO} {n : Nat} (h : Fix mu H a u) : Fix (mu.take n) H a u := ⟨h.1, not_live_take h.2⟩
theorem FixR.cut {mu : Mu} {H : Hp} {a : Addr} {u : HO} {n : Nat} (h : FixR mu H a u) : FixR (mu.take n) H a u := ⟨h.1, not_live_take h.2⟩
mutual
theorem RelD.cut {K : PySem.W.Frag} {mu : Mu} {H : Hp} {n : Nat} : ∀ (d : D) (v : V), RelD K mu H d v → d.bel n = true → RelD K (mu.take n) H d v
  | .non, _, h, _ => by simpa only [RelD] using h
  | .bl _, _, h, _ => by simpa only [RelD] using h
  | .int _, _, h, _ => by simpa only [RelD] using h
  | .str _, _, h, _ => by simpa only [RelD] using h
  | .ty _, _, h, _ => by simpa only [RelD] using h
  | .gl _, _, h, _ => by simpa only [RelD] using h
  | .ref k, v, h, b => by
    simp only [D.bel, decide_eq_true_eq] at b
    simp only [RelD] at h ⊢
    obtain ⟨a, e, r⟩ := h
    exact ⟨a, by rw [List.getElem?_take, if_pos b]; exact e, r⟩
  | .tup xs, v, h, b => by
    simp only [D.bel] at b
    simp only [RelD] at h ⊢
    obtain ⟨a, vs, e, r, t⟩ := h
    exact ⟨a, vs, e, r.imp id Fix.cut, RelDs.cut xs vs t b⟩
  | .lst xs, v, h, b => by
    simp only [D.bel] at b
    simp only [RelD] at h ⊢
    obtain ⟨a, vs, e, r, t⟩ := h
    exact ⟨a, vs, e, r.cut, RelDs.cut xs vs t b⟩
  | .rdl xs, v, h, b => by
    simp only [D.bel] at b
    simp only [RelD] at h ⊢
    obtain ⟨a, vs, e, r, t⟩ := h
    exact ⟨a, vs, e, r.imp id FixR.cut, RelDs.cut xs vs t b⟩
  | .dk ks xs, v, h, b => by
    simp only [D.bel] at b
    simp only [RelD] at h ⊢
    obtain ⟨a, vs, e, r, l, t⟩ := h
    exact ⟨a, vs, e, r.cut, l, RelDs.cut xs vs t b⟩
  | .dt ks xs, v, h, b => by
    simp only [D.bel] at b
    simp only [RelD] at h ⊢
    obtain ⟨a, vs, e, r, l, t⟩ := h
    exact ⟨a, vs, e, r.cut, l, RelDs.cut xs vs t b⟩
  | .ins C fs xs, v, h, b => by
    simp only [D.bel] at b
    simp only [RelD] at h ⊢
    obtain ⟨a, dx, vs, e, r, nl, l, t⟩ := h
    exact ⟨a, dx, vs, e, r, not_live_take nl, l, RelDs.cut xs vs t b⟩
  | .exc a C od fs xs, v, h, b => by
    simp only [D.bel] at b
    simp only [RelD] at h ⊢
    obtain ⟨e, vs, r, l, t⟩ := h
    exact ⟨e, vs, r.imp id fun ⟨d, e1, e2, e3⟩ => ⟨d, e1, e2, not_live_take e3⟩, l, RelDs.cut xs vs t b⟩
theorem RelDs.cut {K : PySem.W.Frag} {mu : Mu} {H : Hp} {n : Nat} : ∀ (ds : List D) (vs : List V), RelDs K mu H ds vs → D.bels n ds = true → RelDs K (mu.take n) H ds vs
  | [], vs, h, _ => by simpa only [RelDs] using h
  | x :: xs, vs, h, b => by
    simp only [D.bels, Bool.and_eq_true] at b
    simp only [RelDs] at h ⊢
    obtain ⟨v, r, e, h1, h2⟩ := h
    exact ⟨v, r, e, RelD.cut x v h1 b.1, RelDs.cut xs r h2 b.2⟩
end
theorem OR.cut {K : PySem.W.Frag} {mu : Mu} {H : Hp} {n : Nat} {a : Addr} : ∀ {o : O}, OR K mu H a o → o.bel n = true → OR K (mu.take n) H a o
  | .lst xs, ⟨vs, h, r⟩, b => ⟨vs, h, r.cut _ _ (by simpa only [O.bel] using b)⟩
  | .dk ks ds, ⟨vs, h, l, r⟩, b => ⟨vs, h, l, r.cut _ _ (by simpa only [O.bel] using b)⟩
  | .dt ks ds, ⟨vs, h, l, r⟩, b => ⟨vs, h, l, r.cut _ _ (by simpa only [O.bel] using b)⟩
  | .ins C fs ds, ⟨dx, vs, h, l, r⟩, b => ⟨dx, vs, h, l, r.cut _ _ (by simpa only [O.bel] using b)⟩
  | .gone, _, _ => trivial
theorem OR.below {K : PySem.W.Frag} {mu : Mu} {H : Hp} {a : Addr} : ∀ {o : O}, OR K mu H a o → o.bel mu.length = true
  | .lst xs, ⟨vs, h, r⟩ => by simpa only [O.bel] using r.belows _ _
  | .dk ks ds, ⟨vs, h, l, r⟩ => by simpa only [O.bel] using r.belows _ _
  | .dt ks ds, ⟨vs, h, l, r⟩ => by simpa only [O.bel] using r.belows _ _
  | .ins C fs ds, ⟨dx, vs, h, l, r⟩ => by simpa only [O.bel] using r.belows _ _
  | .gone, _ => rfl
theorem Sim.below {K : PySem.W.Frag} {mu : Mu} {s : S} {H : Hp} (m : Sim K mu s H) {o : O} (ho : o ∈ s) : o.bel s.length = true := by
  obtain ⟨n, e⟩ := List.mem_iff_getElem?.mp ho
  rcases m.obj n o e with z | ⟨a, e1, r⟩
  · subst z
    rfl
  · rw [← m.len]
    exact r.below
/-- the state behind a def whose own objects are forgotten -/
theorem Sim.back {K : PySem.W.Frag} {mu : Mu} {s : S} {H : Hp} {n : Nat} (m : Sim K mu s H) (hb : ∀ o ∈ s.take n, o.bel n = true) : Sim K (mu.take n) (s.take n) H :=
  m.cut fun k o hk e => by
    rcases m.obj k o e with z | ⟨a, e1, r⟩
    · exact .inl z
    · refine .inr ⟨a, e1, r.cut (hb o ?_)⟩
      exact List.mem_of_getElem? (i := k) (by rw [List.getElem?_take, if_pos hk]; exact e)
theorem Ge.back {mu mu' : Mu} {H H' : Hp} (g : Ge mu H mu' H') : Ge mu H (mu'.take mu.length) H' :=
  ⟨fun a o h n => ⟨(g.fr a o h n).1, not_live_take (g.fr a o h n).2⟩, fun n a h => by
    have hn := (List.getElem?_eq_some_iff.mp h).1
    rw [List.getElem?_take, if_pos hn]
    exact g.rf n a h⟩

/-- the def's names -/
abbrev Lc := List (Option D)
structure LR (K : PySem.W.Frag) (mu : Mu) (H : Hp) (L : Lc) (σ : L2.St) : Prop where
  len : L.length = σ.length
  at_ : ∀ (i : Nat) (d : D), L[i]? = some (some d) → ∃ v, σ[i]? = some (some v) ∧ RelD K mu H d v
theorem LR.mono {K : PySem.W.Frag} {mu mu' : Mu} {H H' : Hp} {L : Lc} {σ : L2.St} (g : Ge mu H mu' H') (h : LR K mu H L σ) : LR K mu' H' L σ :=
  ⟨h.len, fun i d e => by
    obtain ⟨v, e1, r⟩ := h.at_ i d e
    exact ⟨v, e1, r.mono g⟩⟩
theorem LR.set {K : PySem.W.Frag} {mu : Mu} {H : Hp} {L : Lc} {σ : L2.St} {d : D} {v : V} (h : LR K mu H L σ) (i : Nat) (r : RelD K mu H d v) : LR K mu H (L.set i (some d)) (σ.set i (some v)) :=
  ⟨by rw [List.length_set, List.length_set]; exact h.len, fun j d' e => by
    by_cases hj : i = j
    · subst hj
      have hl : i < L.length := by
        have := (List.getElem?_eq_some_iff.mp e).1
        rwa [List.length_set] at this
      rw [List.getElem?_set_self hl] at e
      cases e
      exact ⟨v, by rw [List.getElem?_set_self (by rw [← h.len]; exact hl)], r⟩
    · rw [List.getElem?_set_ne hj] at e
      obtain ⟨v', e1, r'⟩ := h.at_ j d' e
      exact ⟨v', by rw [List.getElem?_set_ne hj]; exact e1, r'⟩⟩
theorem LR.del {K : PySem.W.Frag} {mu : Mu} {H : Hp} {L : Lc} {σ : L2.St} {x : Option V} (h : LR K mu H L σ) (i : Nat) : LR K mu H (L.set i none) (σ.set i x) :=
  ⟨by rw [List.length_set, List.length_set]; exact h.len, fun j d' e => by
    by_cases hj : i = j
    · subst hj
      have hl : i < L.length := by
        have := (List.getElem?_eq_some_iff.mp e).1
        rwa [List.length_set] at this
      rw [List.getElem?_set_self hl] at e
      cases e
    · rw [List.getElem?_set_ne hj] at e
      obtain ⟨v', e1, r'⟩ := h.at_ j d' e
      exact ⟨v', by rw [List.getElem?_set_ne hj]; exact e1, r'⟩⟩

/-! ### results -/
inductive R (α : Type) where
  | ok (a : α) (s : S) | ex (C : Addr) (fs : List Str) (vs : List D) (s : S) | bad
inductive RS where
  | nx (L : Lc) (s : S) | rt (d : D) (s : S) | bk (L : Lc) (s : S) | ct (L : Lc) (s : S) | ex (C : Addr) (fs : List Str) (vs : List D) (L : Lc) (s : S) | bad
abbrev F (α : Type) := Lc → S → R α
abbrev FS := Lc → S → RS
def R.bind {α β : Type} (r : R α) (k : α → S → R β) : R β := match r with
  | .ok a s => k a s
  | .ex C fs vs s => .ex C fs vs s
  | .bad => .bad
def RS.bind (r : RS) (k : Lc → S → RS) : RS := match r with
  | .nx L s => k L s
  | r => r
def R.bindS {α : Type} (L : Lc) (r : R α) (k : α → S → RS) : RS := match r with
  | .ok a s => k a s
  | .ex C fs vs s => .ex C fs vs L s
  | .bad => .bad

/-- an exception's fields -/
def XR (K : PySem.W.Frag) (mu : Mu) (H : Hp) (fs : List Str) (ds : List D) (od : Option Addr) : Prop :=
  (fs = [] ∧ ds = [] ∧ od = none) ∨ ∃ d vs, od = some d ∧ H d = some (.xd (fs.zip vs)) ∧ ¬ Live mu d ∧ fs.length = vs.length ∧ RelDs K mu H ds vs
theorem XR.mono {K : PySem.W.Frag} {mu mu' : Mu} {H H' : Hp} {fs : List Str} {ds : List D} {od : Option Addr} (g : Ge mu H mu' H') (h : XR K mu H fs ds od) : XR K mu' H' fs ds od := by
  rcases h with h | ⟨d, vs, e, h, n, l, r⟩
  · exact .inl h
  · exact .inr ⟨d, vs, e, (g.fr _ _ h n).1, (g.fr _ _ h n).2, l, r.mono g⟩

section
variable (K : PySem.W.Frag) (W : WX)
def Post {α β : Type} (rel : Mu → Hp → α → β → Prop) (σ : L2.St) (mu : Mu) (H : Hp) (Q : β → Hp → Prop) : R α → Prop
  | .ok d s' => ∀ mu' H' v, Ge mu H mu' H' → Sim K mu' s' H' → rel mu' H' d v → Q v H'
  | .ex C fs ds s' => ∀ mu' H' od, Ge mu H mu' H' → Sim K mu' s' H' → XR K mu' H' fs ds od → W (.ref C) od σ H'
  | .bad => False
def PostS (D : Ends) (mu : Mu) (H : Hp) : RS → Prop
  | .nx L' s' => ∀ mu' σ' H', Ge mu H mu' H' → Sim K mu' s' H' → LR K mu' H' L' σ' → D.nx σ' H'
  | .rt d s' => ∀ mu' H' v, Ge mu H mu' H' → Sim K mu' s' H' → RelD K mu' H' d v → D.rt v H'
  | .bk L' s' => ∀ mu' σ' H', Ge mu H mu' H' → Sim K mu' s' H' → LR K mu' H' L' σ' → D.bk σ' H'
  | .ct L' s' => ∀ mu' σ' H', Ge mu H mu' H' → Sim K mu' s' H' → LR K mu' H' L' σ' → D.ct σ' H'
  | .ex C fs ds L' s' => ∀ mu' σ' H' od, Ge mu H mu' H' → Sim K mu' s' H' → LR K mu' H' L' σ' → XR K mu' H' fs ds od → W (.ref C) od σ' H'
  | .bad => False
def tE (f : F D) : TE := fun σ H Q => ∃ mu s L, Sim K mu s H ∧ LR K mu H L σ ∧ Post K W (RelD K) σ mu H Q (f L s)
def tA (f : F (List D)) : TA := fun σ H Q => ∃ mu s L, Sim K mu s H ∧ LR K mu H L σ ∧ Post K W (RelDs K) σ mu H Q (f L s)
def tT (f : F Bool) : TT := fun σ H Q => ∃ mu s L, Sim K mu s H ∧ LR K mu H L σ ∧ Post K W (fun _ _ (a b : Bool) => a = b) σ mu H Q (f L s)
def tS (f : FS) : TS := fun D σ H => ∃ mu s L, Sim K mu s H ∧ LR K mu H L σ ∧ PostS K W D mu H (f L s)
end
section
variable {K : PySem.W.Frag} {W : WX}
theorem Post.ge {α β : Type} {rel : Mu → Hp → α → β → Prop} {σ : L2.St} {mu mu1 : Mu} {H H1 : Hp} {Q : β → Hp → Prop} {r : R α} (g : Ge mu H mu1 H1) (h : Post K W rel σ mu H Q r) : Post K W rel σ mu1 H1 Q r := by
  cases r with
  | ok d s' => exact fun mu' H' v g' m r => h mu' H' v (g.trans g') m r
  | ex C fs ds s' => exact fun mu' H' od g' m x => h mu' H' od (g.trans g') m x
  | bad => exact h
theorem PostS.ge {D : Ends} {mu mu1 : Mu} {H H1 : Hp} {r : RS} (g : Ge mu H mu1 H1) (h : PostS K W D mu H r) : PostS K W D mu1 H1 r := by
  cases r with
  | nx L s => exact fun mu' σ' H' g' => h mu' σ' H' (g.trans g')
  | rt L s => exact fun mu' H' v g' => h mu' H' v (g.trans g')
  | bk L s => exact fun mu' σ' H' g' => h mu' σ' H' (g.trans g')
  | ct L s => exact fun mu' σ' H' g' => h mu' σ' H' (g.trans g')
  | ex C fs ds L s => exact fun mu' σ' H' od g' => h mu' σ' H' od (g.trans g')
  | bad => exact h
/-- one part, then the rest -/
theorem Post.step {α β γ δ : Type} {rel : Mu → Hp → α → β → Prop} {rel2 : Mu → Hp → γ → δ → Prop} {σ : L2.St} {mu : Mu} {H : Hp} {Q : δ → Hp → Prop} {Q1 : β → Hp → Prop} {r : R α} {k : α → S → R γ}
    (h : Post K W rel2 σ mu H Q (r.bind k))
    (hk : ∀ d s' mu' H' v, Ge mu H mu' H' → Sim K mu' s' H' → rel mu' H' d v → Post K W rel2 σ mu' H' Q (k d s') → Q1 v H') : Post K W rel σ mu H Q1 r := by
  cases r with
  | ok d s' => exact fun mu' H' v g m q => hk d s' mu' H' v g m q (Post.ge (r := k d s') g h)
  | ex C fs ds s' => exact h
  | bad => exact h
theorem Post.stepS {α β : Type} {rel : Mu → Hp → α → β → Prop} {σ : L2.St} {L : Lc} {mu : Mu} {H : Hp} {D : Ends} {Q1 : β → Hp → Prop} {r : R α} {k : α → S → RS} (hL : LR K mu H L σ)
    (h : PostS K W D mu H (r.bindS L k))
    (hk : ∀ d s' mu' H' v, Ge mu H mu' H' → Sim K mu' s' H' → rel mu' H' d v → PostS K W D mu' H' (k d s') → Q1 v H') : Post K W rel σ mu H Q1 r := by
  cases r with
  | ok d s' => exact fun mu' H' v g m q => hk d s' mu' H' v g m q (PostS.ge (r := k d s') g h)
  | ex C fs ds s' => exact fun mu' H' od g m x => h mu' σ H' od g m (hL.mono g) x
  | bad => exact h
theorem PE.weak {X : Cx} {e : Expr} {t t' : TE} (h : PE X e t) (w : ∀ σ H Q, t' σ H Q → t σ H Q) : PE X e t' := ⟨fun pins s σ H Q I q => h.run pins s σ H Q I (w σ H Q q)⟩
theorem PT.weak {X : Cx} {e : Expr} {t t' : TT} (h : PT X e t) (w : ∀ σ H Q, t' σ H Q → t σ H Q) : PT X e t' := ⟨fun pins s σ H Q I q => h.run pins s σ H Q I (w σ H Q q)⟩
theorem PA.weak {X : Cx} {e : List Expr} {t t' : TA} (h : PA X e t) (w : ∀ σ H Q, t' σ H Q → t σ H Q) : PA X e t' := ⟨fun pos pins s σ H Q I q => h.run pos pins s σ H Q I (w σ H Q q)⟩
theorem PS.weak {X : Cx} {e : Stmt} {t t' : TS} (h : PS X e t) (w : ∀ D σ H, t' D σ H → t D σ H) : PS X e t' := ⟨fun pins s σ H D I q => h.run pins s σ H D I (w D σ H q)⟩
theorem PSs.weak {X : Cx} {e : List Stmt} {t t' : TS} (h : PSs X e t) (w : ∀ D σ H, t' D σ H → t D σ H) : PSs X e t' := ⟨fun pins s σ H D I q => h.run pins s σ H D I (w D σ H q)⟩
end
end SI

namespace SI
open PySem PySem.Spec PyProof.Rows L2
/-! ### readings of the parts -/
section
variable {X : Cx} {W : WX}

/-! names and constants -/
def fVar (i : Nat) : F D := fun L s => match L[i]? with
  | some (some d) => .ok d s
  | _ => .bad
theorem pE_var (i : Nat) {x : Str} {pos : Pos} (hN : X.N[i]? = some x := by rfl) (hv : Vis X.env.scope x := by first | exact Or.inl rfl | exact Or.inr (Or.inl rfl) | exact Or.inr (Or.inr rfl)) (hd : (x == ("__debug__" : Str)) = false := by decide)
    (hcd : (x == ("__classdict__" : Str)) = false := by decide) : PE X (.Name x pos) (tE X.K W (fVar i)) := by
  refine PE.weak (pe_var hN hv hd hcd) fun σ H Q h => ?_
  obtain ⟨mu, s, L, m, l, p⟩ := h
  unfold fVar at p
  cases e : L[i]? with
  | none =>
    rw [e] at p
    exact p.elim
  | some od =>
    cases od with
    | none =>
      rw [e] at p
      exact p.elim
    | some d =>
      rw [e] at p
      obtain ⟨v, e1, r⟩ := l.at_ i d e
      exact ⟨v, e1, p mu H v (Ge.refl _ _) m r⟩
def fC (d : D) : F D := fun _ s => .ok d s
theorem weakC {d : D} {v : V} {e : Expr} (h : PE X e (tC v)) (r : ∀ mu H, RelD X.K mu H d v) : PE X e (tE X.K W (fC d)) := by
  refine PE.weak h fun σ H Q h => ?_
  obtain ⟨mu, s, L, m, l, p⟩ := h
  exact p mu H v (Ge.refl _ _) m (r mu H)
theorem pE_int {i j pos} : PE X (.Constant (.int i) j pos) (tE X.K W (fC (.int i))) := weakC pe_int fun _ _ => by simp only [RelD]
theorem pE_bl {b j pos} : PE X (.Constant (.bool b) j pos) (tE X.K W (fC (.bl b))) := weakC pe_bl fun _ _ => by simp only [RelD]
theorem pE_non {j pos} : PE X (.Constant .none j pos) (tE X.K W (fC .non)) := weakC pe_non fun _ _ => by simp only [RelD]
theorem pE_str {x j pos} : PE X (.Constant (.str x) j pos) (tE X.K W (fC (.str x))) := weakC pe_str fun _ _ => by simp only [RelD]
/-- a module's int -/
theorem pE_gint {x : Str} {i : Int} {t : Tok} {pos : Pos} (hm : X.mg x = some (.int i t)) (hg : Gl X x := by rfl) (hd : (x == ("__debug__" : Str)) = false := by decide) : PE X (.Name x pos) (tE X.K W (fC (.int i))) :=
  weakC (pe_glob (v := .int i) hg hm ⟨t, rfl⟩ hd) fun _ _ => by simp only [RelD]
theorem pE_gstr {x : Str} {i : Str} {t : Tok} {pos : Pos} (hm : X.mg x = some (.str i t)) (hg : Gl X x := by rfl) (hd : (x == ("__debug__" : Str)) = false := by decide) : PE X (.Name x pos) (tE X.K W (fC (.str i))) :=
  weakC (pe_glob (v := .str i) hg hm ⟨t, rfl⟩ hd) fun _ _ => by simp only [RelD]
/-- a module's class or def, as a value -/
theorem pE_gref {x : Str} {a : Addr} {pos : Pos} (hm : X.mg x = some (.ref a)) (hg : Gl X x := by rfl) (hd : (x == ("__debug__" : Str)) = false := by decide) : PE X (.Name x pos) (tE X.K W (fC (.gl a))) :=
  weakC (pe_glob (v := .ref a) hg hm rfl hd) fun _ _ => by simp only [RelD]
/-- a built-in class -/
theorem pE_ty {x : Str} {n : String} {pos : Pos} (hm : X.mg x = none) (hv : bootBuiltins x = some (.type n)) (hg : Gl X x := by rfl) (hn : x ≠ "__name__" := by decide) (hd : (x == ("__debug__" : Str)) = false := by decide) : PE X (.Name x pos) (tE X.K W (fC (.ty n))) :=
  weakC (pe_bltn (v := .ty n) hg hm hv rfl hn hd) fun _ _ => by simp only [RelD]

/-! ### operators by values -/
def fOp (o : S → D → D → Option D) (f g : F D) : F D := fun L s => (f L s).bind fun a s1 => (g L s1).bind fun b s2 => match o s2 a b with
  | some d => .ok d s2
  | none => .bad
def OpL (K : PySem.W.Frag) (r : R2) (o : S → D → D → Option D) : Prop :=
  ∀ (mu : Mu) (s : S) (H : Hp) (a b d : D) (x y : V) (Q : VK), Sim K mu s H → RelD K mu H a x → RelD K mu H b y → o s a b = some d →
    (∀ mu' H' v, Ge mu H mu' H' → Sim K mu' s H' → RelD K mu' H' d v → Q v H') → r x y H Q
variable {a b c e : Expr} {f g h : F D} {pos : Pos}
theorem weak_op {r : R2} {o : S → D → D → Option D} (hl : OpL X.K r o) (σ : L2.St) (H : Hp) (Q : VK) (hq : tE X.K W (fOp o f g) σ H Q) : tOp r (tE X.K W f) (tE X.K W g) σ H Q := by
  obtain ⟨mu, s, L, m, l, p⟩ := hq
  refine ⟨mu, s, L, m, l, Post.step p fun d1 s1 mu1 H1 v1 g1 m1 r1 p1 => ?_⟩
  refine ⟨mu1, s1, L, m1, l.mono g1, Post.step p1 fun d2 s2 mu2 H2 v2 g2 m2 r2 p2 => ?_⟩
  cases eo : o s2 d1 d2 with
  | none =>
    rw [eo] at p2
    exact p2.elim
  | some d =>
    rw [eo] at p2
    exact hl mu2 s2 H2 d1 d2 d v1 v2 Q m2 (r1.mono g2) r2 eo fun mu' H' v g' m' r' => p2 mu' H' v g' m' r'
theorem pE_op {op : Operator} {r : R2} {o : S → D → D → Option D} (ho : OpR X (binaryOp op) r) (hl : OpL X.K r o) (ha : PE X a (tE X.K W f)) (hb : PE X b (tE X.K W g)) : PE X (.BinOp a op b pos) (tE X.K W (fOp o f g)) :=
  PE.weak (pe_op ho ha hb) fun σ H Q q => weak_op hl σ H Q q
theorem pE_cmp {op : CmpOp} {r : R2} {o : S → D → D → Option D} (ho : OpR X (compareOp op) r) (hl : OpL X.K r o) (ha : PE X a (tE X.K W f)) (hb : PE X b (tE X.K W g)) (hm : behindInMarks op b = false := by first | exact nomark _ | rfl) :
    PE X (.Compare a [op] [b] pos) (tE X.K W (fOp o f g)) :=
  PE.weak (pe_cmpR ho ha hb hm) fun σ H Q q => weak_op hl σ H Q q
theorem pE_ix {r : R2} {o : S → D → D → Option D} (ho : IxR X r) (hl : OpL X.K r o) (ha : PE X a (tE X.K W f)) (hb : PE X b (tE X.K W g)) (hs : PlainIx b := by exact fun _ _ => rfl) : PE X (.Subscript a b pos) (tE X.K W (fOp o f g)) :=
  PE.weak (pe_ix ho ha hb hs) fun σ H Q q => weak_op hl σ H Q q
theorem OpL.or {r r' : R2} {o o' : S → D → D → Option D} {K : PySem.W.Frag} (h : OpL K r o) (h' : OpL K r' o') : OpL K (fun x y H Q => r x y H Q ∨ r' x y H Q) (fun s a b => (o s a b).or (o' s a b)) := by
  intro mu s H a b d x y Q m ra rb e q
  dsimp only at e
  cases eo : o s a b with
  | some z =>
    rw [eo] at e
    exact .inl (h mu s H a b d x y Q m ra rb (by rw [eo]; exact e) q)
  | none =>
    rw [eo] at e
    exact .inr (h' mu s H a b d x y Q m ra rb e q)

/-! ints -/
def dI2 (C : Int → Int → Bool) (g : Int → Int → D) (_ : S) : D → D → Option D
  | .int i, .int j => if C i j = true then some (g i j) else none
  | _, _ => none
def yes2 (_ _ : Int) : Bool := true
theorem rel_int {K : PySem.W.Frag} {mu : Mu} {H : Hp} {i : Int} {v : V} : RelD K mu H (.int i) v ↔ v = .int i := by simp only [RelD]
theorem rel_bl {K : PySem.W.Frag} {mu : Mu} {H : Hp} {i : Bool} {v : V} : RelD K mu H (.bl i) v ↔ v = .bl i := by simp only [RelD]
theorem rel_str {K : PySem.W.Frag} {mu : Mu} {H : Hp} {i : Str} {v : V} : RelD K mu H (.str i) v ↔ v = .str i := by simp only [RelD]
theorem rel_non {K : PySem.W.Frag} {mu : Mu} {H : Hp} {v : V} : RelD K mu H .non v ↔ v = .non := by simp only [RelD]
theorem opl_I {K : PySem.W.Frag} {C : Int → Int → Prop} {Cb : Int → Int → Bool} {g : Int → Int → V} {gd : Int → Int → D} (hc : ∀ i j, Cb i j = true → C i j) (hg : ∀ mu H i j, RelD K mu H (gd i j) (g i j)) : OpL K (rI C g) (dI2 Cb gd) := by
  intro mu s H a b d x y Q m ra rb e q
  cases a <;> simp only [dI2] at e <;> try cases e
  cases b <;> simp only [dI2] at e <;> try cases e
  rename_i i j
  split at e
  · rename_i hh
    cases e
    exact ⟨i, j, rel_int.mp ra, rel_int.mp rb, hc i j hh, q mu H _ (Ge.refl _ _) m (hg mu H i j)⟩
  · cases e
theorem opl_I0 {K : PySem.W.Frag} {g : Int → Int → V} {gd : Int → Int → D} (hg : ∀ mu H i j, RelD K mu H (gd i j) (g i j)) : OpL K (rI0 g) (dI2 yes2 gd) := by
  intro mu s H a b d x y Q m ra rb e q
  cases a <;> simp only [dI2] at e <;> try cases e
  cases b <;> simp only [dI2] at e <;> try cases e
  rename_i i j
  exact ⟨i, j, rel_int.mp ra, rel_int.mp rb, q mu H _ (Ge.refl _ _) m (hg mu H i j)⟩
def dSub : S → D → D → Option D := dI2 yes2 fun i j => .int (i - j)
def mulOk (i j : Int) : Bool := decide (i.natAbs.log2 + j.natAbs.log2 < 100000000)
def MulP (i j : Int) : Prop := i.natAbs.log2 + j.natAbs.log2 < 100000000
theorem bits_le_log (x : Int) : Builtin.Int.intBits x ≤ x.natAbs.log2 + 1 := by
  unfold Builtin.Int.intBits
  by_cases h : (x == 0) = true
  · rw [if_pos h]
    exact Nat.zero_le _
  · rw [if_neg h]
    exact Nat.le_refl _
theorem MulP.ok {i j : Int} (h : MulP i j) : IntMulOk i j := fun z => by
  have h1 := bits_le_log i
  have h2 := bits_le_log j
  have h3 : i.natAbs.log2 + j.natAbs.log2 < 100000000 := h
  have z2 := (Bool.and_eq_true_iff.mp z).2
  have z4 : ((Builtin.Int.intBits i + Builtin.Int.intBits j : Nat) : Int) > bitsLine := of_decide_eq_true z2
  have e0 : bitsLine = 134217728 := by decide
  rw [e0] at z4
  omega
theorem op_mulX : OpR X (binaryOp .Mult) (rI MulP fun i j => .int (i * j)) := opI fun i j t u Q s E hc q => mul_int q (MulP.ok hc)
def divOk (_ j : Int) : Bool := decide (0 < j ∧ j.natAbs.log2 < 9000)
def modOk (_ j : Int) : Bool := decide (0 < j)
def dMulI : S → D → D → Option D := dI2 mulOk fun i j => .int (i * j)
def dDiv : S → D → D → Option D := dI2 divOk fun i j => .int (i / j)
def dMod : S → D → D → Option D := dI2 modOk fun i j => .int (i % j)
def dAddI : S → D → D → Option D := dI2 yes2 fun i j => .int (i + j)
def dLt : S → D → D → Option D := dI2 yes2 fun i j => .bl (decide (i < j))
def dLe : S → D → D → Option D := dI2 yes2 fun i j => .bl (decide (i ≤ j))
def dGt : S → D → D → Option D := dI2 yes2 fun i j => .bl (decide (j < i))
def dGe : S → D → D → Option D := dI2 yes2 fun i j => .bl (decide (j ≤ i))
def powOk (i j : Int) : Bool := decide (0 ≤ j ∧ j ≤ 1000000 ∧ i.natAbs < 2 ^ 64)
def dPow : S → D → D → Option D := dI2 powOk fun i j => .int (i ^ j.toNat)
theorem pE_addI (ha : PE X a (tE X.K W f)) (hb : PE X b (tE X.K W g)) : PE X (.BinOp a .Add b pos) (tE X.K W (fOp dAddI f g)) := pE_op op_add (opl_I0 fun _ _ _ _ => by simp only [RelD]) ha hb
theorem pE_sub (ha : PE X a (tE X.K W f)) (hb : PE X b (tE X.K W g)) : PE X (.BinOp a .Sub b pos) (tE X.K W (fOp dSub f g)) := pE_op op_sub (opl_I0 fun _ _ _ _ => by simp only [RelD]) ha hb
theorem pE_mulI (ha : PE X a (tE X.K W f)) (hb : PE X b (tE X.K W g)) : PE X (.BinOp a .Mult b pos) (tE X.K W (fOp dMulI f g)) := pE_op op_mulX (opl_I (Cb := mulOk) (fun i j h => by unfold mulOk at h; have h2 := of_decide_eq_true h; exact h2) fun _ _ _ _ => by simp only [RelD]) ha hb
theorem pE_div (ha : PE X a (tE X.K W f)) (hb : PE X b (tE X.K W g)) : PE X (.BinOp a .FloorDiv b pos) (tE X.K W (fOp dDiv f g)) := pE_op op_fdivW (opl_I (Cb := divOk) (fun i j h => by unfold divOk at h; have h2 := of_decide_eq_true h; exact h2) fun _ _ _ _ => by simp only [RelD]) ha hb
theorem pE_mod (ha : PE X a (tE X.K W f)) (hb : PE X b (tE X.K W g)) : PE X (.BinOp a .Mod b pos) (tE X.K W (fOp dMod f g)) := pE_op op_mod (opl_I (fun i j h => of_decide_eq_true h) fun _ _ _ _ => by simp only [RelD]) ha hb
theorem pE_pow (ha : PE X a (tE X.K W f)) (hb : PE X b (tE X.K W g)) : PE X (.BinOp a .Pow b pos) (tE X.K W (fOp dPow f g)) := pE_op op_pow (opl_I (Cb := powOk) (fun i j h => by unfold powOk at h; have h2 := of_decide_eq_true h; exact h2) fun _ _ _ _ => by simp only [RelD]) ha hb
theorem pE_lt (ha : PE X a (tE X.K W f)) (hb : PE X b (tE X.K W g)) : PE X (.Compare a [.Lt] [b] pos) (tE X.K W (fOp dLt f g)) := pE_cmp op_lt (opl_I0 fun _ _ _ _ => by simp only [RelD]) ha hb
theorem pE_le (ha : PE X a (tE X.K W f)) (hb : PE X b (tE X.K W g)) : PE X (.Compare a [.LtE] [b] pos) (tE X.K W (fOp dLe f g)) := pE_cmp op_le (opl_I0 fun _ _ _ _ => by simp only [RelD]) ha hb
theorem pE_gt (ha : PE X a (tE X.K W f)) (hb : PE X b (tE X.K W g)) : PE X (.Compare a [.Gt] [b] pos) (tE X.K W (fOp dGt f g)) := pE_cmp op_gt (opl_I0 fun _ _ _ _ => by simp only [RelD]) ha hb
theorem pE_ge (ha : PE X a (tE X.K W f)) (hb : PE X b (tE X.K W g)) : PE X (.Compare a [.GtE] [b] pos) (tE X.K W (fOp dGe f g)) := pE_cmp op_ge (opl_I0 fun _ _ _ _ => by simp only [RelD]) ha hb
/-- a < b < c -/
def fChain (o o' : S → D → D → Option D) (f g h : F D) : F D := fun L s => (f L s).bind fun a s1 => (g L s1).bind fun b s2 => match o s2 a b with
  | some (.bl true) => (h L s2).bind fun c s3 => match o' s3 b c with
    | some d => .ok d s3
    | none => .bad
  | some (.bl false) => .ok (.bl false) s2
  | _ => .bad
theorem pE_chain {op op' : CmpOp} {r r' : R2} {o o' : S → D → D → Option D} {h : F D} (ho : OpR X (compareOp op) r) (ho' : OpR X (compareOp op') r') (hl : OpL X.K r o) (hl' : OpL X.K r' o') (ha : PE X a (tE X.K W f)) (hb : PE X b (tE X.K W g)) (hc : PE X c (tE X.K W h))
    (hx : PE X (.Compare a [op, op'] [b, c] pos) (tChain r r' (tE X.K W f) (tE X.K W g) (tE X.K W h))) : PE X (.Compare a [op, op'] [b, c] pos) (tE X.K W (fChain o o' f g h)) := by
  refine PE.weak hx fun σ H Q hq => ?_
  obtain ⟨mu, s, L, m, l, p⟩ := hq
  refine ⟨mu, s, L, m, l, Post.step p fun d1 s1 mu1 H1 v1 g1 m1 r1 p1 => ?_⟩
  refine ⟨mu1, s1, L, m1, l.mono g1, Post.step p1 fun d2 s2 mu2 H2 v2 g2 m2 r2 p2 => ?_⟩
  cases eo : o s2 d1 d2 with
  | none =>
    rw [eo] at p2
    exact p2.elim
  | some d =>
    rw [eo] at p2
    refine hl mu2 s2 H2 d1 d2 d v1 v2 _ m2 (r1.mono g2) r2 eo fun mu' H' v g' m' r' => ?_
    cases d <;> try exact p2.elim
    rename_i bb
    have ev := rel_bl.mp r'
    refine ⟨bb, ev, ?_⟩
    cases bb with
    | false => exact p2 mu' H' _ g' m' (rel_bl.mpr rfl)
    | true =>
      show tE X.K W h σ H' _
      refine ⟨mu', s2, L, m', ((l.mono g1).mono g2).mono g', Post.step (Post.ge g' p2) fun d3 s3 mu3 H3 v3 g3 m3 r3 p3 => ?_⟩
      cases eo' : o' s3 d2 d3 with
      | none =>
        rw [eo'] at p3
        exact p3.elim
      | some d =>
        rw [eo'] at p3
        exact hl' mu3 s3 H3 d2 d3 d v2 v3 Q m3 ((r2.mono g').mono g3) r3 eo' fun mu4 H4 v4 g4 m4 r4 => p3 mu4 H4 v4 g4 m4 r4
/-! ### truth -/
def fNotV (f : F D) : F D := fun L s => (f L s).bind fun a s1 => match a with
  | .bl b => .ok (.bl (!b)) s1
  | _ => .bad
theorem pE_not (ha : PE X a (tE X.K W f)) : PE X (.UnaryOp .Not a pos) (tE X.K W (fNotV f)) := by
  refine PE.weak (pe_not ha) fun σ H Q hq => ?_
  obtain ⟨mu, s, L, m, l, p⟩ := hq
  refine ⟨mu, s, L, m, l, Post.step p fun d1 s1 mu1 H1 v1 g1 m1 r1 p1 => ?_⟩
  cases d1 <;> try exact p1.elim
  rename_i bb
  exact ⟨bb, rel_bl.mp r1, p1 mu1 H1 _ (Ge.refl _ _) m1 (rel_bl.mpr rfl)⟩
def fAndV (f g : F D) : F D := fun L s => (f L s).bind fun a s1 => match a with
  | .bl true => g L s1
  | .bl false => .ok (.bl false) s1
  | _ => .bad
def fOrV (f g : F D) : F D := fun L s => (f L s).bind fun a s1 => match a with
  | .bl true => .ok (.bl true) s1
  | .bl false => g L s1
  | _ => .bad
theorem pE_one {op} (h : PE X a (tE X.K W f)) : PE X (.BoolOp op [a] pos) (tE X.K W f) := pe_one h
theorem pE_and {rest : List Expr} (ha : PE X a (tE X.K W f)) (hb : PE X (.BoolOp .And (b :: rest) pos) (tE X.K W g)) : PE X (.BoolOp .And (a :: b :: rest) pos) (tE X.K W (fAndV f g)) := by
  refine PE.weak (pe_and ha hb) fun σ H Q hq => ?_
  obtain ⟨mu, s, L, m, l, p⟩ := hq
  refine ⟨mu, s, L, m, l, Post.step p fun d1 s1 mu1 H1 v1 g1 m1 r1 p1 => ?_⟩
  cases d1 <;> try exact p1.elim
  rename_i bb
  refine ⟨bb, rel_bl.mp r1, ?_⟩
  cases bb with
  | true => exact ⟨mu1, s1, L, m1, l.mono g1, p1⟩
  | false => exact p1 mu1 H1 _ (Ge.refl _ _) m1 (rel_bl.mpr rfl)
theorem pE_or {rest : List Expr} (ha : PE X a (tE X.K W f)) (hb : PE X (.BoolOp .Or (b :: rest) pos) (tE X.K W g)) : PE X (.BoolOp .Or (a :: b :: rest) pos) (tE X.K W (fOrV f g)) := by
  refine PE.weak (pe_or ha hb) fun σ H Q hq => ?_
  obtain ⟨mu, s, L, m, l, p⟩ := hq
  refine ⟨mu, s, L, m, l, Post.step p fun d1 s1 mu1 H1 v1 g1 m1 r1 p1 => ?_⟩
  cases d1 <;> try exact p1.elim
  rename_i bb
  refine ⟨bb, rel_bl.mp r1, ?_⟩
  cases bb with
  | false => exact ⟨mu1, s1, L, m1, l.mono g1, p1⟩
  | true => exact p1 mu1 H1 _ (Ge.refl _ _) m1 (rel_bl.mpr rfl)
/-! tests -/
def fTst (f : F D) : F Bool := fun L s => (f L s).bind fun a s1 => match a with
  | .bl b => .ok b s1
  | _ => .bad
def fNot (t : F Bool) : F Bool := fun L s => (t L s).bind fun b s1 => .ok (!b) s1
def fAnd (t u : F Bool) : F Bool := fun L s => (t L s).bind fun b s1 => if b = true then u L s1 else .ok false s1
def fOr (t u : F Bool) : F Bool := fun L s => (t L s).bind fun b s1 => if b = true then .ok true s1 else u L s1
def fIf (t : F Bool) (f g : F D) : F D := fun L s => (t L s).bind fun b s1 => if b = true then f L s1 else g L s1
variable {t u : F Bool}
theorem pT_val (h : PE X e (tE X.K W f)) (he : ∀ whole, isTrue e X.env whole = (do let v ← whole; standAt e.pos; holding [v] (truthy v)) := by intro _; rfl) : PT X e (tT X.K W (fTst f)) := by
  refine PT.weak (pt_val h he) fun σ H Q hq => ?_
  obtain ⟨mu, s, L, m, l, p⟩ := hq
  refine ⟨mu, s, L, m, l, Post.step p fun d1 s1 mu1 H1 v1 g1 m1 r1 p1 => ?_⟩
  cases d1 <;> try exact p1.elim
  rename_i bb
  exact ⟨bb, rel_bl.mp r1, p1 mu1 H1 _ (Ge.refl _ _) m1 rfl⟩
theorem tT_step {α : Type} {t : F Bool} {L : Lc} {s : S} {mu : Mu} {H : Hp} {σ : L2.St} {k : Bool → S → R α} {β : Type} {rel : Mu → Hp → α → β → Prop} {Q : β → Hp → Prop} {Q1 : Bool → Hp → Prop}
    (p : Post X.K W rel σ mu H Q ((t L s).bind k)) (hk : ∀ b s' mu' H', Ge mu H mu' H' → Sim X.K mu' s' H' → Post X.K W rel σ mu' H' Q (k b s') → Q1 b H') : Post X.K W (fun _ _ (a b : Bool) => a = b) σ mu H Q1 (t L s) :=
  Post.step p fun d s' mu' H' v g m e p' => by
    subst e
    exact hk d s' mu' H' g m p'
theorem pT_not (ha : PT X a (tT X.K W t)) : PT X (.UnaryOp .Not a pos) (tT X.K W (fNot t)) := by
  refine PT.weak (pt_not ha) fun σ H Q hq => ?_
  obtain ⟨mu, s, L, m, l, p⟩ := hq
  exact ⟨mu, s, L, m, l, tT_step p fun b s1 mu1 H1 g1 m1 p1 => p1 mu1 H1 _ (Ge.refl _ _) m1 rfl⟩
theorem PW.weak {X : Cx} {e : Expr} {t t' : TT} (h : PW X e t) (w : ∀ σ H Q, t' σ H Q → t σ H Q) : PW X e t' := ⟨fun wh pins s σ H Q I q => h.run wh pins s σ H Q I (w σ H Q q)⟩
theorem pW_and1 (ha : PT X a (tT X.K W t)) : PW X (.BoolOp .And [a] pos) (tT X.K W t) := pw_and1 ha
theorem pW_or1 (ha : PT X a (tT X.K W t)) : PW X (.BoolOp .Or [a] pos) (tT X.K W t) := pw_or1 ha
theorem pW_and {rest : List Expr} (ha : PT X a (tT X.K W t)) (hb : PW X (.BoolOp .And (b :: rest) pos) (tT X.K W u)) : PW X (.BoolOp .And (a :: b :: rest) pos) (tT X.K W (fAnd t u)) := by
  refine PW.weak (pw_and ha hb) fun σ H Q hq => ?_
  obtain ⟨mu, s, L, m, l, p⟩ := hq
  refine ⟨mu, s, L, m, l, tT_step p fun b s1 mu1 H1 g1 m1 p1 => ?_⟩
  cases b with
  | true => exact ⟨mu1, s1, L, m1, l.mono g1, p1⟩
  | false => exact p1 mu1 H1 _ (Ge.refl _ _) m1 rfl
theorem pW_or {rest : List Expr} (ha : PT X a (tT X.K W t)) (hb : PW X (.BoolOp .Or (b :: rest) pos) (tT X.K W u)) : PW X (.BoolOp .Or (a :: b :: rest) pos) (tT X.K W (fOr t u)) := by
  refine PW.weak (pw_or ha hb) fun σ H Q hq => ?_
  obtain ⟨mu, s, L, m, l, p⟩ := hq
  refine ⟨mu, s, L, m, l, tT_step p fun b s1 mu1 H1 g1 m1 p1 => ?_⟩
  cases b with
  | false => exact ⟨mu1, s1, L, m1, l.mono g1, p1⟩
  | true => exact p1 mu1 H1 _ (Ge.refl _ _) m1 rfl
theorem pE_if {c : Expr} (hc : PT X c (tT X.K W t)) (ha : PE X a (tE X.K W f)) (hb : PE X b (tE X.K W g)) : PE X (.IfExp c a b pos) (tE X.K W (fIf t f g)) := by
  refine PE.weak (pe_ifExp hc ha hb) fun σ H Q hq => ?_
  obtain ⟨mu, s, L, m, l, p⟩ := hq
  refine ⟨mu, s, L, m, l, tT_step p fun b s1 mu1 H1 g1 m1 p1 => ?_⟩
  cases b with
  | false => exact ⟨mu1, s1, L, m1, l.mono g1, p1⟩
  | true => exact ⟨mu1, s1, L, m1, l.mono g1, p1⟩
/-! ### arguments, displays -/
def fNil : F (List D) := fun _ s => .ok [] s
def fCons (f : F D) (r : F (List D)) : F (List D) := fun L s => (f L s).bind fun a s1 => (r L s1).bind fun as s2 => .ok (a :: as) s2
variable {fa : F (List D)} {es : List Expr}
theorem pA_nil : PA X [] (tA X.K W fNil) := by
  refine PA.weak pa_nil fun σ H Q hq => ?_
  obtain ⟨mu, s, L, m, l, p⟩ := hq
  exact p mu H _ (Ge.refl _ _) m .nil
theorem pA_cons (ha : PE X e (tE X.K W f)) (hr : PA X es (tA X.K W fa)) (hs : starEach (e :: es) X.env = (false, eval e X.env) :: starEach es X.env := by rfl) : PA X (e :: es) (tA X.K W (fCons f fa)) := by
  refine PA.weak (pa_cons ha hr hs) fun σ H Q hq => ?_
  obtain ⟨mu, s, L, m, l, p⟩ := hq
  refine ⟨mu, s, L, m, l, Post.step p fun d1 s1 mu1 H1 v1 g1 m1 r1 p1 => ?_⟩
  refine ⟨mu1, s1, L, m1, l.mono g1, Post.step p1 fun d2 s2 mu2 H2 v2 g2 m2 r2 p2 => ?_⟩
  exact p2 mu2 H2 _ (Ge.refl _ _) m2 (.cons (r1.mono g2) r2)
def big : Nat := 1000000
theorem big_le {n : Nat} (h : n ≤ big) : n ≤ sizeLine := by
  rw [sizeLine_eq]
  unfold big at h
  omega
/-- a tuple; a list that is never changed; a list that is tracked -/
def fTup (fa : F (List D)) : F D := fun L s => (fa L s).bind fun ds s1 => if ds.length ≤ big then .ok (.tup ds) s1 else .bad
def fLst (fa : F (List D)) : F D := fun L s => (fa L s).bind fun ds s1 => if ds.length ≤ big then .ok (.lst ds) s1 else .bad
def fLstT (fa : F (List D)) : F D := fun L s => (fa L s).bind fun ds s1 => if ds.length ≤ big then .ok (.ref s1.length) (s1 ++ [.lst ds]) else .bad
theorem rel_tup {K : PySem.W.Frag} {mu : Mu} {s : S} {H : Hp} {p : Addr} {ds : List D} {vs : List V} (m : Sim K mu s H) (hp : H p = none) (r : RelDs K mu H ds vs) : RelD K mu (upd H p (.tup vs)) (.tup ds) (.ref p) := by
  simp only [RelD]
  exact ⟨p, vs, rfl, .inr ⟨upd_same, m.fresh hp⟩, r.mono (Ge.pure m hp)⟩
theorem rel_lst {K : PySem.W.Frag} {mu : Mu} {s : S} {H : Hp} {p : Addr} {ds : List D} {vs : List V} (m : Sim K mu s H) (hp : H p = none) (r : RelDs K mu H ds vs) : RelD K mu (upd H p (.lst vs)) (.lst ds) (.ref p) := by
  simp only [RelD]
  exact ⟨p, vs, rfl, ⟨upd_same, m.fresh hp⟩, r.mono (Ge.pure m hp)⟩
theorem pE_tup {x1} (h : PA X es (tA X.K W fa)) : PE X (.Tuple es x1 pos) (tE X.K W (fTup fa)) := by
  refine PE.weak (pe_tup h) fun σ H Q hq => ?_
  obtain ⟨mu, s, L, m, l, p⟩ := hq
  refine ⟨mu, s, L, m, l, Post.step p fun d1 s1 mu1 H1 v1 g1 m1 r1 p1 => ?_⟩
  split at p1
  · rename_i hb
    exact ⟨by rw [← r1.length]; exact big_le hb, fun q hq => p1 mu1 _ _ (Ge.pure m1 hq) (m1.pure hq) (rel_tup m1 hq r1)⟩
  · exact p1.elim
theorem pE_lst (h : PA X es (tA X.K W fa)) : PE X (.List es pos) (tE X.K W (fLst fa)) := by
  refine PE.weak (pe_lst h) fun σ H Q hq => ?_
  obtain ⟨mu, s, L, m, l, p⟩ := hq
  refine ⟨mu, s, L, m, l, Post.step p fun d1 s1 mu1 H1 v1 g1 m1 r1 p1 => ?_⟩
  split at p1
  · rename_i hb
    exact ⟨by rw [← r1.length]; exact big_le hb, fun q hq => p1 mu1 _ _ (Ge.pure m1 hq) (m1.pure hq) (rel_lst m1 hq r1)⟩
  · exact p1.elim
theorem rel_ref_last {K : PySem.W.Frag} {mu : Mu} {s : S} {H H' : Hp} {p : Addr} (m : Sim K mu s H) : RelD K (mu ++ [some p]) H' (.ref s.length) (.ref p) := by
  simp only [RelD]
  exact ⟨p, by rw [← m.len, List.getElem?_append_right (Nat.le_refl _), Nat.sub_self]; rfl, rfl⟩
theorem pE_lstT (h : PA X es (tA X.K W fa)) : PE X (.List es pos) (tE X.K W (fLstT fa)) := by
  refine PE.weak (pe_lst h) fun σ H Q hq => ?_
  obtain ⟨mu, s, L, m, l, p⟩ := hq
  refine ⟨mu, s, L, m, l, Post.step p fun d1 s1 mu1 H1 v1 g1 m1 r1 p1 => ?_⟩
  split at p1
  · rename_i hb
    exact ⟨by rw [← r1.length]; exact big_le hb, fun q hq => p1 _ _ _ (Ge.track m1 hq) (m1.track hq ⟨v1, upd_same, r1.mono (Ge.track m1 hq)⟩) (rel_ref_last m1)⟩
  · exact p1.elim
/-! ### calls of built-ins by values -/
def fCB (o : S → List D → Option D) (fa : F (List D)) : F D := fun L s => (fa L s).bind fun ds s1 => match o s1 ds with
  | some d => .ok d s1
  | none => .bad
def CbL (K : PySem.W.Frag) (r : List V → Hp → VK → Prop) (o : S → List D → Option D) : Prop :=
  ∀ (mu : Mu) (s : S) (H : Hp) (ds : List D) (d : D) (vs : List V) (Q : VK), Sim K mu s H → RelDs K mu H ds vs → o s ds = some d →
    (∀ mu' H' v, Ge mu H mu' H' → Sim K mu' s H' → RelD K mu' H' d v → Q v H') → r vs H Q
theorem weak_cb {r : List V → Hp → VK → Prop} {o : S → List D → Option D} (hl : CbL X.K r o) (σ : L2.St) (H : Hp) (Q : VK) (hq : tE X.K W (fCB o fa) σ H Q) : tCB r (tA X.K W fa) σ H Q := by
  obtain ⟨mu, s, L, m, l, p⟩ := hq
  refine ⟨mu, s, L, m, l, Post.step p fun d1 s1 mu1 H1 v1 g1 m1 r1 p1 => ?_⟩
  cases eo : o s1 d1 with
  | none =>
    rw [eo] at p1
    exact p1.elim
  | some d =>
    rw [eo] at p1
    exact hl mu1 s1 H1 d1 d v1 Q m1 r1 eo fun mu' H' v g' m' r' => p1 mu' H' v g' m' r'
theorem pE_cb {id : String} {x : Str} {p : Pos} {r : List V → Hp → VK → Prop} {o : S → List D → Option D} (hc : CallR X (.builtin id) r) (hl : CbL X.K r o) (hm : X.mg x = none) (hv : bootBuiltins x = some (.builtin id)) (ha : PA X (e :: es) (tA X.K W fa)) (hg : Gl X x := by rfl)
    (hn : x ≠ "__name__" := by decide) (hdb : (x == ("__debug__" : Str)) = false := by decide)
    (he : starEach (e :: es) X.env = (false, eval e X.env) :: starEach es X.env := by rfl) (hpl : (backTo pos (starEach es X.env)).any (·.1) = false := by rfl) : PE X (.Call (.Name x p) (e :: es) [] pos) (tE X.K W (fCB o fa)) :=
  PE.weak (pe_callB hc hg hm hv ha hn hdb he hpl) fun σ H Q q => weak_cb hl σ H Q q
theorem pE_cty {T : String} {x : Str} {p : Pos} {r : List V → Hp → VK → Prop} {o : S → List D → Option D} (hc : CallR X (.type T) r) (hl : CbL X.K r o) (hm : X.mg x = none) (hv : bootBuiltins x = some (.type T)) (ha : PA X (e :: es) (tA X.K W fa)) (hg : Gl X x := by rfl)
    (hn : x ≠ "__name__" := by decide) (hdb : (x == ("__debug__" : Str)) = false := by decide)
    (he : starEach (e :: es) X.env = (false, eval e X.env) :: starEach es X.env := by rfl) (hpl : (backTo pos (starEach es X.env)).any (·.1) = false := by rfl) : PE X (.Call (.Name x p) (e :: es) [] pos) (tE X.K W (fCB o fa)) :=
  PE.weak (pe_callTy hc hg hm hv ha hn hdb he hpl) fun σ H Q q => weak_cb hl σ H Q q
end
end SI

namespace SI
open PySem PySem.Spec PyProof.Rows L2
section
variable {X : Cx} {W : WX} {a b c e : Expr} {f g h : F D} {t : F Bool} {fa : F (List D)} {es : List Expr} {pos : Pos} {st : Stmt} {sts : List Stmt} {u v : FS}
/-! ### statements -/
def sBad : FS := fun _ _ => .bad
def sNext : FS := fun L s => .nx L s
def sSeq (u v : FS) : FS := fun L s => (u L s).bind v
def sAsg (i : Nat) (f : F D) : FS := fun L s => (f L s).bindS L fun d s1 => .nx (L.set i (some d)) s1
def sExpr (f : F D) : FS := fun L s => (f L s).bindS L fun _ s1 => .nx L s1
def sRet (f : F D) : FS := fun L s => (f L s).bindS L fun d s1 => .rt d s1
def sRetN : FS := fun _ s => .rt .non s
def sIf (t : F Bool) (u v : FS) : FS := fun L s => (t L s).bindS L fun b s1 => if b = true then u L s1 else v L s1
def sBreak : FS := fun L s => .bk L s
def sCont : FS := fun L s => .ct L s
theorem pS_bad : PS X st (tS X.K W sBad) := ⟨fun _ _ _ _ _ _ ⟨_, _, _, _, _, p⟩ => p.elim⟩
theorem pSs_bad : PSs X sts (tS X.K W sBad) := ⟨fun _ _ _ _ _ _ ⟨_, _, _, _, _, p⟩ => p.elim⟩
theorem pE_bad : PE X e (tE X.K W (fun _ _ => .bad)) := ⟨fun _ _ _ _ _ _ ⟨_, _, _, _, _, p⟩ => p.elim⟩
theorem pSs_nil : PSs X [] (tS X.K W sNext) := PSs.weak pss_nil fun D σ H ⟨mu, s, L, m, l, p⟩ => p mu σ H (Ge.refl _ _) m l
theorem pSs_cons (h1 : PS X st (tS X.K W u)) (h2 : PSs X sts (tS X.K W v)) : PSs X (st :: sts) (tS X.K W (sSeq u v)) := by
  refine PSs.weak (pss_cons h1 h2) fun D σ H ⟨mu, s, L, m, l, p⟩ => ⟨mu, s, L, m, l, ?_⟩
  unfold sSeq at p
  cases e : u L s with
  | nx L' s' =>
    rw [e] at p
    exact fun mu' σ' H' g' m' l' => ⟨mu', s', L', m', l', PostS.ge (r := v L' s') g' p⟩
  | rt d s' => rw [e] at p; exact p
  | bk d s' => rw [e] at p; exact p
  | ct d s' => rw [e] at p; exact p
  | ex C fs ds L' s' => rw [e] at p; exact p
  | bad => rw [e] at p; exact p.elim
theorem pSs_one (h1 : PS X st (tS X.K W u)) : PSs X [st] (tS X.K W u) := pss_one h1
theorem pS_pass : PS X (.Pass pos) (tS X.K W sNext) := PS.weak ps_pass fun D σ H ⟨mu, s, L, m, l, p⟩ => p mu σ H (Ge.refl _ _) m l
theorem pS_break : PS X (.Break pos) (tS X.K W sBreak) := PS.weak ps_break fun D σ H ⟨mu, s, L, m, l, p⟩ => p mu σ H (Ge.refl _ _) m l
theorem pS_cont : PS X (.Continue pos) (tS X.K W sCont) := PS.weak ps_continue fun D σ H ⟨mu, s, L, m, l, p⟩ => p mu σ H (Ge.refl _ _) m l
theorem pS_doc {x j pos pos'} : PS X (.Expr (.Constant (.str x) j pos) pos') (tS X.K W sNext) := PS.weak ps_doc fun D σ H ⟨mu, s, L, m, l, p⟩ => p mu σ H (Ge.refl _ _) m l
theorem pS_set {i : Nat} {x : Str} {pos' : Pos} (hN : X.N.Nodup) (he : PE X e (tE X.K W f)) (hi : X.N[i]? = some x := by rfl) (hx : Loc X.env.scope x := by first | exact Or.inl rfl | exact Or.inr rfl)
    (hs : swapsWith e (some (.Name x pos')) pos.line X.env = pure false := by rfl) (hf : X.fn x = true ∨ X.env.scope.names.lookup x = some .local := by first | exact .inl rfl | exact .inr rfl | assumption) :
    PS X (.Assign [.Name x pos'] e pos) (tS X.K W (sAsg i f)) := by
  refine PS.weak (ps_set hN hi hx he hs hf) fun D σ H ⟨mu, s, L, m, l, p⟩ => ⟨mu, s, L, m, l, ?_⟩
  exact Post.stepS l p fun d s1 mu1 H1 v1 g1 m1 r1 p1 => p1 mu1 _ H1 (Ge.refl _ _) m1 ((l.mono g1).set i r1)
theorem pS_expr (he : PE X e (tE X.K W f)) (hs : swapsWith e none pos.line X.env = pure false := by rfl) : PS X (.Expr e pos) (tS X.K W (sExpr f)) := by
  refine PS.weak (ps_expr he hs) fun D σ H ⟨mu, s, L, m, l, p⟩ => ⟨mu, s, L, m, l, ?_⟩
  exact Post.stepS l p fun d s1 mu1 H1 v1 g1 m1 r1 p1 => p1 mu1 _ H1 (Ge.refl _ _) m1 (l.mono g1)
theorem pS_ret (he : PE X e (tE X.K W f)) : PS X (.Return (some e) pos) (tS X.K W (sRet f)) := by
  refine PS.weak (ps_ret he) fun D σ H ⟨mu, s, L, m, l, p⟩ => ⟨mu, s, L, m, l, ?_⟩
  exact Post.stepS l p fun d s1 mu1 H1 v1 g1 m1 r1 p1 => p1 mu1 H1 _ (Ge.refl _ _) m1 r1
theorem pS_retN : PS X (.Return none pos) (tS X.K W sRetN) := PS.weak ps_retN fun D σ H ⟨mu, s, L, m, l, p⟩ => p mu H _ (Ge.refl _ _) m (rel_non.mpr rfl)
theorem pS_if {c : Expr} {as bs : List Stmt} (hc : PT X c (tT X.K W t)) (ha : PSs X as (tS X.K W u)) (hb : PSs X bs (tS X.K W v)) : PS X (.If c as bs pos) (tS X.K W (sIf t u v)) := by
  refine PS.weak (ps_if hc ha hb) fun D σ H ⟨mu, s, L, m, l, p⟩ => ⟨mu, s, L, m, l, ?_⟩
  refine Post.stepS l p fun d s1 mu1 H1 v1 g1 m1 r1 p1 => ?_
  subst r1
  cases d with
  | true => exact ⟨mu1, s1, L, m1, l.mono g1, p1⟩
  | false => exact ⟨mu1, s1, L, m1, l.mono g1, p1⟩
/-! ### targets -/
abbrev Tg := D → Lc → Option Lc
def tG (K : PySem.W.Frag) (q : Tg) : TG := fun v σ H Q => ∃ mu s L d L', Sim K mu s H ∧ LR K mu H L σ ∧ RelD K mu H d v ∧ q d L = some L' ∧ ∀ σ', LR K mu H L' σ' → Q σ' H
abbrev Tgs := List D → Lc → Option Lc
def tGs (K : PySem.W.Frag) (q : Tgs) : TGs := fun vs σ H Q => ∃ mu s L ds L', Sim K mu s H ∧ LR K mu H L σ ∧ RelDs K mu H ds vs ∧ q ds L = some L' ∧ ∀ σ', LR K mu H L' σ' → Q σ' H
theorem PG.weak {X : Cx} {e : Expr} {t t' : TG} (h : PG X e t) (w : ∀ v σ H Q, t' v σ H Q → t v σ H Q) : PG X e t' := ⟨fun pins s σ H x u Q I r q => h.run pins s σ H x u Q I r (w _ _ _ _ q)⟩
theorem PGs.weak {X : Cx} {e : List Expr} {t t' : TGs} (h : PGs X e t) (w : ∀ v σ H Q, t' v σ H Q → t v σ H Q) : PGs X e t' := ⟨fun pins s σ H x u Q I r q => h.run pins s σ H x u Q I r (w _ _ _ _ q)⟩
def gN (i : Nat) : Tg := fun d L => some (L.set i (some d))
def gNl : Tgs := fun ds L => match ds with
  | [] => some L
  | _ => none
def gCn (q : Tg) (r : Tgs) : Tgs := fun ds L => match ds with
  | d :: ds => (q d L).bind (r ds)
  | [] => none
def gTp (r : Tgs) : Tg := fun d L => match d with
  | .tup ds => r ds L
  | _ => none
theorem pG_name {i : Nat} {x : Str} (hN : X.N.Nodup) (hi : X.N[i]? = some x := by rfl) (hx : Loc X.env.scope x := by first | exact Or.inl rfl | exact Or.inr rfl) (hf : X.fn x = true ∨ X.env.scope.names.lookup x = some .local := by first | exact .inl rfl | exact .inr rfl | assumption) : PG X (.Name x pos) (tG X.K (gN i)) := by
  refine PG.weak (pg_name hN hi hx hf) fun v σ H Q ⟨mu, s, L, d, L', m, l, r, e, q⟩ => ?_
  cases e
  exact q _ (l.set i r)
theorem pGs_nil : PGs X [] (tGs X.K gNl) := by
  refine PGs.weak pgs_nil fun v σ H Q ⟨mu, s, L, ds, L', m, l, r, e, q⟩ => ?_
  cases ds with
  | nil =>
    cases e
    simp only [RelDs] at r
    exact ⟨r, q _ l⟩
  | cons d ds => cases e
theorem pGs_cons {e : Expr} {es : List Expr} {q : Tg} {r : Tgs} (h1 : PG X e (tG X.K q)) (h2 : PGs X es (tGs X.K r)) (h3 : PGs X (e :: es) (gCons (tG X.K q) (tGs X.K r))) : PGs X (e :: es) (tGs X.K (gCn q r)) := by
  refine PGs.weak h3 fun v σ H Q ⟨mu, s, L, ds, L', m, l, rr, e, k⟩ => ?_
  cases ds with
  | nil => cases e
  | cons d ds =>
    simp only [RelDs] at rr
    obtain ⟨v1, vs, rfl, r1, r2⟩ := rr
    simp only [gCn] at e
    cases e1 : q d L with
    | none =>
      rw [e1] at e
      cases e
    | some L1 =>
      rw [e1] at e
      exact ⟨v1, vs, rfl, mu, s, L, d, L1, m, l, r1, e1, fun σ' l' => ⟨mu, s, L1, ds, L', m, l', r2, e, k⟩⟩
theorem sq_tup {K : PySem.W.Frag} {mu : Mu} {H : Hp} {ds : List D} {v : V} (h : RelD K mu H (.tup ds) v) : ∃ a vs, v = .ref a ∧ SqT K H a vs ∧ RelDs K mu H ds vs := by
  simp only [RelD] at h
  obtain ⟨a, vs, e, r, t⟩ := h
  refine ⟨a, vs, e, ?_, t⟩
  rcases r with r | r
  · exact .inr r
  · exact .inl (.inl r.1)
theorem sq_lst {K : PySem.W.Frag} {mu : Mu} {H : Hp} {ds : List D} {v : V} (h : RelD K mu H (.lst ds) v) : ∃ a vs, v = .ref a ∧ SqL K H a vs ∧ RelDs K mu H ds vs := by
  simp only [RelD] at h
  obtain ⟨a, vs, e, r, t⟩ := h
  exact ⟨a, vs, e, .of r.1, t⟩
theorem sq_rdl {K : PySem.W.Frag} {mu : Mu} {H : Hp} {ds : List D} {v : V} (h : RelD K mu H (.rdl ds) v) : ∃ a vs, v = .ref a ∧ SqL K H a vs ∧ RelDs K mu H ds vs := by
  simp only [RelD] at h
  obtain ⟨a, vs, e, r, t⟩ := h
  refine ⟨a, vs, e, ?_, t⟩
  rcases r with r | r
  · exact .inr r
  · exact .inl r.1
theorem sq_ref {K : PySem.W.Frag} {mu : Mu} {s : S} {H : Hp} {n : Nat} {ds : List D} {v : V} (m : Sim K mu s H) (h : RelD K mu H (.ref n) v) (e : s[n]? = some (.lst ds)) : ∃ a vs, v = .ref a ∧ mu[n]? = some (some a) ∧ H a = some (.lst vs) ∧ RelDs K mu H ds vs := by
  simp only [RelD] at h
  obtain ⟨a, ea, ev⟩ := h
  rcases m.obj n _ e with z | ⟨b, eb, r⟩
  · cases z
  · rw [ea] at eb
    cases eb
    obtain ⟨vs, h1, h2⟩ := r
    exact ⟨a, vs, ev, ea, h1, h2⟩
theorem pG_tup {es : List Expr} {k : Nat} {r : Tgs} {n : Nat} (h2 : PG X (.Tuple es k pos) (gTup X.K n (tGs X.K r))) (hn : ∀ ds L L', r ds L = some L' → ds.length = n) : PG X (.Tuple es k pos) (tG X.K (gTp r)) := by
  refine PG.weak h2 fun v σ H Q ⟨mu, s, L, d, L', m, l, rr, e, q⟩ => ?_
  cases d <;> simp only [gTp] at e <;> try cases e
  rename_i ds
  obtain ⟨a, vs, ev, sq, rs⟩ := sq_tup rr
  exact ⟨a, vs, ev, sq, by rw [← rs.length]; exact hn ds L L' e, mu, s, L, ds, L', m, l, rs, e, q⟩
theorem gNl_len {ds : List D} {L L' : Lc} (h : gNl ds L = some L') : ds.length = 0 := by
  cases ds with
  | nil => rfl
  | cons d ds => cases h
theorem gCn_len {q : Tg} {r : Tgs} {n : Nat} (hr : ∀ ds L L', r ds L = some L' → ds.length = n) : ∀ ds L L', gCn q r ds L = some L' → ds.length = n + 1 := fun ds L L' h => by
  cases ds with
  | nil => cases h
  | cons d ds =>
    simp only [gCn] at h
    cases e : q d L with
    | none =>
      rw [e] at h
      cases h
    | some L1 =>
      rw [e] at h
      rw [List.length_cons, hr ds L1 L' h]
/-- target = value -/
def sAsgG (q : Tg) (f : F D) : FS := fun L s => (f L s).bindS L fun d s1 => match q d L with
  | some L' => .nx L' s1
  | none => .bad
theorem pS_asg {tg e : Expr} {q : Tg} (he : PE X e (tE X.K W f)) (hg : PG X tg (tG X.K q)) (hx : PS X (.Assign [tg] e pos) (tAsg (tE X.K W f) (tG X.K q))) : PS X (.Assign [tg] e pos) (tS X.K W (sAsgG q f)) := by
  refine PS.weak hx fun D σ H ⟨mu, s, L, m, l, p⟩ => ⟨mu, s, L, m, l, ?_⟩
  refine Post.stepS l p fun d s1 mu1 H1 v1 g1 m1 r1 p1 => ?_
  cases eq : q d L with
  | none =>
    rw [eq] at p1
    exact p1.elim
  | some L' =>
    rw [eq] at p1
    exact ⟨mu1, s1, L, d, L', m1, l.mono g1, r1, eq, fun σ' l' => p1 mu1 σ' H1 (Ge.refl _ _) m1 l'⟩
/-! ### loops -/
/-- what is walked: its items, and which tracked list they are of -/
structure Src where
  items : List D
  on : Option (Nat × List D)
def chk (r : Src) (s : S) : Bool := match r.on with
  | none => true
  | some (n, xs) => decide (s[n]? = some (.lst xs))
/-- an iterator gives these items -/
def ItR (K : PySem.W.Frag) (mu : Mu) (H : Hp) (J : It) (r : Src) : Prop :=
  ∀ mu' s' H', Ge mu H mu' H' → Sim K mu' s' H' → chk r s' = true → ∀ i : Nat,
    (∀ d, r.items[i]? = some d → J.go i H' ∧ ∀ x H2, J.yld i H' x H2 → Ge mu' H' mu' H2 ∧ Sim K mu' s' H2 ∧ RelD K mu' H2 d x) ∧ (r.items[i]? = none → J.stop i H')
def tI (K : PySem.W.Frag) (W : WX) (f : F Src) : TI := fun σ H R => ∃ mu s L, Sim K mu s H ∧ LR K mu H L σ ∧ Post K W (fun mu' H' (r : Src) (J : It) => ItR K mu' H' J r) σ mu H R (f L s)
def forL (q : Tg) (body : FS) (r : Src) : List D → Lc → S → RS
  | [], L, s => if chk r s = true then .nx L s else .bad
  | d :: ds, L, s => if chk r s = true then (match q d L with
    | none => .bad
    | some L1 => match body L1 s with
      | .nx L2 s2 => forL q body r ds L2 s2
      | .ct L2 s2 => forL q body r ds L2 s2
      | .bk L2 s2 => .nx L2 s2
      | x => x) else .bad
def sFor (f : F Src) (q : Tg) (body : FS) : FS := fun L s => (f L s).bindS L fun r s1 => forL q body r r.items L s1
theorem pS_for {tg iter : Expr} {body : List Stmt} {fi : F Src} {q : Tg} {ub : FS} (hp : PassesOwn (model X.prog X.w) X.A X.env X.xe) (hc : X.calm = true) (hi : PI X tg iter (tI X.K W fi)) (hg : PG X tg (tG X.K q)) (hb : PSs X body (tS X.K W ub))
    (hs : ∀ x, foldedSetIterable iter X.env x = pure x := by intro _; rfl) : PS X (.For tg iter body [] pos) (tS X.K W (sFor fi q ub)) := by
  refine PS.weak (ps_for hp hc hi hg hb hs) fun D σ H ⟨mu, s, L, m, l, p⟩ => ⟨mu, s, L, m, l, ?_⟩
  refine Post.stepS l p fun r s1 mu1 H1 J g1 m1 ir p1 => ?_
  refine ⟨fun i n σ' H' => n = r.items.length - i ∧ i ≤ r.items.length ∧ ∃ mu' s' L', Ge mu1 H1 mu' H' ∧ Sim X.K mu' s' H' ∧ LR X.K mu' H' L' σ' ∧ PostS X.K W D mu' H' (forL q ub r (r.items.drop i) L' s'),
    ⟨_, rfl, Nat.zero_le _, mu1, s1, L, Ge.refl _ _, m1, l.mono g1, p1⟩, ?_⟩
  rintro i n σ' H' ⟨rfl, hi', mu', s', L', g', m', l', p'⟩
  by_cases hlt : i < r.items.length
  · have hd : r.items.drop i = r.items[i] :: r.items.drop (i + 1) := List.drop_eq_getElem_cons hlt
    rw [hd] at p'
    unfold forL at p'
    by_cases hk : chk r s' = true
    · rw [if_pos hk] at p'
      have hir := (ir mu' s' H' g' m' hk i).1 _ (List.getElem?_eq_getElem hlt)
      refine .inr ⟨hir.1, fun σ2 H2 => ∃ mu2 s2 L2, Ge mu1 H1 mu2 H2 ∧ Sim X.K mu2 s2 H2 ∧ LR X.K mu2 H2 L2 σ2 ∧ PostS X.K W D mu2 H2 (forL q ub r (r.items.drop (i + 1)) L2 s2), fun σ2 H2 n2 => ⟨_, ?_, rfl, hlt, n2⟩, fun x H2 hy => ?_⟩
      · omega
      · obtain ⟨g2, m2, r2⟩ := hir.2 x H2 hy
        cases eq : q r.items[i] L' with
        | none =>
          rw [eq] at p'
          exact p'.elim
        | some L1 =>
          rw [eq] at p'
          refine ⟨mu', s', L', _, L1, m2, l'.mono g2, r2, eq, fun σ3 l3 => ⟨mu', s', L1, m2, l3, ?_⟩⟩
          dsimp only at p'
          cases eb : ub L1 s' with
          | nx L2 s2 =>
            rw [eb] at p'
            exact fun mu4 σ4 H4 g4 m4 l4 => ⟨mu4, s2, L2, (g'.trans g2).trans g4, m4, l4, PostS.ge (g2.trans g4) p'⟩
          | ct L2 s2 =>
            rw [eb] at p'
            exact fun mu4 σ4 H4 g4 m4 l4 => ⟨mu4, s2, L2, (g'.trans g2).trans g4, m4, l4, PostS.ge (g2.trans g4) p'⟩
          | bk L2 s2 =>
            rw [eb] at p'
            exact fun mu4 σ4 H4 g4 m4 l4 => p' mu4 σ4 H4 (g2.trans g4) m4 l4
          | rt d s2 =>
            rw [eb] at p'
            exact fun mu4 H4 v4 g4 m4 r4 => p' mu4 H4 v4 (g2.trans g4) m4 r4
          | ex C fs ds L2 s2 =>
            rw [eb] at p'
            exact fun mu4 σ4 H4 od g4 m4 l4 x4 => p' mu4 σ4 H4 od (g2.trans g4) m4 l4 x4
          | bad =>
            rw [eb] at p'
            exact p'.elim
    · rw [if_neg hk] at p'
      exact p'.elim
  · have hd : r.items.drop i = [] := List.drop_eq_nil_of_le (by omega)
    rw [hd] at p'
    unfold forL at p'
    by_cases hk : chk r s' = true
    · rw [if_pos hk] at p'
      exact .inl ⟨(ir mu' s' H' g' m' hk i).2 (List.getElem?_eq_none (by omega)), p' mu' σ' H' (Ge.refl _ _) m' l'⟩
    · rw [if_neg hk] at p'
      exact p'.elim
/-! what is walked -/
def iSeq (s : S) : D → Option Src
  | .lst xs => some ⟨xs, none⟩
  | .rdl xs => some ⟨xs, none⟩
  | .tup xs => some ⟨xs, none⟩
  | .ref n => match s[n]? with
    | some (.lst xs) => some ⟨xs, some (n, xs)⟩
    | _ => none
  | _ => none
def fSrc (f : F D) : F Src := fun L s => (f L s).bind fun d s1 => match iSeq s1 d with
  | some r => .ok r s1
  | none => .bad
theorem PI.weak {X : Cx} {tg e : Expr} {t t' : TI} (h : PI X tg e t) (w : ∀ σ H R, t' σ H R → t σ H R) : PI X tg e t' := ⟨fun pins s σ H R I q => h.run pins s σ H R I (w _ _ _ q)⟩
theorem PI.or {X : Cx} {tg e : Expr} {t t' : TI} (h : PI X tg e t) (h' : PI X tg e t') : PI X tg e (fun σ H R => t σ H R ∨ t' σ H R) := ⟨fun pins s σ H R I q => q.elim (h.run pins s σ H R I) (h'.run pins s σ H R I)⟩
theorem itr_lst {K : PySem.W.Frag} {mu : Mu} {H : Hp} {ds : List D} {a : Addr} {vs : List V} (h : KLst K a vs ∨ FixR mu H a (.lst vs)) (rs : RelDs K mu H ds vs) : ItR K mu H (Itl K a) ⟨ds, none⟩ := by
  intro mu' s' H' g m _ i
  have sq : SqL K H' a vs := h.elim .inr fun z => .inl (g.fixR z).1
  have rs' := rs.mono g
  refine ⟨fun d e => ?_, fun e => ?_⟩
  · obtain ⟨v, ev, rv⟩ := rs'.get e
    refine ⟨⟨vs, v, sq, ev⟩, fun x H2 hy => ?_⟩
    obtain ⟨e2, hx⟩ := hy
    subst e2
    have := hx vs sq
    rw [ev] at this
    cases this
    exact ⟨Ge.refl _ _, m, rv⟩
  · refine ⟨vs, sq, ?_⟩
    have hl := rs'.length
    have := List.getElem?_eq_none_iff.mp e
    have e2 : ds.length ≤ i := this
    omega
theorem itr_tup {K : PySem.W.Frag} {mu : Mu} {H : Hp} {ds : List D} {a : Addr} {vs : List V} (h : KTup K a vs ∨ Fix mu H a (.tup vs)) (rs : RelDs K mu H ds vs) : ItR K mu H (Itt K a) ⟨ds, none⟩ := by
  intro mu' s' H' g m _ i
  have sq : SqT K H' a vs := h.elim .inr fun z => .inl (.inl (g.fix z).1)
  have rs' := rs.mono g
  refine ⟨fun d e => ?_, fun e => ?_⟩
  · obtain ⟨v, ev, rv⟩ := rs'.get e
    refine ⟨⟨vs, v, sq, ev⟩, fun x H2 hy => ?_⟩
    obtain ⟨e2, hx⟩ := hy
    subst e2
    have := hx vs sq
    rw [ev] at this
    cases this
    exact ⟨Ge.refl _ _, m, rv⟩
  · refine ⟨vs, sq, ?_⟩
    have hl := rs'.length
    have := List.getElem?_eq_none_iff.mp e
    have e2 : ds.length ≤ i := this
    omega
theorem itr_ref {K : PySem.W.Frag} {mu : Mu} {H : Hp} {ds : List D} {a : Addr} {n : Nat} (ha : mu[n]? = some (some a)) : ItR K mu H (Itl K a) ⟨ds, some (n, ds)⟩ := by
  intro mu' s' H' g m hk i
  have e : s'[n]? = some (.lst ds) := by
    simpa [chk] using hk
  have ha' := g.rf n a ha
  obtain ⟨b, vs, e1, e2, e3, rs'⟩ := sq_ref (v := .ref a) m (by simp only [RelD]; exact ⟨a, ha', rfl⟩) e
  cases e1
  have sq : SqL K H' a vs := .of e3
  refine ⟨fun d e => ?_, fun e => ?_⟩
  · obtain ⟨v, ev, rv⟩ := rs'.get e
    refine ⟨⟨vs, v, sq, ev⟩, fun x H2 hy => ?_⟩
    obtain ⟨e2, hx⟩ := hy
    subst e2
    have := hx vs sq
    rw [ev] at this
    cases this
    exact ⟨Ge.refl _ _, m, rv⟩
  · refine ⟨vs, sq, ?_⟩
    have hl := rs'.length
    have := List.getElem?_eq_none_iff.mp e
    have e2 : ds.length ≤ i := this
    omega
theorem pI_seq {tg l : Expr} (hl : PE X l (tE X.K W f)) : PI X tg l (tI X.K W (fSrc f)) := by
  refine PI.weak (PI.or (pi_list hl) (pi_tup hl)) fun σ H Rr ⟨mu, s, L, m, l, p⟩ => ?_
  unfold fSrc at p
  cases e : f L s with
  | bad =>
    rw [e] at p
    exact p.elim
  | ex C fs ds s' =>
    rw [e] at p
    exact .inl ⟨mu, s, L, m, l, by rw [e]; exact p⟩
  | ok d s1 =>
    rw [e] at p
    simp only [R.bind] at p
    cases d <;> simp only [iSeq] at p <;> try exact p.elim
    · rename_i n
      cases en : s1[n]? with
      | none =>
        rw [en] at p
        exact p.elim
      | some o =>
        rw [en] at p
        cases o <;> try exact p.elim
        rename_i ds
        refine .inl ⟨mu, s, L, m, l, ?_⟩
        rw [e]
        intro mu' H' v g' m' r'
        obtain ⟨a, vs, ev, ea, eh, rs⟩ := sq_ref m' r' en
        exact ⟨a, ev, ⟨vs, .of eh⟩, p mu' H' _ g' m' (itr_ref ea)⟩
    · rename_i ds
      refine .inr ⟨mu, s, L, m, l, ?_⟩
      rw [e]
      intro mu' H' v g' m' r'
      obtain ⟨a, vs, ev, sq, rs⟩ := sq_tup r'
      simp only [RelD] at r'
      obtain ⟨a', vs', e1, h1, rs'⟩ := r'
      rw [ev] at e1
      cases e1
      exact ⟨a, ev, ⟨vs, sq⟩, p mu' H' _ g' m' (itr_tup h1 rs')⟩
    · rename_i ds
      refine .inl ⟨mu, s, L, m, l, ?_⟩
      rw [e]
      intro mu' H' v g' m' r'
      obtain ⟨a, vs, ev, sq, rs⟩ := sq_lst r'
      simp only [RelD] at r'
      obtain ⟨a', vs', e1, h1, rs'⟩ := r'
      rw [ev] at e1
      cases e1
      exact ⟨a, ev, ⟨vs, sq⟩, p mu' H' _ g' m' (itr_lst (.inr ⟨.inl h1.1, h1.2⟩) rs')⟩
    · rename_i ds
      refine .inl ⟨mu, s, L, m, l, ?_⟩
      rw [e]
      intro mu' H' v g' m' r'
      obtain ⟨a, vs, ev, sq, rs⟩ := sq_rdl r'
      simp only [RelD] at r'
      obtain ⟨a', vs', e1, h1, rs'⟩ := r'
      rw [ev] at e1
      cases e1
      exact ⟨a, ev, ⟨vs, sq⟩, p mu' H' _ g' m' (itr_lst h1 rs')⟩
/-- range(n), range(a, b) -/
def rgOk (i : Int) : Bool := decide (-(2 ^ 62) ≤ i ∧ i < 2 ^ 62)
def rgItems (lo : Int) (n : Nat) : List D := (List.range n).map fun (k : Nat) => .int (lo + (k : Int))
def dRng1 : List D → Option Src
  | [.int j] => if rgOk j = true then some ⟨rgItems 0 j.toNat, none⟩ else none
  | _ => none
def dRng2 : List D → Option Src
  | [.int i, .int j] => if rgOk i = true ∧ rgOk j = true then some ⟨rgItems i (j - i).toNat, none⟩ else none
  | _ => none
def fRng (o : List D → Option Src) (fa : F (List D)) : F Src := fun L s => (fa L s).bind fun ds s1 => match o ds with
  | some r => .ok r s1
  | none => .bad
theorem itr_rng {K : PySem.W.Frag} {mu : Mu} {H : Hp} {lo : Int} {n : Nat} : ItR K mu H (Itr lo n) ⟨rgItems lo n, none⟩ := by
  intro mu' s' H' g m _ i
  have hl : (rgItems lo n).length = n := by simp [rgItems]
  refine ⟨fun d e => ?_, fun e => ?_⟩
  · have hi := (List.getElem?_eq_some_iff.mp e).1
    have hi' : i < n := by rw [← hl]; exact hi
    refine ⟨hi', fun x H2 hy => ?_⟩
    obtain ⟨rfl, rfl⟩ := hy
    have e2 : (rgItems lo n)[i]? = some (.int (lo + (i : Int))) := by
      unfold rgItems
      rw [List.getElem?_map, List.getElem?_range hi']
      rfl
    have e3 : some (D.int (lo + (i : Int))) = some d := e2.symm.trans e
    cases e3
    exact ⟨Ge.refl _ _, m, rel_int.mpr rfl⟩
  · have := List.getElem?_eq_none_iff.mp e
    show n ≤ i
    rw [← hl]
    exact this
theorem pI_rng1 {tg a : Expr} {p : Pos} (hm : X.mg "range" = none) (ha : PA X [a] (tA X.K W fa)) (hg : Gl X "range" := by rfl) (hs : starEach [a] X.env = [(false, eval a X.env)] := by rfl) : PI X tg (.Call (.Name "range" p) [a] [] pos) (tI X.K W (fRng dRng1 fa)) := by
  refine PI.weak (pi_range1 hg hm ha hs) fun σ H Rr ⟨mu, s, L, m, l, p⟩ => ⟨mu, s, L, m, l, Post.step p fun ds s1 mu1 H1 vs g1 m1 r1 p1 => ?_⟩
  rcases ds with _ | ⟨d, _ | ⟨d2, ds⟩⟩
  · exact p1.elim
  · cases d <;> simp only [dRng1] at p1 <;> try exact p1.elim
    rename_i j
    simp only [RelDs] at r1
    obtain ⟨v1, r, rfl, q1, rfl⟩ := r1
    rw [rel_int.mp q1]
    by_cases hj : rgOk j = true
    · rw [if_pos hj] at p1
      have hb : -(2 ^ 62) ≤ j ∧ j < 2 ^ 62 := of_decide_eq_true hj
      exact ⟨j, rfl, hb.1, hb.2, p1 mu1 H1 _ (Ge.refl _ _) m1 itr_rng⟩
    · rw [if_neg hj] at p1
      exact p1.elim
  · cases d <;> exact p1.elim
theorem pI_rng2 {tg a b : Expr} {p : Pos} (hm : X.mg "range" = none) (ha : PA X [a, b] (tA X.K W fa)) (hg : Gl X "range" := by rfl) (hs : starEach [a, b] X.env = [(false, eval a X.env), (false, eval b X.env)] := by rfl) (hs2 : starEach [b] X.env = [(false, eval b X.env)] := by rfl) :
    PI X tg (.Call (.Name "range" p) [a, b] [] pos) (tI X.K W (fRng dRng2 fa)) := by
  refine PI.weak (pi_range2 hg hm ha hs hs2) fun σ H Rr ⟨mu, s, L, m, l, p⟩ => ⟨mu, s, L, m, l, Post.step p fun ds s1 mu1 H1 vs g1 m1 r1 p1 => ?_⟩
  rcases ds with _ | ⟨d, _ | ⟨d2, _ | ⟨d3, ds⟩⟩⟩
  · exact p1.elim
  · cases d <;> exact p1.elim
  · cases d <;> simp only [dRng2] at p1 <;> try exact p1.elim
    cases d2 <;> simp only [dRng2] at p1 <;> try exact p1.elim
    rename_i i j
    simp only [RelDs] at r1
    obtain ⟨v1, r, rfl, q1, v2, r', rfl, q2, rfl⟩ := r1
    rw [rel_int.mp q1, rel_int.mp q2]
    by_cases hj : rgOk i = true ∧ rgOk j = true
    · rw [if_pos hj] at p1
      have hb : -(2 ^ 62) ≤ i ∧ i < 2 ^ 62 := of_decide_eq_true hj.1
      have hb2 : -(2 ^ 62) ≤ j ∧ j < 2 ^ 62 := of_decide_eq_true hj.2
      exact ⟨i, j, rfl, ⟨hb.1, hb.2, hb2.1, hb2.2⟩, p1 mu1 H1 _ (Ge.refl _ _) m1 itr_rng⟩
    · rw [if_neg hj] at p1
      exact p1.elim
  · cases d <;> cases d2 <;> exact p1.elim
/-! while -/
def whileL (t : F Bool) (body : FS) : Nat → Lc → S → RS
  | 0, _, _ => .bad
  | n + 1, L, s => (t L s).bindS L fun b s1 => if b = true then (match body L s1 with
      | .nx L2 s2 => whileL t body n L2 s2
      | .ct L2 s2 => whileL t body n L2 s2
      | .bk L2 s2 => .nx L2 s2
      | x => x) else .nx L s1
def sWhile (n : Nat) (t : F Bool) (body : FS) : FS := fun L s => whileL t body n L s
theorem pS_while {c : Expr} {body : List Stmt} {ub : FS} (n : Nat) (hp : PassesOwn (model X.prog X.w) X.A X.env X.xe) (hc : PT X c (tT X.K W t)) (hb : PSs X body (tS X.K W ub)) : PS X (.While c body [] pos) (tS X.K W (sWhile n t ub)) := by
  refine PS.weak (ps_while hp hc hb) fun D σ H ⟨mu, s, L, m, l, p⟩ => ?_
  refine ⟨fun k σ' H' => ∃ mu' s' L', Ge mu H mu' H' ∧ Sim X.K mu' s' H' ∧ LR X.K mu' H' L' σ' ∧ PostS X.K W D mu' H' (whileL t ub k L' s'), ⟨n, mu, s, L, Ge.refl _ _, m, l, p⟩, ?_⟩
  rintro k σ' H' ⟨mu', s', L', g', m', l', p'⟩
  cases k with
  | zero => exact p'.elim
  | succ k =>
    unfold whileL at p'
    refine ⟨mu', s', L', m', l', Post.stepS l' p' fun d s1 mu1 H1 v1 g1 m1 r1 p1 => ?_⟩
    subst r1
    cases d with
    | false => exact p1 mu1 σ' H1 (Ge.refl _ _) m1 (l'.mono g1)
    | true =>
      rw [if_pos rfl] at p1
      refine ⟨fun σ2 H2 => ∃ mu2 s2 L2, Ge mu H mu2 H2 ∧ Sim X.K mu2 s2 H2 ∧ LR X.K mu2 H2 L2 σ2 ∧ PostS X.K W D mu2 H2 (whileL t ub k L2 s2), fun σ2 H2 n2 => ⟨k, Nat.lt_succ_self _, n2⟩, mu1, s1, L', m1, l'.mono g1, ?_⟩
      cases eb : ub L' s1 with
      | nx L2 s2 =>
        rw [eb] at p1
        exact fun mu4 σ4 H4 g4 m4 l4 => ⟨mu4, s2, L2, (g'.trans g1).trans g4, m4, l4, PostS.ge g4 p1⟩
      | ct L2 s2 =>
        rw [eb] at p1
        exact fun mu4 σ4 H4 g4 m4 l4 => ⟨mu4, s2, L2, (g'.trans g1).trans g4, m4, l4, PostS.ge g4 p1⟩
      | bk L2 s2 =>
        rw [eb] at p1
        exact p1
      | rt d s2 =>
        rw [eb] at p1
        exact p1
      | ex C fs ds L2 s2 =>
        rw [eb] at p1
        exact p1
      | bad =>
        rw [eb] at p1
        exact p1.elim
/-! ### defs -/
def spI (K : PySem.W.Frag) (n : Nat) (G : List D → S → R D) : Sp := fun vs H Q E => ∃ mu s ds, Sim K mu s H ∧ RelDs K mu H ds vs ∧ ds.length = n ∧ Post K (fun c d _ H => E c d H) (RelD K) [] mu H Q (G ds s)
def fCall (n : Nat) (G : List D → S → R D) (fa : F (List D)) : F D := fun L s => (fa L s).bind fun ds s1 => if ds.length = n then G ds s1 else .bad
theorem weak_call {n : Nat} {G : List D → S → R D} (σ : L2.St) (H : Hp) (Q : VK) (hq : tE X.K W (fCall n G fa) σ H Q) : tCallS (spI X.K n G) (WE W) (tA X.K W fa) σ H Q := by
  obtain ⟨mu, s, L, m, l, p⟩ := hq
  refine ⟨mu, s, L, m, l, Post.step p fun ds s1 mu1 H1 vs g1 m1 r1 p1 => ?_⟩
  by_cases hn : ds.length = n
  · rw [if_pos hn] at p1
    refine ⟨mu1, s1, ds, m1, r1, hn, ?_⟩
    cases eg : G ds s1 with
    | ok d s2 =>
      rw [eg] at p1
      exact p1
    | ex C fs ds s2 =>
      rw [eg] at p1
      exact p1
    | bad =>
      rw [eg] at p1
      exact p1.elim
  · rw [if_neg hn] at p1
    exact p1.elim
theorem pE_call {x : Str} {p : Pos} {k n : Nat} {fA : Addr} {fd : FuncData} {ps : List Str} {G : List D → S → R D} (Fo : FnOk X.prog X.w X.K X.mg X.base (L2.CX X.prog X.w) k fA fd ps (spI X.K n G)) (hr : Room k X.A) (hm : X.mg x = some (.ref fA)) (hk : PySem.W.keepIn X.K (.ref fA) = true) (hb : Binds X.K fd ps []) (tk : Takes X W)
    (ha : PA X (e :: es) (tA X.K W fa)) (hg : Gl X x := by rfl) (hdb : (x == ("__debug__" : Str)) = false := by decide) (he : starEach (e :: es) X.env = (false, eval e X.env) :: starEach es X.env := by rfl) (hpl : (backTo pos (starEach es X.env)).any (·.1) = false := by rfl) :
    PE X (.Call (.Name x p) (e :: es) [] pos) (tE X.K W (fCall n G fa)) :=
  PE.weak (pe_callS Fo hr hg hm hk hb (fun σ => passAt tk σ) ha hdb he hpl) fun σ H Q q => weak_call σ H Q q
/-- a def from its body -/
def startD (N : Nat) (ds : List D) : Lc := ds.map some ++ List.replicate (N - ds.length) none
def RS.fin : RS → R D
  | .nx _ s' => .ok .non s'
  | .rt d s' => .ok d s'
  | .ex C fs vs _ s' => .ex C fs vs s'
  | _ => .bad
def runF (N : Nat) (body : FS) : List D → S → R D := fun ds s => (body (startD N ds) s).fin
theorem startD_lr {K : PySem.W.Frag} {mu : Mu} {H : Hp} {N : List Str} {ds : List D} {vs : List V} (r : RelDs K mu H ds vs) : LR K mu H (startD N.length ds) (L2.start N vs) where
  len := by
    unfold startD L2.start
    rw [List.length_append, List.length_append, List.length_map, List.length_map, List.length_replicate, List.length_replicate, r.length]
  at_ := fun i d e => by
    unfold startD at e
    rcases Nat.lt_or_ge i ds.length with hi | hi
    · rw [List.getElem?_append_left (by rw [List.length_map]; exact hi), List.getElem?_map, List.getElem?_eq_getElem hi] at e
      cases e
      obtain ⟨v, ev, rv⟩ := r.get (List.getElem?_eq_getElem hi)
      refine ⟨v, ?_, rv⟩
      unfold L2.start
      rw [List.getElem?_append_left (by rw [List.length_map, ← r.length]; exact hi), List.getElem?_map, ev]
      rfl
    · rw [List.getElem?_append_right (by rw [List.length_map]; exact hi), List.getElem?_replicate] at e
      split at e <;> cases e
theorem ok_fn {P : Program} {w : World} {K : PySem.W.Frag} {mg : Str → Option Value} {base : Heap} {x qual : Str} {st : Stmt} {f : Addr} {fd : FuncData} {N ps : List Str} {k : Nat} {fb : FS} (Fu : Fun K x qual st f fd) (Sc : FnScope N ps (defScope st))
    (hbody : ∀ (cdv : Value) (A : Around) (outer : List Env) (s : Shared) (H : Hp) (E : XK), Room k (A.deeper (envOfC qual (defScope st) s.heap.objs.size f cdv)) →
      Takes (cxOf (L2.CX P w) P w K mg base N qual (defScope st) f cdv A outer s H E) (fun cls d _ H => E cls d H) → PassesOwn (model P w) (A.deeper (envOfC qual (defScope st) s.heap.objs.size f cdv)) (cxOf (L2.CX P w) P w K mg base N qual (defScope st) f cdv A outer s H E).env (cxOf (L2.CX P w) P w K mg base N qual (defScope st) f cdv A outer s H E).xe →
      PSs (cxOf (L2.CX P w) P w K mg base N qual (defScope st) f cdv A outer s H E) (defBody st) (tS K (fun cls d _ H => E cls d H) fb)) :
    FnOk P w K mg base (L2.CX P w) (k + 1) f fd ps (spI K ps.length (runF N.length fb)) := by
  refine Fu.okX Sc (fun vs H Q E h => ?_) (fun cdv A outer s H vs Q E hr h => ?_)
  · obtain ⟨mu, s, ds, m, r, hl, _⟩ := h
    rw [← r.length, hl]
  · refine ⟨_, hbody cdv A outer s H E hr (takes_of rfl rfl rfl rfl) (passes_of rfl), ?_⟩
    obtain ⟨mu, s', ds, m, r, hl, p⟩ := h
    refine ⟨mu, s', startD N.length ds, m, startD_lr r, ?_⟩
    unfold runF at p
    cases eb : fb (startD N.length ds) s' with
    | nx L2 s2 =>
      rw [eb] at p
      exact fun mu4 σ4 H4 g4 m4 l4 => p mu4 H4 _ g4 m4 (rel_non.mpr rfl)
    | rt d s2 =>
      rw [eb] at p
      exact p
    | ex C fs ds L2 s2 =>
      rw [eb] at p
      exact fun mu4 σ4 H4 od g4 m4 l4 x4 => p mu4 H4 od g4 m4 x4
    | bk L2 s2 =>
      rw [eb] at p
      exact p.elim
    | ct L2 s2 =>
      rw [eb] at p
      exact p.elim
    | bad =>
      rw [eb] at p
      exact p.elim
end
end SI

namespace SI
open PySem PySem.Spec PyProof.Rows L2
section
variable {X : Cx} {W : WX} {a b c e : Expr} {f g h : F D} {t : F Bool} {fa : F (List D)} {es : List Expr} {pos : Pos} {st : Stmt} {sts : List Stmt} {u v : FS}
theorem PE.or {X : Cx} {e : Expr} {t t' : TE} (h : PE X e t) (h' : PE X e t') : PE X e (fun σ H Q => t σ H Q ∨ t' σ H Q) := ⟨fun pins s σ H Q I q => q.elim (h.run pins s σ H Q I) (h'.run pins s σ H Q I)⟩
theorem RelDs.atI {K : PySem.W.Frag} {mu : Mu} {H : Hp} {ds : List D} {vs : List V} {i : Int} {d : D} (r : RelDs K mu H ds vs) (h : L2.atI ds i = some d) : ∃ v, L2.atI vs i = some v ∧ RelD K mu H d v := by
  unfold L2.atI at h ⊢
  rw [← r.length]
  cases e : ixN ds.length i with
  | none =>
    rw [e] at h
    cases h
  | some j =>
    rw [e] at h
    exact r.get h
/-- list behind a value -/
def lstOf (s : S) : D → Option (List D)
  | .lst xs => some xs
  | .rdl xs => some xs
  | .ref n => match s[n]? with
    | some (.lst xs) => some xs
    | _ => none
  | _ => none
def seqOf (s : S) : D → Option (List D)
  | .lst xs => some xs
  | .rdl xs => some xs
  | .tup xs => some xs
  | .ref n => match s[n]? with
    | some (.lst xs) => some xs
    | _ => none
  | _ => none
theorem sq_lstOf {K : PySem.W.Frag} {mu : Mu} {s : S} {H : Hp} {d : D} {ds : List D} {v : V} (m : Sim K mu s H) (r : RelD K mu H d v) (h : lstOf s d = some ds) : ∃ a vs, v = .ref a ∧ SqL K H a vs ∧ RelDs K mu H ds vs := by
  cases d <;> simp only [lstOf] at h <;> try cases h
  · rename_i n
    cases en : s[n]? with
    | none =>
      rw [en] at h
      cases h
    | some o =>
      rw [en] at h
      cases o <;> try cases h
      obtain ⟨a, vs, ev, ea, eh, rs⟩ := sq_ref m r en
      exact ⟨a, vs, ev, .of eh, rs⟩
  · exact sq_lst r
  · exact sq_rdl r
theorem sq_seqOf {K : PySem.W.Frag} {mu : Mu} {s : S} {H : Hp} {d : D} {ds : List D} {v : V} (m : Sim K mu s H) (r : RelD K mu H d v) (h : seqOf s d = some ds) : ∃ a vs, v = .ref a ∧ (SqL K H a vs ∨ SqT K H a vs) ∧ RelDs K mu H ds vs := by
  cases d <;> simp only [seqOf] at h <;> try cases h
  · rename_i n
    cases en : s[n]? with
    | none =>
      rw [en] at h
      cases h
    | some o =>
      rw [en] at h
      cases o <;> try cases h
      obtain ⟨a, vs, ev, ea, eh, rs⟩ := sq_ref m r en
      exact ⟨a, vs, ev, .inl (.of eh), rs⟩
  · obtain ⟨a, vs, e1, e2, e3⟩ := sq_tup r
    exact ⟨a, vs, e1, .inr e2, e3⟩
  · obtain ⟨a, vs, e1, e2, e3⟩ := sq_lst r
    exact ⟨a, vs, e1, .inl e2, e3⟩
  · obtain ⟨a, vs, e1, e2, e3⟩ := sq_rdl r
    exact ⟨a, vs, e1, .inl e2, e3⟩
/-! ### subscripts -/
def dIx (s : S) (a b : D) : Option D := match b with
  | .int i => match a with
    | .str z => if z.length ≤ big then (L2.atI z.cps.toList i).map fun c => .str ⟨#[c]⟩ else none
    | a => (seqOf s a).bind fun xs => L2.atI xs i
  | _ => none
theorem opl_ix {K : PySem.W.Frag} : OpL K (rIx K) dIx := by
  intro mu s H a b d x y Q m ra rb e q
  unfold dIx at e
  cases b <;> try cases e
  rename_i i
  have ey := rel_int.mp rb
  cases a
  case str z =>
    dsimp only at e
    split at e
    · rename_i hz
      cases ec : L2.atI z.cps.toList i with
      | none =>
        rw [ec] at e
        cases e
      | some c =>
        rw [ec] at e
        cases e
        exact .inr (.inr ⟨z, i, c, rel_str.mp ra, ey, big_le hz, ec, q mu H _ (Ge.refl _ _) m (rel_str.mpr rfl)⟩)
    · cases e
  all_goals
    dsimp only at e
    cases es : seqOf s _ with
    | none =>
      rw [es] at e
      cases e
    | some xs =>
      rw [es] at e
      obtain ⟨p, vs, ev, sq, rs⟩ := sq_seqOf m ra es
      obtain ⟨v, e1, e2⟩ := rs.atI e
      rcases sq with sq | sq
      · exact .inl ⟨p, vs, i, v, ev, ey, sq, e1, q mu H v (Ge.refl _ _) m e2⟩
      · exact .inr (.inl ⟨p, vs, i, v, ev, ey, sq, e1, q mu H v (Ge.refl _ _) m e2⟩)
theorem pE_sub2 (ha : PE X a (tE X.K W f)) (hb : PE X b (tE X.K W g)) (hs : PlainIx b := by exact fun _ _ => rfl) : PE X (.Subscript a b pos) (tE X.K W (fOp dIx f g)) := pE_ix ix_seq opl_ix ha hb hs
/-! ### stores: o[i] = v -/
def PutL (K : PySem.W.Frag) (t : TSet) (o : S → D → D → D → Option S) : Prop :=
  ∀ (mu : Mu) (s s' : S) (H : Hp) (a b d : D) (x y z : V) (Q : Hp → Prop), Sim K mu s H → RelD K mu H a x → RelD K mu H b y → RelD K mu H d z → o s a b d = some s' →
    (∀ H', Ge mu H mu H' → Sim K mu s' H' → Q H') → t x y z H Q
def dPut (s : S) (a b d : D) : Option S := match a, b with
  | .ref n, .int i => match s[n]? with
    | some (.lst xs) => (ixN xs.length i).bind fun j => some (s.set n (.lst (xs.set j d)))
    | _ => none
  | _, _ => none
theorem putl_list {K : PySem.W.Frag} : PutL K rSetL dPut := by
  intro mu s s' H a b d x y z Q m ra rb rd e q
  unfold dPut at e
  split at e
  · rename_i n i
    split at e
    · rename_i xs hn
      obtain ⟨p, vs, ev, ea, eh, rs⟩ := sq_ref m ra hn
      cases ej : ixN xs.length i with
      | none =>
        rw [ej] at e
        cases e
      | some j =>
        rw [ej] at e
        cases e
        refine ⟨p, vs, i, j, ev, rel_int.mp rb, eh, by rw [← rs.length]; exact ej, ?_⟩
        exact q _ (Ge.put ea) (m.put ea ⟨_, upd_same, (rs.set rd j).mono (Ge.put ea)⟩)
    · cases e
  · cases e
def sPut (o : S → D → D → D → Option S) (fe fo fi : F D) : FS := fun L s => (fe L s).bindS L fun d s1 => (fo L s1).bindS L fun a s2 => (fi L s2).bindS L fun b s3 => match o s3 a b d with
  | some s' => .nx L s'
  | none => .bad
theorem pS_put {t : TSet} {o : S → D → D → D → Option S} {eo ei : Expr} {fo fi : F D} {p1 : Pos} (hl : PutL X.K t o) (hx : PS X (.Assign [.Subscript eo ei p1] e pos) (tAsg (tE X.K W f) (gSub (tE X.K W fo) (tE X.K W fi) t))) : PS X (.Assign [.Subscript eo ei p1] e pos) (tS X.K W (sPut o f fo fi)) := by
  refine PS.weak hx fun D σ H ⟨mu, s, L, m, l, p⟩ => ⟨mu, s, L, m, l, ?_⟩
  refine Post.stepS l p fun d s1 mu1 H1 v1 g1 m1 r1 p1 => ?_
  refine ⟨mu1, s1, L, m1, l.mono g1, Post.stepS (l.mono g1) p1 fun a s2 mu2 H2 v2 g2 m2 r2 p2 => ?_⟩
  refine ⟨mu2, s2, L, m2, (l.mono g1).mono g2, Post.stepS ((l.mono g1).mono g2) p2 fun b s3 mu3 H3 v3 g3 m3 r3 p3 => ?_⟩
  cases eo : o s3 a b d with
  | none =>
    rw [eo] at p3
    exact p3.elim
  | some s' =>
    rw [eo] at p3
    exact hl mu3 s3 s' H3 a b d v2 v3 v1 _ m3 (r2.mono g3) r3 ((r1.mono g2).mono g3) eo fun H' g' m' => p3 mu3 σ H' g' m' ((((l.mono g1).mono g2).mono g3).mono g')
theorem pS_putL {eo ei : Expr} {fo fi : F D} {p1 : Pos} (he : PE X e (tE X.K W f)) (ho : PE X eo (tE X.K W fo)) (hi : PE X ei (tE X.K W fi))
    (hx : PS X (.Assign [.Subscript eo ei p1] e pos) (tAsg (tE X.K W f) (gSub (tE X.K W fo) (tE X.K W fi) rSetL)) := by exact ps_asg (by assumption) (pg_sub (by assumption) (by assumption) set_list)) : PS X (.Assign [.Subscript eo ei p1] e pos) (tS X.K W (sPut dPut f fo fi)) := pS_put putl_list hx
/-! ### x op= e -/
def sAug (o : S → D → D → Option D) (i : Nat) (f : F D) : FS := fun L s => match L[i]? with
  | some (some d0) => (f L s).bindS L fun d1 s1 => match o s1 d0 d1 with
    | some d => .nx (L.set i (some d)) s1
    | none => .bad
  | _ => .bad
theorem pS_aug {i : Nat} {x : Str} {op : Operator} {r : TIp} {o : S → D → D → Option D} {pos' : Pos} (hN : X.N.Nodup) (ho : PIp X op r) (hl : OpL X.K r o) (he : PE X e (tE X.K W f)) (hi : X.N[i]? = some x := by rfl) (hx : Loc X.env.scope x := by first | exact Or.inl rfl | exact Or.inr rfl)
    (hf : X.fn x = true ∨ X.env.scope.names.lookup x = some .local := by first | exact .inl rfl | exact .inr rfl | assumption) : PS X (.AugAssign (.Name x pos') op e pos) (tS X.K W (sAug o i f)) := by
  refine PS.weak (ps_aug hN hi hx he ho hf) fun D σ H ⟨mu, s, L, m, l, p⟩ => ?_
  unfold sAug at p
  cases ei : L[i]? with
  | none =>
    rw [ei] at p
    exact p.elim
  | some od =>
    cases od with
    | none =>
      rw [ei] at p
      exact p.elim
    | some d0 =>
      rw [ei] at p
      obtain ⟨v, e1, r1⟩ := l.at_ i d0 ei
      refine ⟨v, e1, mu, s, L, m, l, Post.stepS l p fun d1 s1 mu1 H1 v1 g1 m1 r1' p1 => ?_⟩
      cases eo : o s1 d0 d1 with
      | none =>
        rw [eo] at p1
        exact p1.elim
      | some d =>
        rw [eo] at p1
        exact hl mu1 s1 H1 d0 d1 d v v1 _ m1 (r1.mono g1) r1' eo fun mu' H' v' g' m' r' => p1 mu' _ H' g' m' (((l.mono g1).mono g').set i r')
theorem opl_ip {K : PySem.W.Frag} {gi : Int → Int → Int} : OpL K (ipI gi) (dI2 yes2 fun i j => .int (gi i j)) := by
  intro mu s H a b d x y Q m ra rb e q
  cases a <;> simp only [dI2] at e <;> try cases e
  cases b <;> simp only [dI2] at e <;> try cases e
  rename_i i j
  exact ⟨i, j, rel_int.mp ra, rel_int.mp rb, q mu H _ (Ge.refl _ _) m (rel_int.mpr rfl)⟩
theorem pS_augI {i : Nat} {x : Str} {pos' : Pos} (hN : X.N.Nodup) (he : PE X e (tE X.K W f)) (hi : X.N[i]? = some x := by rfl) (hx : Loc X.env.scope x := by first | exact Or.inl rfl | exact Or.inr rfl)
    (hf : X.fn x = true ∨ X.env.scope.names.lookup x = some .local := by first | exact .inl rfl | exact .inr rfl | assumption) : PS X (.AugAssign (.Name x pos') .Add e pos) (tS X.K W (sAug dAddI i f)) := pS_aug hN ip_add opl_ip he hi hx hf
theorem pS_subI {i : Nat} {x : Str} {pos' : Pos} (hN : X.N.Nodup) (he : PE X e (tE X.K W f)) (hi : X.N[i]? = some x := by rfl) (hx : Loc X.env.scope x := by first | exact Or.inl rfl | exact Or.inr rfl)
    (hf : X.fn x = true ∨ X.env.scope.names.lookup x = some .local := by first | exact .inl rfl | exact .inr rfl | assumption) : PS X (.AugAssign (.Name x pos') .Sub e pos) (tS X.K W (sAug dSub i f)) := pS_aug hN ip_sub opl_ip he hi hx hf
/-! xs[i] op= e -/
theorem pget_list : PGet X (rIxL X.K) := by
  intro pins s σ H o i ov iv Q I ro ri hh
  obtain ⟨p, xs, k, z, rfl, rfl, hq, he, q⟩ := hh
  cases ro
  obtain ⟨t, rfl⟩ := ri
  obtain ⟨its, r, pl, hz⟩ := I.list hq
  obtain ⟨j, h1, h2, h3, h4, h5⟩ := atI_get he
  obtain ⟨w, ew, rw'⟩ := r.get h2
  have hl := r.length
  have hn := line63
  have done : EP X pins σ Q w s := ⟨z, H, I, rw', q⟩
  rcases Int.lt_or_le k 0 with h0 | h0
  · have hj : (k + (its.toArray.size : Int)).toNat = j := by
      rw [seqIndex_neg h0 h4] at h1
      rw [List.size_toArray, ← hl]
      exact Option.some.inj h1
    exact wpAny_getItem_list_neg pl.isList h0 (by rw [List.size_toArray] <;> omega) (by omega) (by rw [hj]; simpa using ew) done
  · have hj : k.toNat = j := by
      rw [seqIndex_of h0 h5] at h1
      exact Option.some.inj h1
    exact wpAny_getItem_list pl.isList h0 (by omega) (by rw [hj]; simpa using ew) done
def dIxL (s : S) (a b : D) : Option D := match b with
  | .int i => (lstOf s a).bind fun xs => L2.atI xs i
  | _ => none
theorem opl_ixL {K : PySem.W.Frag} : OpL K (rIxL K) dIxL := by
  intro mu s H a b d x y Q m ra rb e q
  unfold dIxL at e
  cases b <;> try cases e
  rename_i i
  dsimp only at e
  cases es : lstOf s a with
  | none =>
    rw [es] at e
    cases e
  | some xs =>
    rw [es] at e
    obtain ⟨p, vs, ev, sq, rs⟩ := sq_lstOf m ra es
    obtain ⟨v, e1, e2⟩ := rs.atI e
    exact ⟨p, vs, i, v, ev, rel_int.mp rb, sq, e1, q mu H v (Ge.refl _ _) m e2⟩
def sAugS (get op : S → D → D → Option D) (put : S → D → D → D → Option S) (fo fi fe : F D) : FS := fun L s => (fo L s).bindS L fun a s1 => (fi L s1).bindS L fun b s2 => match get s2 a b with
  | some d0 => (fe L s2).bindS L fun d1 s3 => match op s3 d0 d1 with
    | some d => match put s3 a b d with
      | some s' => .nx L s'
      | none => .bad
    | none => .bad
  | none => .bad
theorem pS_augS {eo ei : Expr} {fo fi : F D} {p1 : Pos} {op : Operator} {tg : V → V → Hp → VK → Prop} {ti : TIp} {ts : TSet} {get o : S → D → D → Option D} {put : S → D → D → D → Option S} (hg : OpL X.K tg get) (ho : OpL X.K ti o) (hp : PutL X.K ts put)
    (hx : PS X (.AugAssign (.Subscript eo ei p1) op e pos) (tAugS (tE X.K W fo) (tE X.K W fi) (tE X.K W f) tg ti ts)) : PS X (.AugAssign (.Subscript eo ei p1) op e pos) (tS X.K W (sAugS get o put fo fi f)) := by
  refine PS.weak hx fun D σ H ⟨mu, s, L, m, l, p⟩ => ⟨mu, s, L, m, l, ?_⟩
  refine Post.stepS l p fun a s1 mu1 H1 v1 g1 m1 r1 p1 => ?_
  refine ⟨mu1, s1, L, m1, l.mono g1, Post.stepS (l.mono g1) p1 fun b s2 mu2 H2 v2 g2 m2 r2 p2 => ?_⟩
  have r1' := r1.mono g2
  have l2 := (l.mono g1).mono g2
  cases eg : get s2 a b with
  | none =>
    rw [eg] at p2
    exact p2.elim
  | some d0 =>
    rw [eg] at p2
    refine hg mu2 s2 H2 a b d0 v1 v2 _ m2 r1' r2 eg fun mu3 H3 v3 g3 m3 r3 => ?_
    refine ⟨mu3, s2, L, m3, l2.mono g3, Post.stepS (l2.mono g3) (PostS.ge g3 p2) fun d1 s4 mu4 H4 v4 g4 m4 r4 p4 => ?_⟩
    cases eo : o s4 d0 d1 with
    | none =>
      rw [eo] at p4
      exact p4.elim
    | some d =>
      rw [eo] at p4
      refine ho mu4 s4 H4 d0 d1 d v3 v4 _ m4 (r3.mono g4) r4 eo fun mu5 H5 v5 g5 m5 r5 => ?_
      dsimp only at p4
      cases ep : put s4 a b d with
      | none =>
        rw [ep] at p4
        exact p4.elim
      | some s' =>
        rw [ep] at p4
        exact hp mu5 s4 s' H5 a b d v1 v2 v5 _ m5 (((r1'.mono g3).mono g4).mono g5) (((r2.mono g3).mono g4).mono g5) r5 ep fun H6 g6 m6 => p4 mu5 σ H6 (g5.trans g6) m6 ((((l2.mono g3).mono g4).mono g5).mono g6)
theorem pS_augSL {eo ei : Expr} {fo fi : F D} {p1 : Pos} (ho : PE X eo (tE X.K W fo)) (hi : PE X ei (tE X.K W fi)) (he : PE X e (tE X.K W f)) (ha : ∀ ov iv new, augStore ei ov iv new = (do holding [new, ov, iv] (setItem ov iv new); release [new, ov, iv] []; pure .next) := by intros; rfl) :
    PS X (.AugAssign (.Subscript eo ei p1) .Add e pos) (tS X.K W (sAugS dIxL dAddI dPut fo fi f)) := pS_augS opl_ixL opl_ip putl_list (ps_augS ho hi pget_list he ip_add set_list ha)
theorem pS_subSL {eo ei : Expr} {fo fi : F D} {p1 : Pos} (ho : PE X eo (tE X.K W fo)) (hi : PE X ei (tE X.K W fi)) (he : PE X e (tE X.K W f)) (ha : ∀ ov iv new, augStore ei ov iv new = (do holding [new, ov, iv] (setItem ov iv new); release [new, ov, iv] []; pure .next) := by intros; rfl) :
    PS X (.AugAssign (.Subscript eo ei p1) .Sub e pos) (tS X.K W (sAugS dIxL dSub dPut fo fi f)) := pS_augS opl_ixL opl_ip putl_list (ps_augS ho hi pget_list he ip_sub set_list ha)
/-! ### built-ins -/
theorem rel1 {K : PySem.W.Frag} {mu : Mu} {H : Hp} {d : D} {vs : List V} (r : RelDs K mu H [d] vs) : ∃ v, vs = [v] ∧ RelD K mu H d v := by
  simp only [RelDs] at r
  obtain ⟨v, r', rfl, h1, rfl⟩ := r
  exact ⟨v, rfl, h1⟩
theorem rel2 {K : PySem.W.Frag} {mu : Mu} {H : Hp} {d d2 : D} {vs : List V} (r : RelDs K mu H [d, d2] vs) : ∃ v v2, vs = [v, v2] ∧ RelD K mu H d v ∧ RelD K mu H d2 v2 := by
  simp only [RelDs] at r
  obtain ⟨v, r', rfl, h1, v2, r'', rfl, h2, rfl⟩ := r
  exact ⟨v, v2, rfl, h1, h2⟩
def bInt (_ : S) : List D → Option D
  | [.int i] => some (.int i)
  | [.bl k] => some (.int (if k = true then 1 else 0))
  | _ => none
theorem cbl_int {K : PySem.W.Frag} : CbL K (fun xs H Q => (∃ i, xs = [.int i] ∧ Q (.int i) H) ∨ ∃ k : Bool, xs = [.bl k] ∧ Q (.int (if k then 1 else 0)) H) bInt := by
  intro mu s H ds d vs Q m r e q
  rcases ds with _ | ⟨d1, _ | ⟨d2, ds⟩⟩
  · cases e
  · obtain ⟨v, rfl, r1⟩ := rel1 r
    cases d1 <;> simp only [bInt] at e <;> cases e
    · exact .inr ⟨_, by rw [rel_bl.mp r1], q mu H _ (Ge.refl _ _) m (rel_int.mpr rfl)⟩
    · exact .inl ⟨_, by rw [rel_int.mp r1], q mu H _ (Ge.refl _ _) m (rel_int.mpr rfl)⟩
  · cases d1 <;> cases e
theorem pE_int1 {p : Pos} (hm : X.mg "int" = none) (ha : PA X [e] (tA X.K W fa)) (hg : Gl X "int" := by rfl) (he : starEach [e] X.env = (false, eval e X.env) :: starEach [] X.env := by rfl) : PE X (.Call (.Name "int" p) [e] [] pos) (tE X.K W (fCB bInt fa)) :=
  pE_cty call_int1 cbl_int hm (by decide +kernel) ha hg (by decide) (by decide) he rfl
def bLen (s : S) : List D → Option D
  | [.str z] => if z.length ≤ big then some (.int z.length) else none
  | [d] => (seqOf s d).map fun xs => .int xs.length
  | _ => none
theorem cbl_len {K : PySem.W.Frag} : CbL K (fun xs H Q => (∃ p ys, xs = [.ref p] ∧ (SqL K H p ys ∨ SqT K H p ys) ∧ Q (.int ys.length) H) ∨ ∃ z, xs = [.str z] ∧ z.length ≤ sizeLine ∧ Q (.int z.length) H) bLen := by
  intro mu s H ds d vs Q m r e q
  rcases ds with _ | ⟨d1, _ | ⟨d2, ds⟩⟩
  · cases e
  · obtain ⟨v, rfl, r1⟩ := rel1 r
    unfold bLen at e
    split at e
    · rename_i z heq
      cases heq
      split at e
      · rename_i hz
        cases e
        exact .inr ⟨z, by rw [rel_str.mp r1], big_le hz, q mu H _ (Ge.refl _ _) m (rel_int.mpr rfl)⟩
      · cases e
    · rename_i heq
      cases heq
      cases es : seqOf s d1 with
      | none =>
        rw [es] at e
        cases e
      | some xs =>
        rw [es] at e
        cases e
        obtain ⟨p, ys, ev, sq, rs⟩ := sq_seqOf m r1 es
        refine .inl ⟨p, ys, by rw [ev], sq, ?_⟩
        rw [← rs.length]
        exact q mu H _ (Ge.refl _ _) m (rel_int.mpr rfl)
    · cases e
  · unfold bLen at e
    split at e <;> first | (rename_i heq; cases heq) | cases e
theorem pE_len {p : Pos} (hm : X.mg "len" = none) (ha : PA X [e] (tA X.K W fa)) (hg : Gl X "len" := by rfl) (he : starEach [e] X.env = (false, eval e X.env) :: starEach [] X.env := by rfl) : PE X (.Call (.Name "len" p) [e] [] pos) (tE X.K W (fCB bLen fa)) :=
  pE_cb (call_len_seq.or call_len_str) cbl_len hm PySem.boot_len ha hg (by decide) (by decide) he rfl
/-! ### slices -/
def fNo : F (Option Int) := fun _ s => .ok none s
def fPt (f : F D) : F (Option Int) := fun L s => (f L s).bind fun d s1 => match d with
  | .int i => .ok (some i) s1
  | _ => .bad
def tO (K : PySem.W.Frag) (W : WX) (f : F (Option Int)) : TO := fun σ H Q => ∃ mu s L, Sim K mu s H ∧ LR K mu H L σ ∧ Post K W (fun _ _ (a b : Option Int) => a = b) σ mu H Q (f L s)
theorem PO.weak {X : Cx} {e : Option Expr} {t t' : TO} (h : PO X e t) (w : ∀ σ H Q, t' σ H Q → t σ H Q) : PO X e t' := ⟨fun pins s σ H Q I q => h.run pins s σ H Q I (w _ _ _ q)⟩
theorem pO_none : PO X none (tO X.K W fNo) := PO.weak po_none fun σ H Q ⟨mu, s, L, m, l, p⟩ => p mu H _ (Ge.refl _ _) m rfl
theorem pO_some (hh : PE X e (tE X.K W f)) : PO X (some e) (tO X.K W (fPt f)) := by
  refine PO.weak (po_some hh) fun σ H Q ⟨mu, s, L, m, l, p⟩ => ⟨mu, s, L, m, l, Post.step p fun d s1 mu1 H1 v1 g1 m1 r1 p1 => ?_⟩
  cases d <;> try exact p1.elim
  exact ⟨_, rel_int.mp r1, p1 mu1 H1 _ (Ge.refl _ _) m1 rfl⟩
def cutD (xs : List D) (lo hi : Option Int) : List D := (xs.drop (HT.sIx xs.length 0 lo)).take (HT.sIx xs.length xs.length hi - HT.sIx xs.length 0 lo)
theorem cut_rel {K : PySem.W.Frag} {mu : Mu} {H : Hp} {ds : List D} {vs : List V} (r : RelDs K mu H ds vs) (lo hi : Option Int) : RelDs K mu H (cutD ds lo hi) (cutV vs lo hi) := by
  unfold cutD cutV
  rw [r.length]
  exact (r.drop _).take _
/-- a slice: of a tuple a tuple, of a list a list that is never changed -/
def dSl (s : S) (d : D) (lo hi : Option Int) : Option D := match d with
  | .tup xs => some (.tup (cutD xs lo hi))
  | d => (lstOf s d).map fun xs => .lst (cutD xs lo hi)
def fSl (f : F D) (l h : F (Option Int)) : F D := fun L s => (f L s).bind fun d s1 => (l L s1).bind fun lo s2 => (h L s2).bind fun hi s3 => match dSl s3 d lo hi with
  | some r => .ok r s3
  | none => .bad
end
end SI

namespace SI
open PySem PySem.Spec PyProof.Rows L2
section
variable {X : Cx} {W : WX} {a b c e : Expr} {f g h : F D} {t : F Bool} {fa : F (List D)} {es : List Expr} {pos : Pos} {st : Stmt} {sts : List Stmt} {u v : FS}
/-! ### slices, tuples -/
theorem weak_sl {lo hi : Option Expr} {fl fh : F (Option Int)} {p2 : Pos} (he : PE X e (tE X.K W f)) (hl : PO X lo (tO X.K W fl)) (hh : PO X hi (tO X.K W fh)) : PE X (.Subscript e (.Slice lo hi none p2) pos) (tE X.K W (fSl f fl fh)) := by
  refine PE.weak (pe_slice (SlR.or sl_list sl_tupA) he hl hh) fun σ H Q ⟨mu, s, L, m, l, p⟩ => ⟨mu, s, L, m, l, Post.step p fun d s1 mu1 H1 v1 g1 m1 r1 p1 => ?_⟩
  refine ⟨mu1, s1, L, m1, l.mono g1, Post.step p1 fun o2 s2 mu2 H2 v2 g2 m2 r2 p2 => ?_⟩
  subst r2
  refine ⟨mu2, s2, L, m2, (l.mono g1).mono g2, Post.step p2 fun o3 s3 mu3 H3 v3 g3 m3 r3 p3 => ?_⟩
  subst r3
  have rd := (r1.mono g2).mono g3
  unfold dSl at p3
  split at p3
  · rename_i r heq
    split at heq
    · rename_i xs
      cases heq
      obtain ⟨a, vs, ev, sq, rs⟩ := sq_tup rd
      refine .inr ⟨a, vs, ev, sq, fun hw => ?_, fun hw q hq => ?_⟩
      · refine p3 mu3 H3 _ (Ge.refl _ _) m3 ?_
        have e1 : cutD xs o2 o3 = xs := by
          unfold cutD
          rw [rs.length, hw.1, hw.2, List.drop_zero, Nat.sub_zero, ← rs.length]
          exact List.take_length
        rw [e1, ← ev]
        exact rd
      · exact p3 mu3 _ _ (Ge.pure m3 hq) (m3.pure hq) (rel_tup m3 hq (cut_rel rs o2 o3))
    · rename_i hnt
      cases el : lstOf s3 d with
      | none =>
        rw [el] at heq
        cases heq
      | some xs =>
        rw [el] at heq
        cases heq
        obtain ⟨a, vs, ev, sq, rs⟩ := sq_lstOf m3 rd el
        exact .inl ⟨a, vs, ev, sq, fun q hq => p3 mu3 _ _ (Ge.pure m3 hq) (m3.pure hq) (rel_lst m3 hq (cut_rel rs o2 o3))⟩
  · exact p3.elim
/-! ### data that == tells apart -/
mutual
def toPy (s : S) : D → Option PyData
  | .non => some .none
  | .bl b => some (.bool b)
  | .int i => some (.int i)
  | .str x => some (.str x)
  | .tup xs => (toPys s xs).map .tuple
  | .lst xs => (toPys s xs).map .list
  | _ => none
def toPys (s : S) : List D → Option (List PyData)
  | [] => some []
  | x :: xs => match toPy s x, toPys s xs with
    | some y, some ys => some (y :: ys)
    | _, _ => none
end
/-- .. with the tracked lists of flat items -/
def toPyT (s : S) : D → Option PyData
  | .ref n => match s[n]? with
    | some (.lst xs) => (toPys s xs).map .list
    | _ => none
  | d => toPy s d
mutual
theorem dp_of {K : PySem.W.Frag} {mu : Mu} {s : S} {H : Hp} : ∀ (d : D) (v : V) (y : PyData), RelD K mu H d v → toPy s d = some y → Dp K H v y
  | .non, v, y, r, e => by
    simp only [toPy] at e
    cases e
    rw [rel_non.mp r]
    exact .non
  | .bl b, v, y, r, e => by
    simp only [toPy] at e
    cases e
    rw [rel_bl.mp r]
    exact .bl _
  | .int b, v, y, r, e => by
    simp only [toPy] at e
    cases e
    rw [rel_int.mp r]
    exact .int _
  | .str b, v, y, r, e => by
    simp only [toPy] at e
    cases e
    rw [rel_str.mp r]
    exact .str _
  | .tup xs, v, y, r, e => by
    simp only [toPy] at e
    cases e1 : toPys s xs with
    | none =>
      rw [e1] at e
      cases e
    | some ys =>
      rw [e1] at e
      cases e
      obtain ⟨a, vs, ev, sq, rs⟩ := sq_tup r
      rw [ev]
      exact .tup sq (dps_of xs vs ys rs e1)
  | .lst xs, v, y, r, e => by
    simp only [toPy] at e
    cases e1 : toPys s xs with
    | none =>
      rw [e1] at e
      cases e
    | some ys =>
      rw [e1] at e
      cases e
      obtain ⟨a, vs, ev, sq, rs⟩ := sq_lst r
      rw [ev]
      exact .lst sq (dps_of xs vs ys rs e1)
  | .ty _, _, _, _, e => by simp only [toPy] at e; cases e
  | .rdl _, _, _, _, e => by simp only [toPy] at e; cases e
  | .gl _, _, _, _, e => by simp only [toPy] at e; cases e
  | .ref _, _, _, _, e => by simp only [toPy] at e; cases e
  | .dk _ _, _, _, _, e => by simp only [toPy] at e; cases e
  | .dt _ _, _, _, _, e => by simp only [toPy] at e; cases e
  | .ins _ _ _, _, _, _, e => by simp only [toPy] at e; cases e
theorem dps_of {K : PySem.W.Frag} {mu : Mu} {s : S} {H : Hp} : ∀ (ds : List D) (vs : List V) (ys : List PyData), RelDs K mu H ds vs → toPys s ds = some ys → DpAll K H vs ys
  | [], vs, ys, r, e => by
    simp only [toPys] at e
    cases e
    simp only [RelDs] at r
    subst r
    exact .nil
  | d :: ds, vs, ys, r, e => by
    simp only [toPys] at e
    simp only [RelDs] at r
    obtain ⟨v, vr, rfl, r1, r2⟩ := r
    cases e1 : toPy s d with
    | none =>
      rw [e1] at e
      cases e
    | some y =>
      cases e2 : toPys s ds with
      | none =>
        rw [e1, e2] at e
        cases e
      | some yr =>
        rw [e1, e2] at e
        cases e
        exact .cons (dp_of d v y r1 e1) (dps_of ds vr yr r2 e2)
end
theorem dp_ofT {K : PySem.W.Frag} {mu : Mu} {s : S} {H : Hp} {d : D} {v : V} {y : PyData} (m : Sim K mu s H) (r : RelD K mu H d v) (e : toPyT s d = some y) : Dp K H v y := by
  unfold toPyT at e
  split at e
  · rename_i n
    split at e
    · rename_i xs hn
      cases e1 : toPys s xs with
      | none =>
        rw [e1] at e
        cases e
      | some ys =>
        rw [e1] at e
        cases e
        obtain ⟨a, vs, ev, ea, eh, rs⟩ := sq_ref m r hn
        rw [ev]
        exact .lst (.of eh) (dps_of xs vs ys rs e1)
    · cases e
  · exact dp_of d v y r e
def dEqD (neg : Bool) (s : S) (a b : D) : Option D := match toPyT s a, toPyT s b with
  | some x, some y => if SeqAt.shaped x = true ∧ SeqAt.shaped y = true then some (.bl (if neg = true then !PyData.eqv x y else PyData.eqv x y)) else none
  | _, _ => none
theorem opl_eqD {K : PySem.W.Frag} : OpL K (rEqD K) (dEqD false) := by
  intro mu s H a b d x y Q m ra rb e q
  unfold dEqD at e
  split at e
  · rename_i p1 p2 h1 h2
    split at e
    · rename_i hs
      cases e
      exact ⟨p1, p2, dp_ofT m ra h1, dp_ofT m rb h2, hs.1, hs.2, q mu H _ (Ge.refl _ _) m (rel_bl.mpr rfl)⟩
    · cases e
  · cases e
theorem opl_neD {K : PySem.W.Frag} : OpL K (rNeD K) (dEqD true) := by
  intro mu s H a b d x y Q m ra rb e q
  unfold dEqD at e
  split at e
  · rename_i p1 p2 h1 h2
    split at e
    · rename_i hs
      cases e
      exact ⟨p1, p2, dp_ofT m ra h1, dp_ofT m rb h2, hs.1, hs.2, q mu H _ (Ge.refl _ _) m (rel_bl.mpr rfl)⟩
    · cases e
  · cases e
theorem pE_eq {k : Nat} (hr : Room k X.A) (ha : PE X a (tE X.K W f)) (hb : PE X b (tE X.K W g)) : PE X (.Compare a [.Eq] [b] pos) (tE X.K W (fOp (dEqD false) f g)) := pE_cmp (op_eqD hr.units) opl_eqD ha hb
theorem pE_ne {k : Nat} (hr : Room k X.A) (ha : PE X a (tE X.K W f)) (hb : PE X b (tE X.K W g)) : PE X (.Compare a [.NotEq] [b] pos) (tE X.K W (fOp (dEqD true) f g)) := pE_cmp (op_neD hr.units) opl_neD ha hb
/-! is -/
def dIs (neg : Bool) (_ : S) (a b : D) : Option D := match b with
  | .non => some (.bl (if neg = true then !decide (a = .non) else decide (a = .non)))
  | .bl k => match a with
    | .bl j => some (.bl (if neg = true then !decide (j = k) else decide (j = k)))
    | _ => none
  | _ => none
theorem rel_non_iff {K : PySem.W.Frag} {mu : Mu} {H : Hp} {d : D} {v : V} (r : RelD K mu H d v) : decide (v = .non) = decide (d = .non) := by
  cases d <;> simp only [RelD] at r
  case non => subst r; rfl
  case bl => subst r; rfl
  case int => subst r; rfl
  case str => subst r; rfl
  case ty => subst r; rfl
  case gl => subst r; rfl
  case exc => obtain ⟨rfl, _⟩ := r; rfl
  all_goals (obtain ⟨a, r⟩ := r; first | (obtain ⟨_, rfl⟩ := r; rfl) | (obtain ⟨_, rfl, _⟩ := r; rfl) | (obtain ⟨_, _, rfl, _⟩ := r; rfl))
theorem opl_is {K : PySem.W.Frag} : OpL K (fun x y H Q => (y = .non ∧ Q (.bl (decide (x = .non))) H) ∨ ∃ a b, x = .bl a ∧ y = .bl b ∧ Q (.bl (decide (a = b))) H) (dIs false) := by
  intro mu s H a b d x y Q m ra rb e q
  cases b <;> simp only [dIs] at e <;> try cases e
  · refine .inl ⟨rel_non.mp rb, ?_⟩
    rw [rel_non_iff ra]
    exact q mu H _ (Ge.refl _ _) m (rel_bl.mpr (by simp))
  · cases a <;> try cases e
    exact .inr ⟨_, _, rel_bl.mp ra, rel_bl.mp rb, q mu H _ (Ge.refl _ _) m (rel_bl.mpr (by simp))⟩
theorem opl_isnot {K : PySem.W.Frag} : OpL K (fun x y H Q => (y = .non ∧ Q (.bl (!decide (x = .non))) H) ∨ ∃ a b, x = .bl a ∧ y = .bl b ∧ Q (.bl (!decide (a = b))) H) (dIs true) := by
  intro mu s H a b d x y Q m ra rb e q
  cases b <;> simp only [dIs] at e <;> try cases e
  · refine .inl ⟨rel_non.mp rb, ?_⟩
    rw [rel_non_iff ra]
    exact q mu H _ (Ge.refl _ _) m (rel_bl.mpr (by simp))
  · cases a <;> try cases e
    exact .inr ⟨_, _, rel_bl.mp ra, rel_bl.mp rb, q mu H _ (Ge.refl _ _) m (rel_bl.mpr (by simp))⟩
theorem pE_is (ha : PE X a (tE X.K W f)) (hb : PE X b (tE X.K W g)) : PE X (.Compare a [.Is] [b] pos) (tE X.K W (fOp (dIs false) f g)) := pE_cmp (op_isN.or op_is_bl) opl_is ha hb
theorem pE_isnot (ha : PE X a (tE X.K W f)) (hb : PE X b (tE X.K W g)) : PE X (.Compare a [.IsNot] [b] pos) (tE X.K W (fOp (dIs true) f g)) := pE_cmp (op_notN.or op_isnot_bl) opl_isnot ha hb
/-! ### instances -/
theorem zip_look {K : PySem.W.Frag} {mu : Mu} {H : Hp} {n : Str} : ∀ {fs : List Str} {ds : List D} {vs : List V} {d : D}, RelDs K mu H ds vs → (fs.zip ds).lookup n = some d → ∃ v, (fs.zip vs).lookup n = some v ∧ RelD K mu H d v
  | [], ds, vs, d, r, e => by simp at e
  | x :: fs, [], vs, d, r, e => by simp at e
  | x :: fs, y :: ds, vs, d, r, e => by
    simp only [RelDs] at r
    obtain ⟨v, vr, rfl, r1, r2⟩ := r
    simp only [List.zip_cons_cons, List.lookup_cons] at e ⊢
    cases hb : n == x with
    | true =>
      rw [hb] at e
      cases e
      exact ⟨v, rfl, r1⟩
    | false =>
      rw [hb] at e
      exact zip_look r2 e
def insOf (s : S) : D → Option (Addr × List Str × List D)
  | .ins C fs vs => some (C, fs, vs)
  | .ref n => match s[n]? with
    | some (.ins C fs vs) => some (C, fs, vs)
    | _ => none
  | _ => none
theorem ins_of {K : PySem.W.Frag} {mu : Mu} {s : S} {H : Hp} {d : D} {v : V} {C : Addr} {fs : List Str} {ds : List D} (m : Sim K mu s H) (r : RelD K mu H d v) (e : insOf s d = some (C, fs, ds)) :
    ∃ a dx vs, v = .ref a ∧ H a = some (.ins C dx (fs.zip vs)) ∧ fs.length = vs.length ∧ RelDs K mu H ds vs := by
  cases d <;> simp only [insOf] at e <;> try cases e
  · rename_i n
    cases en : s[n]? with
    | none =>
      rw [en] at e
      cases e
    | some o =>
      rw [en] at e
      cases o <;> cases e
      simp only [RelD] at r
      obtain ⟨a, ea, ev⟩ := r
      rcases m.obj n _ en with z | ⟨b, eb, r⟩
      · cases z
      · rw [ea] at eb
        cases eb
        obtain ⟨dx, vs, h1, h2, h3⟩ := r
        exact ⟨a, dx, vs, ev, h1, h2, h3⟩
  · simp only [RelD] at r
    obtain ⟨a, dx, vs, h1, h2, _, h3, h4⟩ := r
    exact ⟨a, dx, vs, h1, h2, h3, h4⟩
/-- o.n, o an instance of one of these classes -/
def fFld (cs : List Addr) (n : Str) (f : F D) : F D := fun L s => (f L s).bind fun d s1 => match insOf s1 d with
  | some (C, fs, vs) => if C ∈ cs then (match (fs.zip vs).lookup n with
    | some r => .ok r s1
    | none => .bad) else .bad
  | none => .bad
theorem pE_fld {cs : List Addr} {n : Str} (hC : ∀ C ∈ cs, Cls X.K C ∧ NoAttr X.K C n) (he : PE X e (tE X.K W f)) (hb : attributeBase e n X.env (eval e X.env) = eval e X.env := by rfl) : PE X (.Attribute e n pos) (tE X.K W (fFld cs n f)) := by
  refine PE.weak (pe_fld he hb) fun σ H Q ⟨mu, s, L, m, l, p⟩ => ⟨mu, s, L, m, l, Post.step p fun d s1 mu1 H1 v1 g1 m1 r1 p1 => ?_⟩
  cases ei : insOf s1 d with
  | none =>
    rw [ei] at p1
    exact p1.elim
  | some z =>
    obtain ⟨C, fs, ds⟩ := z
    rw [ei] at p1
    dsimp only at p1
    split at p1
    · rename_i hc
      cases el : (fs.zip ds).lookup n with
      | none =>
        rw [el] at p1
        exact p1.elim
      | some r =>
        rw [el] at p1
        obtain ⟨a, dx, vs, ev, eh, hl, rs⟩ := ins_of m1 r1 ei
        obtain ⟨v, e1, e2⟩ := zip_look rs el
        exact ⟨a, C, dx, _, v, ev, eh, (hC C hc).1, (hC C hc).2, e1, p1 mu1 H1 v (Ge.refl _ _) m1 e2⟩
    · exact p1.elim
/-- o.n = e, o a tracked instance -/
def putN (n : Str) (d : D) : List Str → List D → List Str × List D
  | g :: fs, x :: vs => if g = n then (g :: fs, d :: vs) else ((g :: (putN n d fs vs).1), (x :: (putN n d fs vs).2))
  | _, _ => ([n], [d])
theorem put_rel {K : PySem.W.Frag} {mu : Mu} {H : Hp} {n : Str} {d : D} {v : V} (r : RelD K mu H d v) : ∀ {fs : List Str} {ds : List D} {vs : List V}, fs.length = vs.length → RelDs K mu H ds vs →
    ∃ vs', putF n v (fs.zip vs) = (putN n d fs ds).1.zip vs' ∧ (putN n d fs ds).1.length = vs'.length ∧ RelDs K mu H (putN n d fs ds).2 vs' ∧ vs'.length ≤ vs.length + 1
  | [], ds, vs, hl, rs => by
    have e : vs = [] := by cases vs with
      | nil => rfl
      | cons => simp at hl
    subst e
    exact ⟨[v], by simp [putN, putF], by simp [putN], by simp only [putN]; exact .cons r .nil, by simp⟩
  | g :: fs, [], vs, hl, rs => by
    simp only [RelDs] at rs
    subst rs
    simp at hl
  | g :: fs, x :: ds, vs, hl, rs => by
    simp only [RelDs] at rs
    obtain ⟨w, vr, rfl, r1, r2⟩ := rs
    simp only [List.length_cons] at hl
    by_cases hg : g = n
    · refine ⟨v :: vr, ?_, ?_, ?_, by simp⟩
      · simp only [List.zip_cons_cons, putF, putN, hg, if_true]
      · simp only [putN, hg, if_true, List.length_cons]
        omega
      · simp only [putN, hg, if_true]
        exact .cons r r2
    · obtain ⟨vs', e1, e2, e3, e4⟩ := put_rel (n := n) (fs := fs) r (by omega) r2
      refine ⟨w :: vs', ?_, ?_, ?_, ?_⟩
      · simp only [List.zip_cons_cons, putF, putN, hg, if_false, e1]
      · simp only [putN, hg, if_false, List.length_cons]
        omega
      · simp only [putN, hg, if_false]
        exact .cons r1 e3
      · simp only [List.length_cons]
        omega
def sFldT (cs : List Addr) (n : Str) (fo f : F D) : FS := fun L s => (f L s).bindS L fun d s1 => (fo L s1).bindS L fun o s2 => match o with
  | .ref k => match s2[k]? with
    | some (.ins C fs vs) => if C ∈ cs ∧ fs.length < 1000 then .nx L (s2.set k (.ins C (putN n d fs vs).1 (putN n d fs vs).2)) else .bad
    | _ => .bad
  | _ => .bad
theorem pS_fld {cs : List Addr} {n : Str} {eo : Expr} {fo : F D} {p1 : Pos} (hC : ∀ C ∈ cs, Cls X.K C ∧ NoAttr X.K C n) (ho : PE X eo (tE X.K W fo)) (he : PE X e (tE X.K W f)) (hs : swapsWith e (some (.Attribute eo n p1)) pos.line X.env = pure false := by rfl) :
    PS X (.Assign [.Attribute eo n p1] e pos) (tS X.K W (sFldT cs n fo f)) := by
  refine PS.weak (ps_fld ho he hs) fun D σ H ⟨mu, s, L, m, l, p⟩ => ⟨mu, s, L, m, l, ?_⟩
  refine Post.stepS l p fun d s1 mu1 H1 v1 g1 m1 r1 p1 => ?_
  refine ⟨mu1, s1, L, m1, l.mono g1, Post.stepS (l.mono g1) p1 fun o s2 mu2 H2 v2 g2 m2 r2 p2 => ?_⟩
  cases o <;> try exact p2.elim
  rename_i k
  dsimp only at p2
  cases ek : s2[k]? with
  | none =>
    rw [ek] at p2
    exact p2.elim
  | some ob =>
    rw [ek] at p2
    cases ob <;> try exact p2.elim
    rename_i C fs ds
    dsimp only at p2
    split at p2
    · rename_i hc
      simp only [RelD] at r2
      obtain ⟨a, ea, ev⟩ := r2
      rcases m2.obj k _ ek with z | ⟨b, eb, r⟩
      · cases z
      · rw [ea] at eb
        cases eb
        obtain ⟨dx, vs, h1, h2, h3⟩ := r
        obtain ⟨vs', e1, e2, e3, e4⟩ := put_rel (n := n) (r1.mono g2) h2 h3
        refine ⟨a, C, dx, _, ev, h1, (hC C hc.1).1, (hC C hc.1).2, ?_, ?_⟩
        · rw [List.length_zip]
          omega
        · rw [e1]
          exact p2 mu2 σ _ (Ge.put ea) (m2.put ea ⟨dx, vs', upd_same, e2, e3.mono (Ge.put ea)⟩) (((l.mono g1).mono g2).mono (Ge.put ea))
    · exact p2.elim
/-- C(..): a new instance; what its __init__ has made of it stays as it is -/
def mkD (C : Addr) (n : Nat) (G : List D → S → R D) (ds : List D) (s1 : S) : R D := if ds.length + 1 = n then (match G (.ref s1.length :: ds) (s1 ++ [.ins C [] []]) with
  | .ok d s2 => match s2[s1.length]? with
    | some (.ins C' fs vs) => if d = .non ∧ C' = C ∧ s2.take s1.length = s1 ∧ D.bels s1.length vs = true then .ok (.ins C fs vs) s1 else .bad
    | _ => .bad
  | .ex C' fs vs s2 => if s2.take s1.length = s1 ∧ D.bels s1.length vs = true then .ex C' fs vs s1 else .bad
  | .bad => .bad) else .bad
def fMake (C : Addr) (n : Nat) (G : List D → S → R D) (fa : F (List D)) : F D := fun L s => (fa L s).bind fun ds s1 => mkD C n G ds s1
theorem run_makeS {CX : CXT} {k : Nat} {C f : Addr} {fd : FuncData} {ps : List Str} {sp : Sp} {E : XK} {pins : List (Addr × Obj)} {σ : L2.St} {H : Hp} {s : Shared} {Q : VK} {us : List Value} {vs : List V} (M : Mk X.K C f) (Fo : FnOk X.prog X.w X.K X.mg X.base CX k f fd ps sp) (hr : Room (k + 1) X.A) (hb : Binds X.K fd ps [])
    (hx : PassesAt CX X σ E) (I : Inv X pins σ H s) (r : Vals vs us)
    (hh : ∀ x dx, H x = none → H dx = none → dx ≠ x → sp (.ref x :: vs) (upd (upd H dx (.own x)) x (.ins C dx [])) (fun v H2 => v = .non ∧ Q (.ref x) H2) E) :
    wpAny (model X.prog X.w) X.A (call (.ref C) us) (EP X pins σ Q) X.xe s := by
  have q0 := hh (s.heap.objs.size + 1) s.heap.objs.size (I.hok.fresh (Nat.le_succ _)) (I.hok.fresh (Nat.le_refl _)) (Nat.ne_of_lt (Nat.lt_succ_self _))
  have J := Inv.made (C := C) I
  have rr : Vals (V.ref (s.heap.objs.size + 1) :: vs) (Value.ref (s.heap.objs.size + 1) :: us) := .cons rfl r
  have hl : (Value.ref (s.heap.objs.size + 1) :: us).length = ps.length := by
    have z := rr.length
    rw [Fo.len _ _ _ _ q0] at z
    exact z.symm
  have hb' := hb ⟨_, _, _, _, _⟩ (Value.ref (s.heap.objs.size + 1) :: us) J.kIn (by rw [List.append_nil]; exact hl)
  rw [List.append_nil] at hb'
  refine wpAny_call (make_map (f := f) I.kIn M.makes M.init (beq_iff_eq.mp M.fn) (codeAny_mono (Fo.run _ X.stack _ _ ⟨Value.ref (s.heap.objs.size + 1) :: us, []⟩ _ _ _ E (hr.make C us []) (J.env0.make C us []) hb' rr q0) fun rs s' w => ?_))
  cases rs with
  | error er => exact hx pins _ _ er s' J w
  | ok fl =>
    cases fl with
    | ret z =>
      obtain ⟨v, H', J', rv, ev, q3⟩ := J.after w
      subst ev
      exact ⟨rv, ⟨V.ref (s.heap.objs.size + 1), H', J', rfl, q3⟩⟩
    | next => exact False.elim w
    | brk => exact False.elim w
    | cont => exact False.elim w
theorem weak_make {C : Addr} {n : Nat} {G : List D → S → R D} {ds : List D} {vs : List V} {s1 : S} {mu1 : Mu} {H1 : Hp} {σ : L2.St} {Q : VK} (m1 : Sim X.K mu1 s1 H1) (r1 : RelDs X.K mu1 H1 ds vs) (p1 : Post X.K W (RelD X.K) σ mu1 H1 Q (mkD C n G ds s1)) :
    ∀ x dx, H1 x = none → H1 dx = none → dx ≠ x → spI X.K n G (.ref x :: vs) (upd (upd H1 dx (.own x)) x (.ins C dx [])) (fun v H2 => v = .non ∧ Q (.ref x) H2) (WE W σ) := by
  intro x dx hx hd hne
  unfold mkD at p1
  split at p1
  · rename_i hn
    have hx1 : (upd H1 dx (.own x)) x = none := by rw [upd_ne (Ne.symm hne)]; exact hx
    have ma := m1.pure (u := .own x) hd
    have ga := Ge.pure (u := .own x) m1 hd
    have gb := Ge.track (u := .ins C dx []) ma hx1
    have mb : Sim X.K (mu1 ++ [some x]) (s1 ++ [.ins C [] []]) (upd (upd H1 dx (.own x)) x (.ins C dx [])) := ma.track hx1 ⟨dx, [], upd_same, rfl, .nil⟩
    have g0 := ga.trans gb
    have hlast : (mu1 ++ [some x])[s1.length]? = some (some x) := by
      rw [← m1.len, List.getElem?_append_right (Nat.le_refl _), Nat.sub_self]
      rfl
    refine ⟨_, _, .ref s1.length :: ds, mb, .cons (by simp only [RelD]; exact ⟨x, hlast, rfl⟩) (r1.mono g0), by rw [List.length_cons]; exact hn, ?_⟩
    have back : ∀ {mu2 : Mu} {s2 : S} {H2 : Hp}, Ge (mu1 ++ [some x]) (upd (upd H1 dx (.own x)) x (.ins C dx [])) mu2 H2 → Sim X.K mu2 s2 H2 → s2.take s1.length = s1 → Ge mu1 H1 (mu2.take s1.length) H2 ∧ Sim X.K (mu2.take s1.length) s1 H2 := fun {mu2 s2 H2} g2 m2 e => by
      refine ⟨?_, ?_⟩
      · have z := (g0.trans g2).back
        rw [m1.len] at z
        exact z
      · have z := m2.back (n := s1.length) (by rw [e]; exact fun o ho => m1.below ho)
        rw [e] at z
        exact z
    cases eg : G (.ref s1.length :: ds) (s1 ++ [.ins C [] []]) with
    | bad =>
      rw [eg] at p1
      exact p1.elim
    | ex C' fs ws s2 =>
      rw [eg] at p1
      dsimp only at p1
      split at p1
      · rename_i hc
        intro mu2 H2 od g2 m2 x2
        obtain ⟨g3, m3⟩ := back g2 m2 hc.1
        refine p1 _ H2 od g3 m3 ?_
        rcases x2 with x2 | ⟨d2, vs2, e2, h2, n2, l2, rr2⟩
        · exact .inl x2
        · exact .inr ⟨d2, vs2, e2, h2, not_live_take n2, l2, rr2.cut _ _ hc.2⟩
      · exact p1.elim
    | ok d s2 =>
      rw [eg] at p1
      dsimp only at p1
      cases e2 : s2[s1.length]? with
      | none =>
        rw [e2] at p1
        exact p1.elim
      | some ob =>
        rw [e2] at p1
        cases ob <;> try exact p1.elim
        rename_i C' fs ws
        dsimp only at p1
        split at p1
        · rename_i hc
          obtain ⟨hd0, hC', ht, hbl⟩ := hc
          subst hd0 hC'
          intro mu2 H2 v g2 m2 r2
          obtain ⟨g3, m3⟩ := back g2 m2 ht
          refine ⟨rel_non.mp r2, p1 _ H2 _ g3 m3 ?_⟩
          have hx2 := g2.rf s1.length x hlast
          rcases m2.obj s1.length _ e2 with z | ⟨b, eb, r⟩
          · cases z
          · rw [hx2] at eb
            cases eb
            obtain ⟨dx2, vs2, h1, h2, h3⟩ := r
            simp only [RelD]
            refine ⟨x, dx2, vs2, rfl, h1, fun z => ?_, h2, h3.cut _ _ hbl⟩
            obtain ⟨i, ei⟩ := live_iff.mp z
            rw [List.getElem?_take] at ei
            split at ei
            · rename_i hi
              have := m2.inj i s1.length x ei hx2
              omega
            · cases ei
        · exact p1.elim
  · exact p1.elim
theorem pE_make {x : Str} {p : Pos} {k n : Nat} {C fA : Addr} {fd : FuncData} {ps : List Str} {G : List D → S → R D} (M : Mk X.K C fA) (Fo : FnOk X.prog X.w X.K X.mg X.base (L2.CX X.prog X.w) k fA fd ps (spI X.K n G)) (hr : Room (k + 1) X.A) (hm : X.mg x = some (.ref C)) (hb : Binds X.K fd ps []) (tk : Takes X W)
    (ha : PA X (e :: es) (tA X.K W fa)) (hg : Gl X x := by rfl) (hdb : (x == ("__debug__" : Str)) = false := by decide) (he : starEach (e :: es) X.env = (false, eval e X.env) :: starEach es X.env := by rfl) (hpl : (backTo pos (starEach es X.env)).any (·.1) = false := by rfl) :
    PE X (.Call (.Name x p) (e :: es) [] pos) (tE X.K W (fMake C n G fa)) := by
  refine ⟨fun pins s σ H Q I hq => ?_⟩
  obtain ⟨mu, s', L, m, l, q⟩ := hq
  refine wpAny_Call_Name_kw (ld_glob I hg hm ?_ hdb)
  refine PySem.W.callWith_K (h₀ := X.base) I.ok.mod.kin M.kp (thn (ha.run pos pins s σ H _ I ⟨mu, s', L, m, l, Post.step q fun ds s1 mu1 H1 vs g1 m1 r1 p1 => weak_make m1 r1 p1⟩) fun us s1 ⟨vs, H1, I1, r, w⟩ => ⟨I1.kIn, ?_⟩) he hpl
  exact run_makeS M Fo hr hb (passAt tk σ) I1 r w
/-- .. the class in a name of the def -/
def fMakeL (i : Nat) (C : Addr) (n : Nat) (G : List D → S → R D) (fa : F (List D)) : F D := fun L s => match L[i]? with
  | some (some (.gl C')) => if C' = C then fMake C n G fa L s else .bad
  | _ => .bad
theorem pE_makeL {x : Str} {p : Pos} {i k n : Nat} {C fA : Addr} {fd : FuncData} {ps : List Str} {G : List D → S → R D} (M : Mk X.K C fA) (Fo : FnOk X.prog X.w X.K X.mg X.base (L2.CX X.prog X.w) k fA fd ps (spI X.K n G)) (hr : Room (k + 1) X.A) (hb : Binds X.K fd ps []) (tk : Takes X W)
    (ha : PA X (e :: es) (tA X.K W fa)) (hN : X.N[i]? = some x := by rfl) (hv : Vis X.env.scope x := by first | exact Or.inl rfl | exact Or.inr (Or.inl rfl) | exact Or.inr (Or.inr rfl)) (hdb : (x == ("__debug__" : Str)) = false := by decide) (hcd : (x == ("__classdict__" : Str)) = false := by decide) (he : starEach (e :: es) X.env = (false, eval e X.env) :: starEach es X.env := by rfl) (hpl : (backTo pos (starEach es X.env)).any (·.1) = false := by rfl) :
    PE X (.Call (.Name x p) (e :: es) [] pos) (tE X.K W (fMakeL i C n G fa)) := by
  refine ⟨fun pins s σ H Q I hq => ?_⟩
  obtain ⟨mu, s', L, m, l, q⟩ := hq
  unfold fMakeL at q
  split at q
  · rename_i C' hL
    split at q
    · rename_i hC
      subst hC
      obtain ⟨v, ev, rv⟩ := l.at_ i _ hL
      simp only [RelD] at rv
      subst rv
      refine wpAny_Call_Name_kw (thn ((pe_var (pos := p) hN hv hdb hcd).run pins s σ H (fun v H1 => v = .ref C' ∧ H1 = H) I ⟨_, ev, rfl, rfl⟩) fun z s1 ⟨v, H1, I1, r1, q1⟩ => ?_)
      obtain ⟨rfl, rfl⟩ := q1
      cases r1
      refine PySem.W.callWith_K (h₀ := X.base) I.ok.mod.kin M.kp (thn (ha.run pos pins s1 σ _ _ I1 ⟨mu, s', L, m, l, Post.step q fun ds s1 mu1 H1 vs g1 m1 r1 p1 => weak_make m1 r1 p1⟩) fun us s1 ⟨vs, H1, I1, r, w⟩ => ⟨I1.kIn, ?_⟩) he hpl
      exact run_makeS M Fo hr hb (passAt tk σ) I1 r w
    · exact q.elim
  · exact q.elim
end
end SI

namespace SI
open PySem PySem.Spec PyProof.Rows L2
section
variable {X : Cx} {W : WX} {a b c e : Expr} {f g h : F D} {t : F Bool} {fa : F (List D)} {es : List Expr} {pos : Pos} {st : Stmt} {sts : List Stmt} {u v : FS}
/-! ### types -/
def tyNames : List String := ["NoneType", "bool", "int", "str", "list", "tuple", "dict"]
def tyD (s : S) : D → Option String
  | .non => some "NoneType"
  | .bl _ => some "bool"
  | .int _ => some "int"
  | .str _ => some "str"
  | .tup _ => some "tuple"
  | .lst _ => some "list"
  | .rdl _ => some "list"
  | .dk _ _ => some "dict"
  | .dt _ _ => some "dict"
  | .ref n => match s[n]? with
    | some (.lst _) => some "list"
    | some (.dk _ _) => some "dict"
    | some (.dt _ _) => some "dict"
    | _ => none
  | _ => none
theorem ty_of {K : PySem.W.Frag} {mu : Mu} {s : S} {H : Hp} {d : D} {v : V} {n : String} (m : Sim K mu s H) (r : RelD K mu H d v) (e : tyD s d = some n) : TyX K H v (.type n) := by
  cases d <;> simp only [tyD] at e <;> try cases e
  · rw [rel_non.mp r]; exact .base .non
  · rw [rel_bl.mp r]; exact .base (.bl _)
  · rw [rel_int.mp r]; exact .base (.int _)
  · rw [rel_str.mp r]; exact .base (.str _)
  · rename_i k
    simp only [RelD] at r
    obtain ⟨a, ea, rfl⟩ := r
    cases ek : s[k]? with
    | none =>
      rw [ek] at e
      cases e
    | some o =>
      rw [ek] at e
      rcases m.obj k _ ek with z | ⟨b, eb, ro⟩
      · subst z
        cases e
      · rw [ea] at eb
        cases eb
        cases o <;> cases e
        · obtain ⟨vs, h1, _⟩ := ro
          exact .base (.lst h1)
        · obtain ⟨vs, h1, _⟩ := ro
          exact .base (.dK h1)
        · obtain ⟨vs, h1, _⟩ := ro
          exact .base (.dT h1)
  · simp only [RelD] at r
    obtain ⟨a, vs, rfl, h1, _⟩ := r
    rcases h1 with ⟨o, _, _, h1, h2, _⟩ | h1
    · exact .kTuple h1 h2
    · exact .base (.tup h1.1)
  · simp only [RelD] at r
    obtain ⟨a, vs, rfl, h1, _⟩ := r
    exact .base (.lst h1.1)
  · simp only [RelD] at r
    obtain ⟨a, vs, rfl, h1, _⟩ := r
    rcases h1 with ⟨o, _, _, h1, h2, _⟩ | ⟨h1 | ⟨o, h1⟩, _⟩
    · exact .kList h1 h2
    · exact .base (.lst h1)
    · exact .base (.frz h1)
  · simp only [RelD] at r
    obtain ⟨a, vs, rfl, h1, _⟩ := r
    exact .base (.dK h1.1)
  · simp only [RelD] at r
    obtain ⟨a, vs, rfl, h1, _⟩ := r
    exact .base (.dT h1.1)
theorem tyD_mem {s : S} {d : D} {n : String} (e : tyD s d = some n) : n ∈ tyNames := by
  cases d <;> simp only [tyD] at e <;> try cases e
  case ref k =>
    split at e <;> first | (cases e; decide) | cases e
  all_goals decide
def nyB (K : PySem.W.Frag) (C : Addr) : Bool := tyNames.all fun n => PySem.W.kitOne K (.ref C) (.type n) == some false
def ynB (K : PySem.W.Frag) (C : Addr) : Bool := tyNames.all fun n => PySem.W.kitOne K (.type n) (.ref C) == some false
def nfB (K : PySem.W.Frag) (C : Addr) : Bool := tyNames.all fun n => PySem.W.notFirst K C (.type n)
/-- what the text says of an own class -/
structure InsTxt (K : PySem.W.Frag) (C : Addr) : Prop where
  cl : Cls K C
  ha : PySem.W.findIn K (.ref C) "__class__" = some (some (.builtin "object.__class__"))
  hn : PySem.W.specialIn K (.builtin "object.__class__") "__get__" = some (some (.builtin "getset_descriptor.__get__"))
  htk : PySem.W.takesIn K (.builtin "object.__class__") = some true
  hm : PySem.W.mroIn K C (.type "object") = some true
  noty : nyB K C = true
  tyno : ynB K C = true
  nf : nfB K C = true
theorem ty_ins {K : PySem.W.Frag} {mu : Mu} {s : S} {H : Hp} {d : D} {v : V} {C : Addr} {fs : List Str} {ds : List D} (T : InsTxt K C) (m : Sim K mu s H) (r : RelD K mu H d v) (e : insOf s d = some (C, fs, ds)) : TyX K H v (.ref C) := by
  obtain ⟨a, dx, vs, rfl, h1, _⟩ := ins_of m r e
  exact .base (.ins h1 T.cl T.ha T.hn T.htk T.hm)
/-- isinstance(x, T): T a built-in class or one of the classes cs -/
def isi1 (cs : List Addr) (s : S) (d c : D) : Option Bool := match c with
  | .ty n => if n ∈ tyNames then (match tyD s d with
    | some t => kitB t n
    | none => match insOf s d with
      | some (C, _, _) => if C ∈ cs then some false else none
      | none => none) else none
  | .gl C' => if C' ∈ cs then (match tyD s d with
    | some _ => some false
    | none => match insOf s d with
      | some (C, _, _) => if C = C' then some true else none
      | none => none) else none
  | _ => none
theorem isi1_ok {K : PySem.W.Frag} {mu : Mu} {s : S} {H : Hp} {cs : List Addr} {d c : D} {x y : V} {r : Bool} (hC : ∀ C ∈ cs, InsTxt K C) (m : Sim K mu s H) (rd : RelD K mu H d x) (rc : RelD K mu H c y) (e : isi1 cs s d c = some r) :
    ∃ t w, ClsV y w ∧ TyX K H x t ∧ PySem.W.kitOne K t w = some r := by
  cases c <;> simp only [isi1] at e <;> try cases e
  · rename_i n
    simp only [RelD] at rc
    subst rc
    split at e
    · rename_i hn
      cases et : tyD s d with
      | some t =>
        rw [et] at e
        exact ⟨_, _, .ty n, ty_of m rd et, kit_ty e⟩
      | none =>
        rw [et] at e
        dsimp only at e
        cases ei : insOf s d with
        | none =>
          rw [ei] at e
          cases e
        | some z =>
          obtain ⟨C, fs, ds⟩ := z
          rw [ei] at e
          dsimp only at e
          split at e
          · rename_i hc
            cases e
            refine ⟨_, _, .ty n, ty_ins (hC C hc) m rd ei, ?_⟩
            have z := List.all_eq_true.mp (hC C hc).noty n hn
            exact beq_iff_eq.mp z
          · cases e
    · cases e
  · rename_i C'
    simp only [RelD] at rc
    subst rc
    split at e
    · rename_i hc
      cases et : tyD s d with
      | some t =>
        rw [et] at e
        cases e
        refine ⟨_, _, .own C', ty_of m rd et, ?_⟩
        have z := List.all_eq_true.mp (hC C' hc).tyno t (tyD_mem et)
        exact beq_iff_eq.mp z
      | none =>
        rw [et] at e
        dsimp only at e
        cases ei : insOf s d with
        | none =>
          rw [ei] at e
          cases e
        | some z =>
          obtain ⟨C, fs, ds⟩ := z
          rw [ei] at e
          dsimp only at e
          split at e
          · rename_i h1
            cases e
            subst h1
            refine ⟨_, _, .own C, ty_ins (hC C hc) m rd ei, ?_⟩
            unfold PySem.W.kitOne
            rw [if_pos (beq_self_eq_true _)]
          · cases e
    · cases e
def bIsi (cs : List Addr) (s : S) : List D → Option D
  | [d, c] => (isi1 cs s d c).map .bl
  | _ => none
theorem cbl_isi {K : PySem.W.Frag} {cs : List Addr} (hC : ∀ C ∈ cs, InsTxt K C) : CbL K (rIsi K) (bIsi cs) := by
  intro mu s H ds d vs Q m r e q
  rcases ds with _ | ⟨d1, _ | ⟨d2, _ | ⟨d3, ds⟩⟩⟩
  · cases e
  · cases e
  · obtain ⟨v1, v2, rfl, r1, r2⟩ := rel2 r
    simp only [bIsi] at e
    cases ei : isi1 cs s d1 d2 with
    | none =>
      rw [ei] at e
      cases e
    | some k =>
      rw [ei] at e
      cases e
      obtain ⟨t, w, h1, h2, h3⟩ := isi1_ok hC m r1 r2 ei
      exact ⟨v1, v2, t, w, k, rfl, h1, h2, h3, q mu H _ (Ge.refl _ _) m (rel_bl.mpr rfl)⟩
  · cases e
theorem pE_isi {e2 : Expr} {p : Pos} {cs : List Addr} (hC : ∀ C ∈ cs, InsTxt X.K C) (hm : X.mg "isinstance" = none) (ha : PA X [e, e2] (tA X.K W fa)) (hg : Gl X "isinstance" := by rfl) (he : starEach [e, e2] X.env = (false, eval e X.env) :: starEach [e2] X.env := by rfl) (hpl : (backTo pos (starEach [e2] X.env)).any (·.1) = false := by rfl) :
    PE X (.Call (.Name "isinstance" p) [e, e2] [] pos) (tE X.K W (fCB (bIsi cs) fa)) :=
  pE_cb call_isi (cbl_isi hC) hm (by decide +kernel) ha hg (by decide) (by decide) he hpl
/-- isinstance(x, (A, B)) -/
def isiAny (cs : List Addr) (s : S) (d : D) : List D → Option Bool
  | [] => some false
  | c :: r => match isi1 cs s d c with
    | some true => some true
    | some false => isiAny cs s d r
    | none => none
def bIsiT (cs : List Addr) (s : S) : List D → Option D
  | [d, .tup (c :: l)] => if ((c :: l).all fun c => (isi1 cs s d c).isSome) = true then (isiAny cs s d (c :: l)).map .bl else none
  | _ => none
theorem isiAny_ok {K : PySem.W.Frag} {mu : Mu} {s : S} {H : Hp} {cs : List Addr} {d : D} {x : V} {t0 : Value} (hC : ∀ C ∈ cs, InsTxt K C) (m : Sim K mu s H) (rd : RelD K mu H d x) (ht : ∀ c y w r, RelD K mu H c y → isi1 cs s d c = some r → ClsV y w → PySem.W.kitOne K t0 w = some r) :
    ∀ {l : List D} {ys : List V} {r : Bool}, RelDs K mu H l ys → (l.all fun c => (isi1 cs s d c).isSome) = true → isiAny cs s d l = some r → ∃ us, Paired ClsV ys us ∧ PySem.W.kitAny K t0 us = some r
  | [], ys, r, rl, _, e => by
    simp only [RelDs] at rl
    subst rl
    cases e
    exact ⟨[], .nil, rfl⟩
  | c :: l, ys, r, rl, ha, e => by
    simp only [RelDs] at rl
    obtain ⟨y, yr, rfl, rc, rr⟩ := rl
    simp only [List.all_cons, Bool.and_eq_true] at ha
    obtain ⟨k, ek⟩ := Option.isSome_iff_exists.mp ha.1
    obtain ⟨t, w, h1, h2, h3⟩ := isi1_ok hC m rd rc ek
    have h4 := ht c y w k rc ek h1
    unfold isiAny at e
    rw [ek] at e
    cases k with
    | true =>
      cases e
      -- the rest are classes, too
      have rest : ∀ {l : List D} {ys : List V}, RelDs K mu H l ys → (l.all fun c => (isi1 cs s d c).isSome) = true → ∃ us, Paired ClsV ys us := by
        intro l
        induction l with
        | nil =>
          intro ys rl _
          simp only [RelDs] at rl
          subst rl
          exact ⟨[], .nil⟩
        | cons c l ih =>
          intro ys rl ha
          simp only [RelDs] at rl
          obtain ⟨y, yr, rfl, rc, rr⟩ := rl
          simp only [List.all_cons, Bool.and_eq_true] at ha
          obtain ⟨k, ek⟩ := Option.isSome_iff_exists.mp ha.1
          obtain ⟨_, w, h1, _, _⟩ := isi1_ok hC m rd rc ek
          obtain ⟨us, hu⟩ := ih rr ha.2
          exact ⟨_, .cons h1 hu⟩
      obtain ⟨us, hu⟩ := rest rr ha.2
      refine ⟨_, .cons h1 hu, ?_⟩
      unfold PySem.W.kitAny
      rw [h4]
    | false =>
      dsimp only at e
      obtain ⟨us, hu, hk⟩ := isiAny_ok hC m rd ht rr ha.2 e
      refine ⟨_, .cons h1 hu, ?_⟩
      unfold PySem.W.kitAny
      rw [h4]
      exact hk
theorem isi1_ty {K : PySem.W.Frag} {mu : Mu} {s : S} {H : Hp} {cs : List Addr} {d : D} {x : V} (hC : ∀ C ∈ cs, InsTxt K C) (m : Sim K mu s H) (rd : RelD K mu H d x) {c : D} {r : Bool} (e : isi1 cs s d c = some r) :
    ∃ t0, TyX K H x t0 ∧ ∀ c y w r, RelD K mu H c y → isi1 cs s d c = some r → ClsV y w → PySem.W.kitOne K t0 w = some r := by
  have gen : ∀ t0 : Value, (∀ c y r, RelD K mu H c y → isi1 cs s d c = some r → ∃ w, ClsV y w ∧ PySem.W.kitOne K t0 w = some r) → ∀ c y w r, RelD K mu H c y → isi1 cs s d c = some r → ClsV y w → PySem.W.kitOne K t0 w = some r := fun t0 hh c y w r rc ec k => by
    obtain ⟨w', k', h⟩ := hh c y r rc ec
    have : w = w' := by
      cases k <;> cases k' <;> rfl
    rw [this]
    exact h
  cases et : tyD s d with
  | some t =>
    refine ⟨.type t, ty_of m rd et, gen _ fun c y r rc ec => ?_⟩
    cases c <;> simp only [isi1, et] at ec <;> try cases ec
    · rename_i n
      simp only [RelD] at rc
      subst rc
      split at ec
      · exact ⟨_, .ty n, kit_ty ec⟩
      · cases ec
    · rename_i C'
      simp only [RelD] at rc
      subst rc
      split at ec
      · rename_i hc
        cases ec
        exact ⟨_, .own C', beq_iff_eq.mp (List.all_eq_true.mp (hC C' hc).tyno t (tyD_mem et))⟩
      · cases ec
  | none =>
    cases ei : insOf s d with
    | none => cases c <;> simp only [isi1, et, ei] at e <;> (first | cases e | (split at e <;> cases e))
    | some z =>
      obtain ⟨C, fs, ds⟩ := z
      have hcs : C ∈ cs := by
        cases c <;> simp only [isi1, et, ei] at e <;> try cases e
        · split at e
          · split at e
            · assumption
            · cases e
          · cases e
        · split at e
          · rename_i hc
            split at e
            · rename_i hq
              rw [hq]
              exact hc
            · cases e
          · cases e
      refine ⟨.ref C, ty_ins (hC C hcs) m rd ei, gen _ fun c y r rc ec => ?_⟩
      cases c <;> simp only [isi1, et, ei] at ec <;> try cases ec
      · rename_i n
        simp only [RelD] at rc
        subst rc
        split at ec
        · rename_i hn
          cases ec
          exact ⟨_, .ty n, beq_iff_eq.mp (List.all_eq_true.mp (hC C hcs).noty n hn)⟩
        · cases ec
      · rename_i C'
        simp only [RelD] at rc
        subst rc
        split at ec
        · split at ec
          · rename_i hq
            cases ec
            subst hq
            refine ⟨_, .own C, ?_⟩
            unfold PySem.W.kitOne
            rw [if_pos (beq_self_eq_true _)]
          · cases ec
        · cases ec
theorem cbl_isiT {K : PySem.W.Frag} {cs : List Addr} (hC : ∀ C ∈ cs, InsTxt K C) : CbL K (fun xs H Q => rIsiT K xs H Q ∨ rIsiK K xs H Q) (bIsiT cs) := by
  intro mu s H ds d vs Q m r e q
  rcases ds with _ | ⟨d1, _ | ⟨d2, _ | ⟨d3, ds⟩⟩⟩
  · cases e
  · cases e
  · obtain ⟨v1, v2, rfl, r1, r2⟩ := rel2 r
    cases d2 <;> try cases e
    rename_i l
    cases l with
    | nil => cases e
    | cons c l =>
      simp only [bIsiT] at e
      split at e
      · rename_i hall
        cases ea : isiAny cs s d1 (c :: l) with
        | none =>
          rw [ea] at e
          cases e
        | some k =>
          rw [ea] at e
          cases e
          simp only [RelD] at r2
          obtain ⟨tp, ws, rfl, hT, rs⟩ := r2
          have h0 := hall
          simp only [List.all_cons, Bool.and_eq_true] at h0
          obtain ⟨k0, ek0⟩ := Option.isSome_iff_exists.mp h0.1
          obtain ⟨t0, ht0, hk⟩ := isi1_ty hC m r1 ek0
          obtain ⟨us, hp, ha⟩ := isiAny_ok hC m r1 hk rs hall ea
          rcases hT with hT | hT
          · obtain ⟨o, its, n, h1, h2, h3, h4, h5⟩ := hT
            obtain ⟨oc, od, dt, sl⟩ := o
            simp only at h2 h3
            subst h2 h3
            have e3 := ClsV.all hp h5
            refine .inr ⟨v1, tp, od, us, n, sl, t0, k, rfl, ?_, ht0, ha, q mu H _ (Ge.refl _ _) m (rel_bl.mpr rfl)⟩
            rw [h1, ← e3]
          · exact .inl ⟨v1, tp, ws, t0, us, k, rfl, hT.1, hp, ht0, ha, q mu H _ (Ge.refl _ _) m (rel_bl.mpr rfl)⟩
      · cases e
  · cases d2 <;> try cases e
    rename_i l
    cases l <;> cases e
theorem pE_isiT {e2 : Expr} {p : Pos} {cs : List Addr} (hC : ∀ C ∈ cs, InsTxt X.K C) (hm : X.mg "isinstance" = none) (ha : PA X [e, e2] (tA X.K W fa)) (hg : Gl X "isinstance" := by rfl) (he : starEach [e, e2] X.env = (false, eval e X.env) :: starEach [e2] X.env := by rfl) (hpl : (backTo pos (starEach [e2] X.env)).any (·.1) = false := by rfl) :
    PE X (.Call (.Name "isinstance" p) [e, e2] [] pos) (tE X.K W (fCB (bIsiT cs) fa)) :=
  pE_cb (call_isiT.or call_isiK) (cbl_isiT hC) hm (by decide +kernel) ha hg (by decide) (by decide) he hpl
/-! ### own == -/
/-- a == b: by the __eq__ of a's own class at C, or as data -/
def dEqO (C : Addr) (G : List D → S → R D) (s : S) (a b : D) : Option D := match insOf s a with
  | some (C', _, _) => if C' = C ∧ ((tyD s b).isSome = true ∨ (insOf s b).any (fun z => decide (z.1 = C)) = true) then (match G [a, b] s with
    | .ok (.bl k) s' => if s' = s then some (.bl k) else none
    | _ => none) else none
  | none => dEqD false s a b
def rEqO (K : PySem.W.Frag) (C : Addr) (G : List D → S → R D) : R2 := fun x y H Q => ∃ (p dx : Addr) (fs : List (Str × V)) (tb : Value), x = .ref p ∧ H p = some (.ins C dx fs) ∧ TyX K H y tb ∧ PySem.W.notFirst K C tb = true ∧
  spI K 2 G [x, y] H (fun v H' => ∃ b, v = .bl b ∧ Q (.bl b) H') fun _ _ _ => False
theorem op_eqO {k : Nat} {C fA : Addr} {fd : FuncData} {ps : List Str} {G : List D → S → R D} (Fo : FnOk X.prog X.w X.K X.mg X.base (L2.CX X.prog X.w) k fA fd ps (spI X.K 2 G)) (hr : Room k X.A) (hb : Binds X.K fd ps [])
    (hs : PySem.W.findIn X.K (.ref C) "__eq__" = some (some (.ref fA))) (hf : PySem.W.isFn X.K (.ref fA) = true) : OpR X (compareOp .Eq) (rEqO X.K C G) := by
  intro pins s σ H x y w z Q I rx ry hq
  obtain ⟨p, dx, fs, tb, rfl, ha, ht, hn, q⟩ := hq
  have e1 : w = Value.ref p := rx
  subst e1
  obtain ⟨mA, J, _⟩ := ins_get I.hok ha
  obtain ⟨od, J, _⟩ := J.look
  obtain ⟨P, Z, pz, _⟩ := kit_of I ry ht
  obtain ⟨mF, hF⟩ := I.fr
  show wpAny (model X.prog X.w) X.A (richCompare .Eq (.ref p) z) (EP X pins σ Q) X.xe s
  refine PySem.W.cmp_K (op := .Eq) (tb := tb) hr.units0 hF I.ok.mod.kin J (Z.ty _ _ I.kIn pz) hn hs hf ?_
  have r2 : Vals [V.ref p, y] [Value.ref p, z] := .cons rfl (.cons ry .nil)
  refine thn (run_fn (dvs := []) (ds := []) (E := fun _ _ _ => False) Fo hr hb .nil passL I r2 (by rw [List.append_nil]; exact q)) fun v s' hv => ?_
  obtain ⟨v', H', I', rv, b, ev, q'⟩ := hv
  subst ev
  cases rv
  exact ⟨.bl b, H', I', rfl, q'⟩
theorem opl_eqO {K : PySem.W.Frag} {C : Addr} {G : List D → S → R D} (T : InsTxt K C) : OpL K (fun x y H Q => rEqO K C G x y H Q ∨ rEqD K x y H Q) (dEqO C G) := by
  intro mu s H a b d x y Q m ra rb e q
  unfold dEqO at e
  cases ei : insOf s a with
  | none =>
    rw [ei] at e
    exact .inr (opl_eqD mu s H a b d x y Q m ra rb e q)
  | some z =>
    obtain ⟨C', fs, ds⟩ := z
    rw [ei] at e
    dsimp only at e
    split at e
    · rename_i hc
      obtain ⟨hc1, hc2⟩ := hc
      subst hc1
      obtain ⟨pa, dx, vs, rfl, eh, hl, rs⟩ := ins_of m ra ei
      have hty : ∃ tb, TyX K H y tb ∧ PySem.W.notFirst K C' tb = true := by
        rcases hc2 with h1 | h1
        · obtain ⟨n, en⟩ := Option.isSome_iff_exists.mp h1
          exact ⟨_, ty_of m rb en, List.all_eq_true.mp T.nf n (tyD_mem en)⟩
        · cases ej : insOf s b with
          | none =>
            rw [ej] at h1
            cases h1
          | some q =>
            obtain ⟨C2, fs2, ds2⟩ := q
            rw [ej] at h1
            have hC2 : C2 = C' := by simpa using h1
            subst hC2
            refine ⟨_, ty_ins T m rb ej, ?_⟩
            unfold PySem.W.notFirst
            simp
      obtain ⟨tb, ht, hn⟩ := hty
      refine .inl ⟨pa, dx, _, tb, rfl, eh, ht, hn, mu, s, [a, b], m, .cons ra (.cons rb .nil), rfl, ?_⟩
      cases eg : G [a, b] s with
      | bad =>
        rw [eg] at e
        cases e
      | ex C fs ds s3 =>
        rw [eg] at e
        cases e
      | ok d' s3 =>
        rw [eg] at e
        cases d' <;> try cases e
        rename_i bb
        dsimp only at e
        split at e
        · rename_i hs
          cases e
          subst hs
          intro mu' H' v g' m' r'
          exact ⟨bb, rel_bl.mp r', q mu' H' _ g' m' (rel_bl.mpr rfl)⟩
        · cases e
    · cases e
/-! ### a class method by its class -/
theorem pE_cmeth {o : Expr} {fo : F D} {k n : Nat} {C pm fA : Addr} {mc : Value} {nm : Str} {pl : Sem Bool} {apos : Pos} {fd : FuncData} {ps : List Str} {G : List D → S → R D} (ho : PE X o (tE X.K W (fC (.gl C)))) (r : ClX.CRead X.K C mc) (c : ClX.CMet X.K C mc nm pm fA) (Fo : FnOk X.prog X.w X.K X.mg X.base (L2.CX X.prog X.w) k fA fd ps (spI X.K (n + 1) G)) (hr : Room k X.A) (hb : Binds X.K fd ps []) (tk : Takes X W)
    (ha : PA X (e :: es) (tA X.K W fa)) (hst : starEach (e :: es) X.env = (false, eval e X.env) :: starEach es X.env := by rfl) (hpl : (backTo pos (starEach es X.env)).any (·.1) = false := by rfl)
    (ht : eval (.Call (.Attribute o nm apos) (e :: es) [] pos) X.env = (do
      let ov ← eval o X.env
      standAt apos.atName
      let (fm, first) ← holding [ov] (getMethod ov nm pl)
      callWith pos fm first (backTo pos (starEach (e :: es) X.env)) (backToKw pos (keywordEach [] X.env))) := by rfl) :
    PE X (.Call (.Attribute o nm apos) (e :: es) [] pos) (tE X.K W (fCall n (fun ds s => G (.gl C :: ds) s) fa)) := by
  refine ⟨fun pins s σ H Q I ⟨mu, s', L, m, l, p⟩ => ?_⟩
  refine PySem.W.methodCall_KW (pl := pl) (thn (ho.run pins s σ H (fun x H1 => x = .ref C ∧ ∃ mu1, Sim X.K mu1 s' H1 ∧ LR X.K mu1 H1 L σ ∧ Post X.K W (RelD X.K) σ mu1 H1 Q (fCall n (fun ds s => G (.gl C :: ds) s) fa L s')) I ⟨mu, s', L, m, l, fun mu1 H1 v g1 m1 r1 => ?_⟩) fun w s1 ⟨x, H1, I1, rx, ex, mu1, m1, l1, p1⟩ => ?_) ht
  · simp only [RelD] at r1
    exact ⟨r1, mu1, m1, l.mono g1, Post.ge g1 p⟩
  · subst ex
    obtain rfl : w = Value.ref C := rx
    refine ClX.getmethcm_ok I1 r c fun s2 I2 => ?_
    refine ClX.callwith_cm I2 (ClX.base_none I1 (Nat.le_refl _)) c.fi (thn (ha.run pos _ s2 σ H1 (fun vs H2 => spI X.K (n + 1) G (.ref C :: vs) H2 Q (WE W σ)) I2 ⟨mu1, s', L, m1, l1, Post.step p1 fun ds s3 mu3 H3 vs g3 m3 r3 p3 => ?_⟩) fun us s3 ⟨vs, H2, I3, rv, q2⟩ => ⟨⟨ClX.pin_at I3, I3.kIn⟩, ?_⟩) hst hpl
    · split at p3
      · rename_i hn
        dsimp only at p3
        refine ⟨mu3, s3, .gl C :: ds, m3, .cons (by simp only [RelD]) r3, by rw [List.length_cons, hn], ?_⟩
        cases eg : G (.gl C :: ds) s3 with
        | bad =>
          rw [eg] at p3
          exact p3.elim
        | ex C fs ds s3 =>
          rw [eg] at p3
          exact p3
        | ok d s3 =>
          rw [eg] at p3
          exact p3
      · exact p3.elim
    · have z : wpAny (model X.prog X.w) X.A (call (.ref s1.heap.objs.size) us) (EP X ((s1.heap.objs.size, PySem.W.methodObj (.ref fA) (.ref C)) :: pins) σ Q) X.xe s3 := by
        refine wpAny_call (PySem.W.method_call (ClX.pin_at I3) ?_)
        have rr : Vals (V.ref C :: vs) (Value.ref C :: us) := .cons rfl rv
        have hl : (Value.ref C :: us).length = ps.length := by rw [← rr.length]; exact Fo.len _ _ _ _ q2
        have hb2 := hb s3 (Value.ref C :: us) I3.kIn (by rw [List.append_nil]; exact hl)
        rw [List.append_nil] at hb2
        refine codeAny_mono (Fo.run X.A X.stack s3 H2 ⟨Value.ref C :: us, []⟩ _ _ Q (WE W σ) hr I3.env0 hb2 rr q2) fun rs s4 w4 => ?_
        cases rs with
        | error er => exact passAt tk σ _ _ _ er s4 I3 w4
        | ok fl =>
          cases fl with
          | ret z => exact I3.after w4
          | next => exact False.elim w4
          | brk => exact False.elim w4
          | cont => exact False.elim w4
      exact thn z fun _ _ y => ClX.unpinE y
end
end SI

namespace SI
open PySem PySem.Spec PyProof.Rows L2
section
variable {X : Cx} {W : WX} {a b c e : Expr} {f g h : F D} {t : F Bool} {fa : F (List D)} {es : List Expr} {pos : Pos} {st : Stmt} {sts : List Stmt} {u v : FS}
/-! ### [elt for target in iter if ..] -/
def wipeD (L : Lc) : List Nat → Lc
  | [] => L
  | v :: vs => (wipeD L vs).set v none
theorem wipe_lr {K : PySem.W.Frag} {mu : Mu} {H : Hp} {L : Lc} {σ : L2.St} (l : LR K mu H L σ) : ∀ vs : List Nat, LR K mu H (wipeD L vs) (wipe σ vs)
  | [] => l
  | v :: vs => (wipe_lr l vs).del v
def noW : WX := fun _ _ _ _ => False
/-- one clause; the list that grows is the n-th tracked object -/
def lcL (q : Tg) (t : F Bool) (f : F D) (r : Src) (L0 : Lc) (n : Nat) : List D → S → R Unit
  | [], s => if chk r s = true then .ok () s else .bad
  | d :: ds, s => if chk r s = true then (match q d L0 with
    | none => .bad
    | some L1 => (t L1 s).bind fun b s1 => if b = true then ((f L1 s1).bind fun y s2 => match s2[n]? with
      | some (.lst acc) => if acc.length < big then lcL q t f r L0 n ds (s2.set n (.lst (acc ++ [y]))) else .bad
      | _ => .bad) else lcL q t f r L0 n ds s1) else .bad
def fLc (fi : F Src) (q : Tg) (t : F Bool) (f : F D) (vs : List Nat) : F D := fun L s => (fi L s).bind fun r s1 => match lcL q t f r (wipeD L vs) s1.length r.items (s1 ++ [.lst []]) with
  | .ok _ s2 => match s2[s1.length]? with
    | some (.lst ys) => if (s2.take s1.length).all (O.bel s1.length) = true ∧ D.bels s1.length ys = true then .ok (.lst ys) (s2.take s1.length) else .bad
    | _ => .bad
  | _ => .bad
def fYes : F Bool := fun _ s => .ok true s
theorem weak_lc {fi : F Src} {q : Tg} {gt : TG} {tt : TT} {te : TE} {vs : List Nat} {σ : L2.St} {H : Hp} {Q : VK}
    (hg : ∀ v σ H (Q : L2.St → Hp → Prop), tG X.K q v (wipe σ vs) H Q → gt v (wipe σ vs) H fun σ2 H2 => wipe σ2 vs = wipe σ vs ∧ Q σ2 H2)
    (ht : ∀ σ H Q, tT X.K noW t σ H Q → tt σ H Q) (he : ∀ σ H Q, tE X.K noW f σ H Q → te σ H Q)
    (hq : tE X.K W (fLc fi q t f vs) σ H Q) : tLc (tI X.K W fi) gt tt te vs σ H Q := by
  obtain ⟨mu, s, L, m, l, p⟩ := hq
  refine ⟨mu, s, L, m, l, Post.step p fun r s1 mu1 H1 J g1 m1 ir p1 => ?_⟩
  intro Dl hD
  have l1 := l.mono g1
  cases eL : lcL q t f r (wipeD L vs) s1.length r.items (s1 ++ [.lst []]) with
  | ex C fs ds s2 =>
    rw [eL] at p1
    exact p1.elim
  | bad =>
    rw [eL] at p1
    exact p1.elim
  | ok uu sF =>
    rw [eL] at p1
    dsimp only at p1
    cases eY : sF[s1.length]? with
    | none =>
      rw [eY] at p1
      exact p1.elim
    | some ob =>
      rw [eY] at p1
      cases ob <;> try exact p1.elim
      rename_i ysF
      dsimp only at p1
      split at p1
      · rename_i hb
        have gT := Ge.track (u := .lst []) m1 hD
        have mT : Sim X.K (mu1 ++ [some Dl]) (s1 ++ [.lst []]) (upd H1 Dl (.lst [])) := m1.track hD ⟨[], upd_same, .nil⟩
        have hlast : (mu1 ++ [some Dl])[s1.length]? = some (some Dl) := by
          rw [← m1.len, List.getElem?_append_right (Nat.le_refl _), Nat.sub_self]
          rfl
        refine ⟨fun i n H' => n = r.items.length - i ∧ i ≤ r.items.length ∧ ∃ mu' s', Ge (mu1 ++ [some Dl]) (upd H1 Dl (.lst [])) mu' H' ∧ Sim X.K mu' s' H' ∧ lcL q t f r (wipeD L vs) s1.length (r.items.drop i) s' = .ok uu sF,
          ⟨_, rfl, Nat.zero_le _, _, _, Ge.refl _ _, mT, eL⟩, ?_⟩
        rintro i n H' ⟨rfl, hi, mu', s', g', m', p'⟩
        by_cases hlt : i < r.items.length
        · have hd : r.items.drop i = r.items[i] :: r.items.drop (i + 1) := List.drop_eq_getElem_cons hlt
          rw [hd] at p'
          unfold lcL at p'
          by_cases hk : chk r s' = true
          · rw [if_pos hk] at p'
            have hir := (ir mu' s' H' (gT.trans g') m' hk i).1 _ (List.getElem?_eq_getElem hlt)
            refine .inr ⟨hir.1, fun H2 => ∃ mu2 s2, Ge (mu1 ++ [some Dl]) (upd H1 Dl (.lst [])) mu2 H2 ∧ Sim X.K mu2 s2 H2 ∧ lcL q t f r (wipeD L vs) s1.length (r.items.drop (i + 1)) s2 = .ok uu sF,
              fun H2 n2 => ⟨_, ?_, rfl, hlt, n2⟩, fun x H2 hy => ?_⟩
            · omega
            · obtain ⟨g2, m2, r2⟩ := hir.2 x H2 hy
              cases eq : q r.items[i] (wipeD L vs) with
              | none =>
                rw [eq] at p'
                cases p'
              | some L1 =>
                rw [eq] at p'
                dsimp only at p'
                refine hg x σ H2 _ ⟨mu', s', wipeD L vs, _, L1, m2, wipe_lr (((l1.mono gT).mono g').mono g2) vs, r2, eq, fun σ2 l2 => ?_⟩
                refine ht σ2 H2 _ ⟨mu', s', L1, m2, l2, ?_⟩
                cases et : t L1 s' with
                | bad =>
                  rw [et] at p'
                  cases p'
                | ex C fs ds s3 =>
                  rw [et] at p'
                  cases p'
                | ok bb s3 =>
                  rw [et] at p'
                  simp only [R.bind] at p'
                  intro mu3 H3 b3 g3 m3 e3
                  subst e3
                  cases bb with
                  | false =>
                    rw [if_neg Bool.false_ne_true]
                    rw [if_neg Bool.false_ne_true] at p'
                    exact ⟨mu3, s3, (g'.trans g2).trans g3, m3, p'⟩
                  | true =>
                    rw [if_pos rfl]
                    rw [if_pos rfl] at p'
                    refine he σ2 H3 _ ⟨mu3, s3, L1, m3, l2.mono g3, ?_⟩
                    cases ef : f L1 s3 with
                    | bad =>
                      rw [ef] at p'
                      cases p'
                    | ex C fs ds s4 =>
                      rw [ef] at p'
                      cases p'
                    | ok y s4 =>
                      rw [ef] at p'
                      simp only [R.bind] at p'
                      intro mu4 H4 vy g4 m4 ry
                      cases e4 : s4[s1.length]? with
                      | none =>
                        rw [e4] at p'
                        cases p'
                      | some ob =>
                        rw [e4] at p'
                        cases ob <;> try cases p'
                        rename_i acc
                        dsimp only at p'
                        split at p'
                        · rename_i hbig
                          have gA := ((g'.trans g2).trans g3).trans g4
                          have hDl := gA.rf s1.length Dl hlast
                          obtain ⟨b, vacc, e1, e2, e3, rs⟩ := sq_ref (v := .ref Dl) m4 (by simp only [RelD]; exact ⟨Dl, hDl, rfl⟩) e4
                          cases e1
                          refine ⟨vacc, e3, ?_, mu4, _, gA.trans (Ge.put hDl), m4.put (o := .lst (acc ++ [y])) hDl ⟨_, upd_same, (rs.append (.cons ry .nil)).mono (Ge.put hDl)⟩, p'⟩
                          rw [← rs.length, sizeLine_eq]
                          unfold big at hbig
                          omega
                        · cases p'
          · rw [if_neg hk] at p'
            cases p'
        · have hd : r.items.drop i = [] := List.drop_eq_nil_of_le (by omega)
          rw [hd] at p'
          unfold lcL at p'
          by_cases hk : chk r s' = true
          · rw [if_pos hk] at p'
            cases p'
            refine .inl ⟨(ir mu' _ H' (gT.trans g') m' hk i).2 (List.getElem?_eq_none (by omega)), ?_⟩
            have hDl := g'.rf s1.length Dl hlast
            obtain ⟨b, vacc, e1, e2, e3, rs⟩ := sq_ref (v := .ref Dl) m' (by simp only [RelD]; exact ⟨Dl, hDl, rfl⟩) eY
            cases e1
            have gB : Ge mu1 H1 (mu'.take s1.length) H' := by
              have z := (gT.trans g').back
              rw [m1.len] at z
              exact z
            refine p1 (mu'.take s1.length) H' _ gB (m'.back fun o ho => List.all_eq_true.mp hb.1 o ho) ?_
            simp only [RelD]
            refine ⟨Dl, vacc, rfl, ⟨e3, fun z => ?_⟩, rs.cut _ _ hb.2⟩
            obtain ⟨j, ej⟩ := live_iff.mp z
            rw [List.getElem?_take] at ej
            split at ej
            · have := m'.inj j s1.length Dl ej hDl
              omega
            · cases ej
          · rw [if_neg hk] at p'
            cases p'
      · exact p1.elim
/-- targets in a comprehension: they change their own places alone -/
theorem wipe_set {σ : L2.St} {vs : List Nat} {i : Nat} {x : Option V} (h : i ∈ vs) : wipe (σ.set i x) vs = wipe σ vs := by
  apply List.ext_getElem?
  intro j
  have key : ∀ (vs : List Nat) (τ : L2.St), (wipe τ vs)[j]? = if j ∈ vs ∧ j < τ.length then some none else τ[j]? := by
    intro vs
    induction vs with
    | nil => intro τ; simp [wipe]
    | cons v vs ih =>
      intro τ
      unfold wipe
      by_cases hj : v = j
      · subst hj
        by_cases hl : v < τ.length
        · rw [List.getElem?_set_self (by rw [wipe_length]; exact hl), if_pos ⟨List.mem_cons_self, hl⟩]
        · rw [if_neg (fun z => hl z.2), List.getElem?_eq_none (by rw [List.length_set, wipe_length]; omega), List.getElem?_eq_none (by omega)]
      · rw [List.getElem?_set_ne hj, ih]
        have : (j ∈ v :: vs) ↔ j ∈ vs := by
          rw [List.mem_cons]
          exact ⟨fun z => z.elim (fun e => absurd e.symm hj) id, .inr⟩
        simp only [this]
  rw [key, key, List.length_set]
  by_cases hj : j ∈ vs ∧ j < σ.length
  · rw [if_pos hj, if_pos hj]
  · rw [if_neg hj, if_neg hj]
    by_cases hij : i = j
    · subst hij
      have hl : ¬ i < σ.length := fun z => hj ⟨h, z⟩
      rw [List.getElem?_eq_none (by rw [List.length_set]; omega), List.getElem?_eq_none (by omega)]
    · rw [List.getElem?_set_ne hij]
theorem wipe_wipe {σ : L2.St} : ∀ {vs : List Nat}, wipe (wipe σ vs) vs = wipe σ vs := fun {vs} => by
  apply List.ext_getElem?
  intro j
  have key : ∀ (vs : List Nat) (τ : L2.St), (wipe τ vs)[j]? = if j ∈ vs ∧ j < τ.length then some none else τ[j]? := by
    intro vs
    induction vs with
    | nil => intro τ; simp [wipe]
    | cons v vs ih =>
      intro τ
      unfold wipe
      by_cases hj : v = j
      · subst hj
        by_cases hl : v < τ.length
        · rw [List.getElem?_set_self (by rw [wipe_length]; exact hl), if_pos ⟨List.mem_cons_self, hl⟩]
        · rw [if_neg (fun z => hl z.2), List.getElem?_eq_none (by rw [List.length_set, wipe_length]; omega), List.getElem?_eq_none (by omega)]
      · rw [List.getElem?_set_ne hj, ih]
        have : (j ∈ v :: vs) ↔ j ∈ vs := by
          rw [List.mem_cons]
          exact ⟨fun z => z.elim (fun e => absurd e.symm hj) id, .inr⟩
        simp only [this]
  rw [key, key, wipe_length]
  by_cases hj : j ∈ vs ∧ j < σ.length
  · rw [if_pos hj, if_pos hj]
  · rw [if_neg hj, if_neg hj]
/-- which places a target fills -/
def KG (K : PySem.W.Frag) (q : Tg) (gt : TG) (vs : List Nat) : Prop := ∀ v σ H (Q : L2.St → Hp → Prop), tG K q v σ H Q → gt v σ H fun σ2 H2 => wipe σ2 vs = wipe σ vs ∧ Q σ2 H2
def KGs (K : PySem.W.Frag) (q : Tgs) (gt : TGs) (vs : List Nat) : Prop := ∀ v σ H (Q : L2.St → Hp → Prop), tGs K q v σ H Q → gt v σ H fun σ2 H2 => wipe σ2 vs = wipe σ vs ∧ Q σ2 H2
theorem kg_name {K : PySem.W.Frag} {i : Nat} {vs : List Nat} (h : i ∈ vs) : KG K (gN i) (gName i) vs := fun v σ H Q ⟨mu, s, L, d, L', m, l, r, e, q⟩ => by
  cases e
  exact ⟨wipe_set h, q _ (l.set i r)⟩
theorem kgs_nil {K : PySem.W.Frag} {vs : List Nat} : KGs K gNl gNil vs := fun v σ H Q ⟨mu, s, L, ds, L', m, l, r, e, q⟩ => by
  cases ds with
  | nil =>
    cases e
    simp only [RelDs] at r
    exact ⟨r, rfl, q _ l⟩
  | cons d ds => cases e
theorem kgs_cons {K : PySem.W.Frag} {q : Tg} {r : Tgs} {gt : TG} {gs : TGs} {vs : List Nat} (h1 : KG K q gt vs) (h2 : KGs K r gs vs) (mon : ∀ v σ H (Q Q' : L2.St → Hp → Prop), (∀ σ H, Q σ H → Q' σ H) → gt v σ H Q → gt v σ H Q') (mons : ∀ v σ H (Q Q' : L2.St → Hp → Prop), (∀ σ H, Q σ H → Q' σ H) → gs v σ H Q → gs v σ H Q') : KGs K (gCn q r) (gCons gt gs) vs := fun v σ H Q ⟨mu, s, L, ds, L', m, l, rr, e, k⟩ => by
  cases ds with
  | nil => cases e
  | cons d ds =>
    simp only [RelDs] at rr
    obtain ⟨v1, vr, rfl, r1, r2⟩ := rr
    simp only [gCn] at e
    cases e1 : q d L with
    | none =>
      rw [e1] at e
      cases e
    | some L1 =>
      rw [e1] at e
      refine ⟨v1, vr, rfl, mon _ _ _ _ _ (fun σ2 H2 z => ?_) (h1 v1 σ H (fun σ2 H2 => tGs K r vr σ2 H2 Q) ⟨mu, s, L, d, L1, m, l, r1, e1, fun σ' l' => ⟨mu, s, L1, ds, L', m, l', r2, e, k⟩⟩)⟩
      obtain ⟨z1, z2⟩ := z
      exact mons _ _ _ _ _ (fun σ3 H3 z => ⟨z.1.trans z1, z.2⟩) (h2 vr σ2 H2 Q z2)
theorem kg_tup {K : PySem.W.Frag} {r : Tgs} {gs : TGs} {vs : List Nat} {n : Nat} (h : KGs K r gs vs) (hn : ∀ ds L L', r ds L = some L' → ds.length = n) : KG K (gTp r) (gTup K n gs) vs := fun v σ H Q ⟨mu, s, L, d, L', m, l, rr, e, q⟩ => by
  cases d <;> simp only [gTp] at e <;> try cases e
  rename_i ds
  obtain ⟨a, ws, ev, sq, rs⟩ := sq_tup rr
  exact ⟨a, ws, ev, sq, by rw [← rs.length]; exact hn ds L L' e, h ws σ H Q ⟨mu, s, L, ds, L', m, l, rs, e, q⟩⟩
theorem mon_name {i : Nat} : ∀ v σ H (Q Q' : L2.St → Hp → Prop), (∀ σ H, Q σ H → Q' σ H) → gName i v σ H Q → gName i v σ H Q' := fun _ _ _ _ _ h q => h _ _ q
theorem mon_nil : ∀ v σ H (Q Q' : L2.St → Hp → Prop), (∀ σ H, Q σ H → Q' σ H) → gNil v σ H Q → gNil v σ H Q' := fun _ _ _ _ _ h q => ⟨q.1, h _ _ q.2⟩
theorem mon_cons {gt : TG} {gs : TGs} (m1 : ∀ v σ H (Q Q' : L2.St → Hp → Prop), (∀ σ H, Q σ H → Q' σ H) → gt v σ H Q → gt v σ H Q') (m2 : ∀ v σ H (Q Q' : L2.St → Hp → Prop), (∀ σ H, Q σ H → Q' σ H) → gs v σ H Q → gs v σ H Q') :
    ∀ v σ H (Q Q' : L2.St → Hp → Prop), (∀ σ H, Q σ H → Q' σ H) → gCons gt gs v σ H Q → gCons gt gs v σ H Q' := fun v σ H Q Q' hh ⟨v1, r, e, q⟩ => ⟨v1, r, e, m1 _ _ _ _ _ (fun σ2 H2 z => m2 _ _ _ _ _ hh z) q⟩
theorem mon_tup {K : PySem.W.Frag} {gs : TGs} {n : Nat} (m2 : ∀ v σ H (Q Q' : L2.St → Hp → Prop), (∀ σ H, Q σ H → Q' σ H) → gs v σ H Q → gs v σ H Q') :
    ∀ v σ H (Q Q' : L2.St → Hp → Prop), (∀ σ H, Q σ H → Q' σ H) → gTup K n gs v σ H Q → gTup K n gs v σ H Q' := fun v σ H Q Q' hh ⟨a, xs, e1, e2, e3, q⟩ => ⟨a, xs, e1, e2, e3, m2 _ _ _ _ _ hh q⟩
theorem kg_wipe {K : PySem.W.Frag} {q : Tg} {gt : TG} {vs : List Nat} (h : KG K q gt vs) (mon : ∀ v σ H (Q Q' : L2.St → Hp → Prop), (∀ σ H, Q σ H → Q' σ H) → gt v σ H Q → gt v σ H Q') :
    ∀ v σ H (Q : L2.St → Hp → Prop), tG K q v (wipe σ vs) H Q → gt v (wipe σ vs) H fun σ2 H2 => wipe σ2 vs = wipe σ vs ∧ Q σ2 H2 := fun v σ H Q hq =>
  mon _ _ _ _ _ (fun σ2 H2 z => ⟨z.1.trans wipe_wipe, z.2⟩) (h v (wipe σ vs) H Q hq)
theorem pTs_nil {Y : Cx} : PTs Y [] (tT Y.K noW fYes) := ⟨fun pins s σ H Q I hq => pts_nil.run pins s σ H Q I (by
  obtain ⟨mu, s', L, m, l, p⟩ := hq
  exact p mu H _ (Ge.refl _ _) m rfl)⟩
theorem pTs_one {Y : Cx} {c : Expr} (hc : PT Y c (tT Y.K noW t)) : PTs Y [c] (tT Y.K noW t) := pts_one hc
theorem tk0 {Y : Cx} : Takes Y noW := takes0
/-- [elt for target in iter if ..], as a value -/
theorem pE_lc {elt tg iter : Expr} {ifs : List Expr} {scope : Scope} {own : List (Str × Nat)} {fi : F Src} {q : Tg} {gt : TG} {vs : List Nat} (hc : X.calm = true) (hN : X.N.Nodup) (hi : PI X tg iter (tI X.K W fi)) (ok : BlkOk X.N X.env.scope scope own)
    (hk : KG X.K q gt vs) (mon : ∀ v σ H (Q Q' : L2.St → Hp → Prop), (∀ σ H, Q σ H → Q' σ H) → gt v σ H Q → gt v σ H Q')
    (hg : ∀ (s : Shared) (H : Hp) (C : Addr) (cl : List (Str × Addr)) (fp : List Addr), PG (X.blk s H scope (compEnvC scope cl C X.env) fp) tg gt) (ht : ∀ (s : Shared) (H : Hp) (C : Addr) (cl : List (Str × Addr)) (fp : List Addr), PTs (X.blk s H scope (compEnvC scope cl C X.env) fp) ifs (tT X.K noW t))
    (he : ∀ (s : Shared) (H : Hp) (C : Addr) (cl : List (Str × Addr)) (fp : List Addr), PE (X.blk s H scope (compEnvC scope cl C X.env) fp) elt (tE X.K noW f)) (hs : ∀ x, foldedSetIterable iter X.env x = pure x := by intro _; rfl) (hvs : own.map (·.2) = vs := by rfl) :
    PE X (.ListComp elt [⟨tg, iter, ifs, 0⟩] scope pos) (tE X.K W (fLc fi q t f vs)) :=
  PE.weak (pe_lc hc hN hi ok hg ht he hs) fun σ H Q hq => by
    rw [hvs]
    exact weak_lc (kg_wipe hk mon) (fun _ _ _ z => z) (fun _ _ _ z => z) hq
/-- y = [elt for ..] -/
theorem pS_setLc {i : Nat} {y : Str} {py spos : Pos} {elt tg iter : Expr} {ifs : List Expr} {scope : Scope} {own : List (Str × Nat)} {fi : F Src} {q : Tg} {gt : TG} {vs : List Nat} (hc : X.calm = true) (hN : X.N.Nodup)
    (hsw : swapsWith (.ListComp elt [⟨tg, iter, ifs, 0⟩] scope pos) (some (.Name y py)) spos.line X.env = pure true) (hi : PI X tg iter (tI X.K W fi)) (ok : BlkOk X.N X.env.scope scope own)
    (hk : KG X.K q gt vs) (mon : ∀ v σ H (Q Q' : L2.St → Hp → Prop), (∀ σ H, Q σ H → Q' σ H) → gt v σ H Q → gt v σ H Q')
    (hg : ∀ (s : Shared) (H : Hp) (C : Addr) (cl : List (Str × Addr)) (fp : List Addr), PG (X.blk s H scope (compEnvC scope cl C X.env) fp) tg gt) (ht : ∀ (s : Shared) (H : Hp) (C : Addr) (cl : List (Str × Addr)) (fp : List Addr), PTs (X.blk s H scope (compEnvC scope cl C X.env) fp) ifs (tT X.K noW t))
    (he : ∀ (s : Shared) (H : Hp) (C : Addr) (cl : List (Str × Addr)) (fp : List Addr), PE (X.blk s H scope (compEnvC scope cl C X.env) fp) elt (tE X.K noW f)) (hy : X.N[i]? = some y := by rfl) (hyl : X.env.scope.names.lookup y = some .local := by rfl) (hs : ∀ x, foldedSetIterable iter X.env x = pure x := by intro _; rfl) (hvs : own.map (·.2) = vs := by rfl) :
    PS X (.Assign [.Name y py] (.ListComp elt [⟨tg, iter, ifs, 0⟩] scope pos) spos) (tS X.K W (sAsg i (fLc fi q t f vs))) := by
  refine PS.weak (ps_setLc hc hN hy hyl hsw hi ok hg ht he hs) fun D σ H ⟨mu, s, L, m, l, p⟩ => ?_
  show tLc _ _ _ _ (own.map (·.2)) σ H _
  rw [hvs]
  refine weak_lc (kg_wipe hk mon) (fun _ _ _ z => z) (fun _ _ _ z => z) ⟨mu, s, L, m, l, Post.stepS l p fun d s1 mu1 H1 v1 g1 m1 r1 p1 => ?_⟩
  exact p1 mu1 _ H1 (Ge.refl _ _) m1 ((l.mono g1).set i r1)
end
end SI

namespace SI
open PySem PySem.Spec PyProof.Rows L2
section
variable {X : Cx} {W : WX} {a b c e : Expr} {f g h : F D} {t : F Bool} {fa : F (List D)} {es : List Expr} {pos : Pos} {st : Stmt} {sts : List Stmt} {u v : FS}
/-! ### + of every kind -/
def dAdd (s : S) (a b : D) : Option D := match a, b with
  | .int i, .int j => some (.int (i + j))
  | .str x, .str y => if x.length + y.length ≤ big then some (.str (x ++ y)) else none
  | .tup xs, .tup ys => if xs.length + ys.length ≤ big then some (.tup (xs ++ ys)) else none
  | .lst xs, .lst ys => if xs.length + ys.length ≤ big then some (.lst (xs ++ ys)) else none
  | .ref n, .lst ys => match s[n]? with
    | some (.lst xs) => if xs.length + ys.length ≤ big then some (.lst (xs ++ ys)) else none
    | _ => none
  | _, _ => none
theorem opl_add {K : PySem.W.Frag} : OpL K (fun x y H Q => rI0 (fun i j => .int (i + j)) x y H Q ∨ (∃ i j, x = .str i ∧ y = .str j ∧ i.length + j.length ≤ sizeLine ∧ Q (.str (i ++ j)) H) ∨ rCatA K x y H Q ∨ rCat x y H Q) dAdd := by
  intro mu s H a b d x y Q m ra rb e q
  unfold dAdd at e
  split at e
  · cases e
    exact .inl ⟨_, _, rel_int.mp ra, rel_int.mp rb, q mu H _ (Ge.refl _ _) m (rel_int.mpr rfl)⟩
  · split at e
    · rename_i hl
      cases e
      exact .inr (.inl ⟨_, _, rel_str.mp ra, rel_str.mp rb, big_le hl, q mu H _ (Ge.refl _ _) m (rel_str.mpr rfl)⟩)
    · cases e
  · split at e
    · rename_i xs ys hl
      cases e
      obtain ⟨p1, vs, e1, s1, r1⟩ := sq_tup ra
      obtain ⟨p2, ws, e2, s2, r2⟩ := sq_tup rb
      refine .inr (.inr (.inl ⟨p1, p2, vs, ws, e1, e2, s1, s2, by rw [← r1.length, ← r2.length]; exact big_le hl, fun z => ?_, fun _ z => ?_, fun _ _ p hp => ?_⟩))
      · subst z
        have e3 : xs = [] := List.length_eq_zero_iff.mp (by rw [r1.length]; rfl)
        subst e3
        rw [← e2]
        exact q mu H _ (Ge.refl _ _) m rb
      · subst z
        have e3 : ys = [] := List.length_eq_zero_iff.mp (by rw [r2.length]; rfl)
        subst e3
        rw [← e1]
        exact q mu H _ (Ge.refl _ _) m (by rw [List.append_nil]; exact ra)
      · exact q mu _ _ (Ge.pure m hp) (m.pure hp) (rel_tup m hp (r1.append r2))
    · cases e
  · split at e
    · rename_i xs ys hl
      cases e
      simp only [RelD] at ra rb
      obtain ⟨p1, vs, e1, s1, r1⟩ := ra
      obtain ⟨p2, ws, e2, s2, r2⟩ := rb
      exact .inr (.inr (.inr ⟨p1, p2, vs, ws, e1, e2, s1.1, s2.1, by rw [← r1.length, ← r2.length]; exact big_le hl, fun p hp => q mu _ _ (Ge.pure m hp) (m.pure hp) (rel_lst m hp (r1.append r2))⟩))
    · cases e
  · split at e
    · rename_i en
      split at e
      · rename_i hl
        cases e
        obtain ⟨p1, vs, e1, _, s1, r1⟩ := sq_ref m ra en
        simp only [RelD] at rb
        obtain ⟨p2, ws, e2, s2, r2⟩ := rb
        exact .inr (.inr (.inr ⟨p1, p2, vs, ws, e1, e2, s1, s2.1, by rw [← r1.length, ← r2.length]; exact big_le hl, fun p hp => q mu _ _ (Ge.pure m hp) (m.pure hp) (rel_lst m hp (r1.append r2))⟩))
      · cases e
    · cases e
  · cases e
theorem pE_add (ha : PE X a (tE X.K W f)) (hb : PE X b (tE X.K W g)) : PE X (.BinOp a .Add b pos) (tE X.K W (fOp dAdd f g)) := pE_op (op_add.or (op_add_str.or (op_catA.or op_cat))) opl_add ha hb
/-! * -/
def repD (k : Nat) (xs : List D) : List D := (List.replicate k xs).flatten
theorem rep_rel {K : PySem.W.Frag} {mu : Mu} {H : Hp} {xs : List D} {vs : List V} (r : RelDs K mu H xs vs) : ∀ k : Nat, RelDs K mu H (repD k xs) ((List.replicate k vs).flatten)
  | 0 => .nil
  | k + 1 => by
    unfold repD
    rw [List.replicate_succ, List.replicate_succ, List.flatten_cons, List.flatten_cons]
    exact r.append (rep_rel r k)
def dMul (s : S) (a b : D) : Option D := match a, b with
  | .int i, .int j => if mulOk i j = true then some (.int (i * j)) else none
  | .lst xs, .int k => if k < 2 ^ 40 ∧ -(2 ^ 40) < k ∧ xs.length * k.toNat ≤ big then some (.lst (repD k.toNat xs)) else none
  | _, _ => none
theorem opl_mul {K : PySem.W.Frag} : OpL K (fun x y H Q => rI MulP (fun i j => .int (i * j)) x y H Q ∨ rRep x y H Q) dMul := by
  intro mu s H a b d x y Q m ra rb e q
  unfold dMul at e
  split at e
  · split at e
    · rename_i i j hm
      cases e
      have h2 : MulP i j := by
        unfold mulOk at hm
        have h3 := of_decide_eq_true hm
        exact h3
      exact .inl ⟨_, _, rel_int.mp ra, rel_int.mp rb, h2, q mu H _ (Ge.refl _ _) m (rel_int.mpr rfl)⟩
    · cases e
  · split at e
    · rename_i xs k hl
      cases e
      simp only [RelD] at ra
      obtain ⟨p1, vs, e1, s1, r1⟩ := ra
      refine .inr ⟨p1, k, vs, e1, rel_int.mp rb, s1.1, by omega, by omega, by rw [← r1.length]; exact big_le hl.2.2, fun p hp => ?_⟩
      exact q mu _ _ (Ge.pure m hp) (m.pure hp) (rel_lst m hp (rep_rel r1 _))
    · cases e
  · cases e
theorem pE_mul (ha : PE X a (tE X.K W f)) (hb : PE X b (tE X.K W g)) : PE X (.BinOp a .Mult b pos) (tE X.K W (fOp dMul f g)) := pE_op (op_mulX.or op_rep) opl_mul ha hb
/-! -x -/
def fNeg (f : F D) : F D := fun L s => (f L s).bind fun d s1 => match d with
  | .int i => .ok (.int (-i)) s1
  | _ => .bad
theorem pE_neg (ha : PE X a (tE X.K W f)) : PE X (.UnaryOp .USub a pos) (tE X.K W (fNeg f)) := by
  refine PE.weak (pe_un un_neg ha) fun σ H Q ⟨mu, s, L, m, l, p⟩ => ⟨mu, s, L, m, l, Post.step p fun d s1 mu1 H1 v1 g1 m1 r1 p1 => ?_⟩
  cases d <;> try exact p1.elim
  exact ⟨_, rel_int.mp r1, p1 mu1 H1 _ (Ge.refl _ _) m1 (rel_int.mpr rfl)⟩
/-! max, min of two, abs -/
def bMax (_ : S) : List D → Option D
  | [.int i, .int j] => some (.int (if j > i then j else i))
  | _ => none
def bMin (_ : S) : List D → Option D
  | [.int i, .int j] => some (.int (if j < i then j else i))
  | _ => none
def bAbs (_ : S) : List D → Option D
  | [.int i] => some (.int (if i < 0 then -i else i))
  | _ => none
theorem cbl_max {K : PySem.W.Frag} : CbL K (fun xs H Q => ∃ i j, xs = [.int i, .int j] ∧ Q (.int (if j > i then j else i)) H) bMax := by
  intro mu s H ds d vs Q m r e q
  unfold bMax at e
  split at e
  · cases e
    obtain ⟨v1, v2, rfl, r1, r2⟩ := rel2 r
    exact ⟨_, _, by rw [rel_int.mp r1, rel_int.mp r2], q mu H _ (Ge.refl _ _) m (rel_int.mpr rfl)⟩
  · cases e
theorem cbl_min {K : PySem.W.Frag} : CbL K (fun xs H Q => ∃ i j, xs = [.int i, .int j] ∧ Q (.int (if j < i then j else i)) H) bMin := by
  intro mu s H ds d vs Q m r e q
  unfold bMin at e
  split at e
  · cases e
    obtain ⟨v1, v2, rfl, r1, r2⟩ := rel2 r
    exact ⟨_, _, by rw [rel_int.mp r1, rel_int.mp r2], q mu H _ (Ge.refl _ _) m (rel_int.mpr rfl)⟩
  · cases e
theorem cbl_abs {K : PySem.W.Frag} : CbL K (fun xs H Q => ∃ i, xs = [.int i] ∧ Q (.int (if i < 0 then -i else i)) H) bAbs := by
  intro mu s H ds d vs Q m r e q
  unfold bAbs at e
  split at e
  · cases e
    obtain ⟨v1, rfl, r1⟩ := rel1 r
    exact ⟨_, by rw [rel_int.mp r1], q mu H _ (Ge.refl _ _) m (rel_int.mpr rfl)⟩
  · cases e
theorem pE_max {e2 : Expr} {p : Pos} (hc : X.calm = true) (hm : X.mg "max" = none) (ha : PA X [e, e2] (tA X.K W fa)) (hg : Gl X "max" := by rfl) (he : starEach [e, e2] X.env = (false, eval e X.env) :: starEach [e2] X.env := by rfl) (hpl : (backTo pos (starEach [e2] X.env)).any (·.1) = false := by rfl) :
    PE X (.Call (.Name "max" p) [e, e2] [] pos) (tE X.K W (fCB bMax fa)) := pE_cb (call_max2 hc) cbl_max hm (by decide +kernel) ha hg (by decide) (by decide) he hpl
theorem pE_min {e2 : Expr} {p : Pos} (hc : X.calm = true) (hm : X.mg "min" = none) (ha : PA X [e, e2] (tA X.K W fa)) (hg : Gl X "min" := by rfl) (he : starEach [e, e2] X.env = (false, eval e X.env) :: starEach [e2] X.env := by rfl) (hpl : (backTo pos (starEach [e2] X.env)).any (·.1) = false := by rfl) :
    PE X (.Call (.Name "min" p) [e, e2] [] pos) (tE X.K W (fCB bMin fa)) := pE_cb (call_min2 hc) cbl_min hm (by decide +kernel) ha hg (by decide) (by decide) he hpl
theorem pE_abs {p : Pos} (hm : X.mg "abs" = none) (ha : PA X [e] (tA X.K W fa)) (hg : Gl X "abs" := by rfl) (he : starEach [e] X.env = (false, eval e X.env) :: starEach [] X.env := by rfl) :
    PE X (.Call (.Name "abs" p) [e] [] pos) (tE X.K W (fCB bAbs fa)) := pE_cb call_abs cbl_abs hm (by decide +kernel) ha hg (by decide) (by decide) he rfl
/-! list(..), tuple(..) -/
def bList (s : S) : List D → Option D
  | [d] => (seqOf s d).map .lst
  | _ => none
def bTuple (s : S) : List D → Option D
  | [.tup xs] => some (.tup xs)
  | [d] => (lstOf s d).map .tup
  | _ => none
theorem cbl_list {K : PySem.W.Frag} : CbL K (fun xs H Q => ∃ p ys, xs = [.ref p] ∧ (SqL K H p ys ∨ SqT K H p ys) ∧ ∀ l, H l = none → Q (.ref l) (upd H l (.lst ys))) bList := by
  intro mu s H ds d vs Q m r e q
  rcases ds with _ | ⟨d1, _ | ⟨d2, ds⟩⟩
  · cases e
  · obtain ⟨v, rfl, r1⟩ := rel1 r
    simp only [bList] at e
    cases es : seqOf s d1 with
    | none =>
      rw [es] at e
      cases e
    | some xs =>
      rw [es] at e
      cases e
      obtain ⟨p, ys, ev, sq, rs⟩ := sq_seqOf m r1 es
      exact ⟨p, ys, by rw [ev], sq, fun l hl => q mu _ _ (Ge.pure m hl) (m.pure hl) (rel_lst m hl rs)⟩
  · cases e
theorem pE_list {p : Pos} (hm : X.mg "list" = none) (ha : PA X [e] (tA X.K W fa)) (hg : Gl X "list" := by rfl) (he : starEach [e] X.env = (false, eval e X.env) :: starEach [] X.env := by rfl) :
    PE X (.Call (.Name "list" p) [e] [] pos) (tE X.K W (fCB bList fa)) := pE_cty call_list_of cbl_list hm (by decide +kernel) ha hg (by decide) (by decide) he rfl
/-- list(..) that will be changed -/
def fListT (fa : F (List D)) : F D := fun L s => (fa L s).bind fun ds s1 => match ds with
  | [d] => match seqOf s1 d with
    | some xs => .ok (.ref s1.length) (s1 ++ [.lst xs])
    | none => .bad
  | _ => .bad
theorem pE_listT {p : Pos} (hm : X.mg "list" = none) (ha : PA X [e] (tA X.K W fa)) (hg : Gl X "list" := by rfl) (he : starEach [e] X.env = (false, eval e X.env) :: starEach [] X.env := by rfl) :
    PE X (.Call (.Name "list" p) [e] [] pos) (tE X.K W (fListT fa)) := by
  refine PE.weak (pe_callTy call_list_of hg hm (by decide +kernel) ha (by decide) (by decide) he rfl) fun σ H Q ⟨mu, s, L, m, l, p⟩ => ⟨mu, s, L, m, l, Post.step p fun ds s1 mu1 H1 v1 g1 m1 r1 p1 => ?_⟩
  rcases ds with _ | ⟨d1, _ | ⟨d2, ds⟩⟩
  · exact p1.elim
  · obtain ⟨v, rfl, r1'⟩ := rel1 r1
    dsimp only at p1
    cases es : seqOf s1 d1 with
    | none =>
      rw [es] at p1
      exact p1.elim
    | some xs =>
      rw [es] at p1
      obtain ⟨q, ys, ev, sq, rs⟩ := sq_seqOf m1 r1' es
      exact ⟨q, ys, by rw [ev], sq, fun l hl => p1 _ _ _ (Ge.track m1 hl) (m1.track hl ⟨ys, upd_same, rs.mono (Ge.track m1 hl)⟩) (rel_ref_last m1)⟩
  · exact p1.elim
theorem cbl_tuple {K : PySem.W.Frag} : CbL K (fun xs H Q => ∃ p ys, xs = [.ref p] ∧ ((SqL K H p ys ∧ ∀ l, H l = none → Q (.ref l) (upd H l (.tup ys))) ∨ (SqT K H p ys ∧ Q (.ref p) H))) bTuple := by
  intro mu s H ds d vs Q m r e q
  rcases ds with _ | ⟨d1, _ | ⟨d2, ds⟩⟩
  · cases e
  · obtain ⟨v, rfl, r1⟩ := rel1 r
    unfold bTuple at e
    split at e
    · rename_i xs heq
      cases heq
      cases e
      obtain ⟨p, ys, ev, sq, rs⟩ := sq_tup r1
      refine ⟨p, ys, by rw [ev], .inr ⟨sq, ?_⟩⟩
      rw [← ev]
      exact q mu H _ (Ge.refl _ _) m r1
    · rename_i heq
      cases heq
      cases es : lstOf s d1 with
      | none =>
        rw [es] at e
        cases e
      | some xs =>
        rw [es] at e
        cases e
        obtain ⟨p, ys, ev, sq, rs⟩ := sq_lstOf m r1 es
        exact ⟨p, ys, by rw [ev], .inl ⟨sq, fun l hl => q mu _ _ (Ge.pure m hl) (m.pure hl) (rel_tup m hl rs)⟩⟩
    · cases e
  · unfold bTuple at e
    split at e <;> first | (rename_i heq; cases heq) | cases e
theorem pE_tuple {p : Pos} (hm : X.mg "tuple" = none) (ha : PA X [e] (tA X.K W fa)) (hg : Gl X "tuple" := by rfl) (he : starEach [e] X.env = (false, eval e X.env) :: starEach [] X.env := by rfl) :
    PE X (.Call (.Name "tuple" p) [e] [] pos) (tE X.K W (fCB bTuple fa)) := pE_cty call_tuple_of cbl_tuple hm (by decide +kernel) ha hg (by decide) (by decide) he rfl
/-! {} that is not changed -/
def fDict0 : F D := fun _ s => .ok (.dk [] []) s
theorem pE_dict0 : PE X (.Dict [] [] pos) (tE X.K W fDict0) := by
  refine PE.weak pe_dnewK fun σ H Q ⟨mu, s, L, m, l, p⟩ => ?_
  intro d hd
  refine p mu _ _ (Ge.pure m hd) (m.pure hd) ?_
  simp only [RelD]
  exact ⟨d, [], rfl, ⟨upd_same, m.fresh hd⟩, rfl, .nil⟩
theorem dc_dLt {K : PySem.W.Frag} : OpL K (rI0 fun i j => .bl (decide (i < j))) dLt := opl_I0 fun _ _ _ _ => by simp only [RelD]
theorem dc_dLe {K : PySem.W.Frag} : OpL K (rI0 fun i j => .bl (decide (i ≤ j))) dLe := opl_I0 fun _ _ _ _ => by simp only [RelD]
theorem dc_dGt {K : PySem.W.Frag} : OpL K (rI0 fun i j => .bl (decide (j < i))) dGt := opl_I0 fun _ _ _ _ => by simp only [RelD]
theorem dc_dGe {K : PySem.W.Frag} : OpL K (rI0 fun i j => .bl (decide (j ≤ i))) dGe := opl_I0 fun _ _ _ _ => by simp only [RelD]
theorem pE_chainI {op op' : CmpOp} {r r' : R2} {o o' : S → D → D → Option D} {h : F D} (ho : OpR X (compareOp op) r) (ho' : OpR X (compareOp op') r') (hl : OpL X.K r o) (hl' : OpL X.K r' o') (ha : PE X a (tE X.K W f)) (hb : PE X b (tE X.K W g)) (hc : PE X c (tE X.K W h))
    (hm : lastMarks [op, op'] [b, c] = false := by with_unfolding_all rfl) : PE X (.Compare a [op, op'] [b, c] pos) (tE X.K W (fChain o o' f g h)) := pE_chain ho ho' hl hl' ha hb hc (pe_chain ho ho' ha hb hc hm)
/-! ### comparisons as tests -/
theorem weak_tst (σ : L2.St) (H : Hp) (Q : Bool → Hp → Prop) {te : TE} (hw : ∀ σ H Q, tE X.K W f σ H Q → te σ H Q) (hq : tT X.K W (fTst f) σ H Q) : tTest te σ H Q := by
  obtain ⟨mu, s, L, m, l, p⟩ := hq
  refine hw σ H _ ⟨mu, s, L, m, l, Post.step p fun d1 s1 mu1 H1 v1 g1 m1 r1 p1 => ?_⟩
  cases d1 <;> try exact p1.elim
  rename_i bb
  exact ⟨bb, rel_bl.mp r1, p1 mu1 H1 _ (Ge.refl _ _) m1 rfl⟩
theorem pT_cmp {op : CmpOp} {r : R2} {o : S → D → D → Option D} (ho : OpR X (compareOp op) r) (hl : OpL X.K r o) (ha : PE X a (tE X.K W f)) (hb : PE X b (tE X.K W g)) (hm : behindInMarks op b = false := by first | exact nomark _ | rfl) :
    PT X (.Compare a [op] [b] pos) (tT X.K W (fTst (fOp o f g))) :=
  PT.weak (pt_cmpR ho ha hb hm) fun σ H Q q => weak_tst σ H Q (fun σ H Q q => weak_op hl σ H Q q) q
theorem pT_lt (ha : PE X a (tE X.K W f)) (hb : PE X b (tE X.K W g)) : PT X (.Compare a [.Lt] [b] pos) (tT X.K W (fTst (fOp dLt f g))) := pT_cmp op_lt dc_dLt ha hb
theorem pT_le (ha : PE X a (tE X.K W f)) (hb : PE X b (tE X.K W g)) : PT X (.Compare a [.LtE] [b] pos) (tT X.K W (fTst (fOp dLe f g))) := pT_cmp op_le dc_dLe ha hb
theorem pT_gt (ha : PE X a (tE X.K W f)) (hb : PE X b (tE X.K W g)) : PT X (.Compare a [.Gt] [b] pos) (tT X.K W (fTst (fOp dGt f g))) := pT_cmp op_gt dc_dGt ha hb
theorem pT_ge (ha : PE X a (tE X.K W f)) (hb : PE X b (tE X.K W g)) : PT X (.Compare a [.GtE] [b] pos) (tT X.K W (fTst (fOp dGe f g))) := pT_cmp op_ge dc_dGe ha hb
theorem pT_eq {k : Nat} (hr : Room k X.A) (ha : PE X a (tE X.K W f)) (hb : PE X b (tE X.K W g)) : PT X (.Compare a [.Eq] [b] pos) (tT X.K W (fTst (fOp (dEqD false) f g))) := pT_cmp (op_eqD hr.units) opl_eqD ha hb
theorem pT_ne {k : Nat} (hr : Room k X.A) (ha : PE X a (tE X.K W f)) (hb : PE X b (tE X.K W g)) : PT X (.Compare a [.NotEq] [b] pos) (tT X.K W (fTst (fOp (dEqD true) f g))) := pT_cmp (op_neD hr.units) opl_neD ha hb
theorem pT_is (ha : PE X a (tE X.K W f)) (hb : PE X b (tE X.K W g)) : PT X (.Compare a [.Is] [b] pos) (tT X.K W (fTst (fOp (dIs false) f g))) := pT_cmp (op_isN.or op_is_bl) opl_is ha hb
theorem pT_isnot (ha : PE X a (tE X.K W f)) (hb : PE X b (tE X.K W g)) : PT X (.Compare a [.IsNot] [b] pos) (tT X.K W (fTst (fOp (dIs true) f g))) := pT_cmp (op_notN.or op_isnot_bl) opl_isnot ha hb
theorem pE_eqO {k : Nat} {C fA : Addr} {fd : FuncData} {ps : List Str} {G : List D → S → R D} (T : InsTxt X.K C) (Fo : FnOk X.prog X.w X.K X.mg X.base (L2.CX X.prog X.w) k fA fd ps (spI X.K 2 G)) (hr : Room k X.A) (hb : Binds X.K fd ps [])
    (hs : PySem.W.findIn X.K (.ref C) "__eq__" = some (some (.ref fA))) (hf : PySem.W.isFn X.K (.ref fA) = true) (ha : PE X a (tE X.K W f)) (hb' : PE X b (tE X.K W g)) : PE X (.Compare a [.Eq] [b] pos) (tE X.K W (fOp (dEqO C G) f g)) :=
  pE_cmp ((op_eqO Fo hr hb hs hf).or (op_eqD hr.units)) (opl_eqO T) ha hb'
theorem pT_eqO {k : Nat} {C fA : Addr} {fd : FuncData} {ps : List Str} {G : List D → S → R D} (T : InsTxt X.K C) (Fo : FnOk X.prog X.w X.K X.mg X.base (L2.CX X.prog X.w) k fA fd ps (spI X.K 2 G)) (hr : Room k X.A) (hb : Binds X.K fd ps [])
    (hs : PySem.W.findIn X.K (.ref C) "__eq__" = some (some (.ref fA))) (hf : PySem.W.isFn X.K (.ref fA) = true) (ha : PE X a (tE X.K W f)) (hb' : PE X b (tE X.K W g)) : PT X (.Compare a [.Eq] [b] pos) (tT X.K W (fTst (fOp (dEqO C G) f g))) :=
  pT_cmp ((op_eqO Fo hr hb hs hf).or (op_eqD hr.units)) (opl_eqO T) ha hb'
theorem weak_chain {r r' : R2} {o o' : S → D → D → Option D} (hl : OpL X.K r o) (hl' : OpL X.K r' o') (σ : L2.St) (H : Hp) (Q : VK) (hq : tE X.K W (fChain o o' f g h) σ H Q) : tChain r r' (tE X.K W f) (tE X.K W g) (tE X.K W h) σ H Q := by
  obtain ⟨mu, s, L, m, l, p⟩ := hq
  refine ⟨mu, s, L, m, l, Post.step p fun d1 s1 mu1 H1 v1 g1 m1 r1 p1 => ?_⟩
  refine ⟨mu1, s1, L, m1, l.mono g1, Post.step p1 fun d2 s2 mu2 H2 v2 g2 m2 r2 p2 => ?_⟩
  cases eo : o s2 d1 d2 with
  | none =>
    rw [eo] at p2
    exact p2.elim
  | some d =>
    rw [eo] at p2
    refine hl mu2 s2 H2 d1 d2 d v1 v2 _ m2 (r1.mono g2) r2 eo fun mu' H' v g' m' r' => ?_
    cases d <;> try exact p2.elim
    rename_i bb
    have ev := rel_bl.mp r'
    refine ⟨bb, ev, ?_⟩
    cases bb with
    | false => exact p2 mu' H' _ g' m' (rel_bl.mpr rfl)
    | true =>
      show tE X.K W h σ H' _
      refine ⟨mu', s2, L, m', ((l.mono g1).mono g2).mono g', Post.step (Post.ge g' p2) fun d3 s3 mu3 H3 v3 g3 m3 r3 p3 => ?_⟩
      cases eo' : o' s3 d2 d3 with
      | none =>
        rw [eo'] at p3
        exact p3.elim
      | some d =>
        rw [eo'] at p3
        exact hl' mu3 s3 H3 d2 d3 d v2 v3 Q m3 ((r2.mono g').mono g3) r3 eo' fun mu4 H4 v4 g4 m4 r4 => p3 mu4 H4 v4 g4 m4 r4
theorem pT_chainI {op op' : CmpOp} {r r' : R2} {o o' : S → D → D → Option D} {h : F D} (ho : OpR X (compareOp op) r) (ho' : OpR X (compareOp op') r') (hl : OpL X.K r o) (hl' : OpL X.K r' o') (ha : PE X a (tE X.K W f)) (hb : PE X b (tE X.K W g)) (hc : PE X c (tE X.K W h))
    (hm : lastMarks [op, op'] [b, c] = false := by with_unfolding_all rfl) : PT X (.Compare a [op, op'] [b, c] pos) (tT X.K W (fTst (fChain o o' f g h))) :=
  PT.weak (pt_chain ho ho' ha hb hc hm) fun σ H Q q => weak_tst σ H Q (fun σ H Q q => weak_chain hl hl' σ H Q q) q
/-! ### defs that leave the store as it was -/
/-- an own tracked object in an answer becomes one that is not changed any more -/
def finS (n : Nat) (s : S) (d : D) : Option D := match d with
  | .ref i => if i < n then some (.ref i) else (match s[i]? with
    | some (.lst xs) => if D.bels n xs = true then some (.lst xs) else none
    | some (.dk ks vs) => if D.bels n vs = true then some (.dk ks vs) else none
    | some (.dt ks vs) => if D.bels n vs = true then some (.dt ks vs) else none
    | some (.ins C fs vs) => if D.bels n vs = true then some (.ins C fs vs) else none
    | _ => none)
  | d => if D.bel n d = true then some d else none
def finsS (n : Nat) (s : S) : List D → Option (List D)
  | [] => some []
  | x :: xs => match finS n s x, finsS n s xs with
    | some y, some ys => some (y :: ys)
    | _, _ => none
def fin2 (n : Nat) (s : S) (d : D) : Option D := match d with
  | .tup xs => (finsS n s xs).map .tup
  | .ref i => if i < n then some (.ref i) else (match s[i]? with
    | some (.lst xs) => (finsS n s xs).map .lst
    | _ => finS n s (.ref i))
  | d => finS n s d
theorem not_live_cut {K : PySem.W.Frag} {mu : Mu} {s : S} {H : Hp} {n i : Nat} {a : Addr} (m : Sim K mu s H) (h : mu[i]? = some (some a)) (hi : ¬ i < n) : ¬ Live (mu.take n) a := fun z => by
  obtain ⟨j, ej⟩ := live_iff.mp z
  rw [List.getElem?_take] at ej
  split at ej
  · have := m.inj j i a ej h
    omega
  · cases ej
theorem finS_ok {K : PySem.W.Frag} {mu : Mu} {s : S} {H : Hp} {n : Nat} {d d' : D} {v : V} (m : Sim K mu s H) (r : RelD K mu H d v) (e : finS n s d = some d') : RelD K (mu.take n) H d' v := by
  unfold finS at e
  split at e
  · rename_i i
    split at e
    · rename_i hi
      cases e
      exact r.cut _ _ (by simp only [D.bel, decide_eq_true_eq]; exact hi)
    · rename_i hi
      simp only [RelD] at r
      obtain ⟨a, ea, rfl⟩ := r
      have nl := not_live_cut m ea hi
      split at e
      · rename_i xs hs
        split at e
        · rename_i hb
          cases e
          rcases m.obj i _ hs with z | ⟨b, eb, ro⟩
          · cases z
          · rw [ea] at eb
            cases eb
            obtain ⟨vs, h1, h2⟩ := ro
            simp only [RelD]
            exact ⟨a, vs, rfl, ⟨h1, nl⟩, h2.cut _ _ hb⟩
        · cases e
      · rename_i ks xs hs
        split at e
        · rename_i hb
          cases e
          rcases m.obj i _ hs with z | ⟨b, eb, ro⟩
          · cases z
          · rw [ea] at eb
            cases eb
            obtain ⟨vs, h1, h3, h2⟩ := ro
            simp only [RelD]
            exact ⟨a, vs, rfl, ⟨h1, nl⟩, h3, h2.cut _ _ hb⟩
        · cases e
      · rename_i ks xs hs
        split at e
        · rename_i hb
          cases e
          rcases m.obj i _ hs with z | ⟨b, eb, ro⟩
          · cases z
          · rw [ea] at eb
            cases eb
            obtain ⟨vs, h1, h3, h2⟩ := ro
            simp only [RelD]
            exact ⟨a, vs, rfl, ⟨h1, nl⟩, h3, h2.cut _ _ hb⟩
        · cases e
      · rename_i C fs xs hs
        split at e
        · rename_i hb
          cases e
          rcases m.obj i _ hs with z | ⟨b, eb, ro⟩
          · cases z
          · rw [ea] at eb
            cases eb
            obtain ⟨dx, vs, h1, h3, h2⟩ := ro
            simp only [RelD]
            exact ⟨a, dx, vs, rfl, h1, nl, h3, h2.cut _ _ hb⟩
        · cases e
      · cases e
  · split at e
    · rename_i hb
      cases e
      exact r.cut _ _ hb
    · cases e
theorem finsS_ok {K : PySem.W.Frag} {mu : Mu} {s : S} {H : Hp} {n : Nat} (m : Sim K mu s H) : ∀ {ds ds' : List D} {vs : List V}, RelDs K mu H ds vs → finsS n s ds = some ds' → RelDs K (mu.take n) H ds' vs
  | [], ds', vs, r, e => by
    cases e
    simp only [RelDs] at r
    subst r
    exact .nil
  | d :: ds, ds', vs, r, e => by
    simp only [RelDs] at r
    obtain ⟨v, vr, rfl, r1, r2⟩ := r
    simp only [finsS] at e
    cases e1 : finS n s d with
    | none =>
      rw [e1] at e
      cases e
    | some y =>
      cases e2 : finsS n s ds with
      | none =>
        rw [e1, e2] at e
        cases e
      | some ys =>
        rw [e1, e2] at e
        cases e
        exact .cons (finS_ok m r1 e1) (finsS_ok m r2 e2)
theorem fin2_ok {K : PySem.W.Frag} {mu : Mu} {s : S} {H : Hp} {n : Nat} {d d' : D} {v : V} (m : Sim K mu s H) (r : RelD K mu H d v) (e : fin2 n s d = some d') : RelD K (mu.take n) H d' v := by
  unfold fin2 at e
  split at e
  · rename_i xs
    cases e1 : finsS n s xs with
    | none =>
      rw [e1] at e
      cases e
    | some ys =>
      rw [e1] at e
      cases e
      simp only [RelD] at r ⊢
      obtain ⟨a, vs, h1, h2, h3⟩ := r
      exact ⟨a, vs, h1, h2.imp id Fix.cut, finsS_ok m h3 e1⟩
  · rename_i i
    split at e
    · rename_i hi
      cases e
      exact r.cut _ _ (by simp only [D.bel, decide_eq_true_eq]; exact hi)
    · rename_i hi
      split at e
      · rename_i xs hs
        cases e1 : finsS n s xs with
        | none =>
          rw [e1] at e
          cases e
        | some ys =>
          rw [e1] at e
          cases e
          obtain ⟨a, vs, ev, ea, eh, rs⟩ := sq_ref m r hs
          simp only [RelD]
          exact ⟨a, vs, ev, ⟨eh, not_live_cut m ea hi⟩, finsS_ok m rs e1⟩
      · exact finS_ok m r e
  · exact finS_ok m r e
/-- the store behind the def is the one ahead of it -/
def pureF (G : List D → S → R D) : List D → S → R D := fun ds s => match G ds s with
  | .ok d s' => if s'.take s.length = s then (match fin2 s.length s' d with
    | some d' => .ok d' s
    | none => .bad) else .bad
  | .ex C fs vs s' => if s'.take s.length = s ∧ D.bels s.length vs = true then .ex C fs vs s else .bad
  | .bad => .bad
/-- .. or has changed, but for the def's own objects -/
def cutF (G : List D → S → R D) : List D → S → R D := fun ds s => match G ds s with
  | .ok d s' => if (s'.take s.length).all (O.bel s.length) = true then (match fin2 s.length s' d with
    | some d' => .ok d' (s'.take s.length)
    | none => .bad) else .bad
  | .ex C fs vs s' => if (s'.take s.length).all (O.bel s.length) = true ∧ D.bels s.length vs = true then .ex C fs vs (s'.take s.length) else .bad
  | .bad => .bad
theorem xr_cut {K : PySem.W.Frag} {mu : Mu} {H : Hp} {n : Nat} {fs : List Str} {vs : List D} {od : Option Addr} (x : XR K mu H fs vs od) (hb : D.bels n vs = true) : XR K (mu.take n) H fs vs od := by
  rcases x with x | ⟨d2, vs2, e2, h2, n2, l2, rr2⟩
  · exact .inl x
  · exact .inr ⟨d2, vs2, e2, h2, not_live_take n2, l2, rr2.cut _ _ hb⟩
theorem spI_pure {K : PySem.W.Frag} {n : Nat} {G : List D → S → R D} (vs : List V) (H : Hp) (Q : VK) (E : XK) (h : spI K n (pureF G) vs H Q E) : spI K n G vs H Q E := by
  obtain ⟨mu, s, ds, m, r, hn, p⟩ := h
  refine ⟨mu, s, ds, m, r, hn, ?_⟩
  unfold pureF at p
  have back : ∀ {mu2 : Mu} {s2 : S} {H2 : Hp}, Ge mu H mu2 H2 → Sim K mu2 s2 H2 → s2.take s.length = s → Ge mu H (mu2.take s.length) H2 ∧ Sim K (mu2.take s.length) s H2 := fun {mu2 s2 H2} g2 m2 e => by
    refine ⟨?_, ?_⟩
    · have z := g2.back
      rw [m.len] at z
      exact z
    · have z := m2.back (n := s.length) (by rw [e]; exact fun o ho => m.below ho)
      rw [e] at z
      exact z
  cases eg : G ds s with
  | bad =>
    rw [eg] at p
    exact p.elim
  | ex C fs vs s' =>
    rw [eg] at p
    dsimp only at p
    split at p
    · rename_i hc
      intro mu2 H2 od g2 m2 x2
      obtain ⟨g3, m3⟩ := back g2 m2 hc.1
      exact p _ H2 od g3 m3 (xr_cut x2 hc.2)
    · exact p.elim
  | ok d s' =>
    rw [eg] at p
    dsimp only at p
    split at p
    · rename_i hc
      cases ef : fin2 s.length s' d with
      | none =>
        rw [ef] at p
        exact p.elim
      | some d' =>
        rw [ef] at p
        intro mu2 H2 v g2 m2 r2
        obtain ⟨g3, m3⟩ := back g2 m2 hc
        exact p _ H2 v g3 m3 (fin2_ok m2 r2 ef)
    · exact p.elim
theorem spI_cut {K : PySem.W.Frag} {n : Nat} {G : List D → S → R D} (vs : List V) (H : Hp) (Q : VK) (E : XK) (h : spI K n (cutF G) vs H Q E) : spI K n G vs H Q E := by
  obtain ⟨mu, s, ds, m, r, hn, p⟩ := h
  refine ⟨mu, s, ds, m, r, hn, ?_⟩
  unfold cutF at p
  have back : ∀ {mu2 : Mu} {s2 : S} {H2 : Hp}, Ge mu H mu2 H2 → Sim K mu2 s2 H2 → (s2.take s.length).all (O.bel s.length) = true → Ge mu H (mu2.take s.length) H2 ∧ Sim K (mu2.take s.length) (s2.take s.length) H2 := fun {mu2 s2 H2} g2 m2 e => by
    refine ⟨?_, m2.back fun o ho => List.all_eq_true.mp e o ho⟩
    have z := g2.back
    rw [m.len] at z
    exact z
  cases eg : G ds s with
  | bad =>
    rw [eg] at p
    exact p.elim
  | ex C fs vs s' =>
    rw [eg] at p
    dsimp only at p
    split at p
    · rename_i hc
      intro mu2 H2 od g2 m2 x2
      obtain ⟨g3, m3⟩ := back g2 m2 hc.1
      exact p _ H2 od g3 m3 (xr_cut x2 hc.2)
    · exact p.elim
  | ok d s' =>
    rw [eg] at p
    dsimp only at p
    split at p
    · rename_i hc
      cases ef : fin2 s.length s' d with
      | none =>
        rw [ef] at p
        exact p.elim
      | some d' =>
        rw [ef] at p
        intro mu2 H2 v g2 m2 r2
        obtain ⟨g3, m3⟩ := back g2 m2 hc
        exact p _ H2 v g3 m3 (fin2_ok m2 r2 ef)
    · exact p.elim
end
end SI

namespace SI
open PySem L2
/-! ### evaluation, step by step -/
@[simp] theorem R_bind_ok {α β : Type} (a : α) (s : S) (k : α → S → R β) : (R.ok a s).bind k = k a s := rfl
@[simp] theorem R_bind_ex {α β : Type} (C : Addr) (fs : List Str) (vs : List D) (s : S) (k : α → S → R β) : (R.ex C fs vs s).bind k = .ex C fs vs s := rfl
@[simp] theorem R_bindS_ok {α : Type} (L : Lc) (a : α) (s : S) (k : α → S → RS) : (R.ok a s).bindS L k = k a s := rfl
@[simp] theorem R_bindS_ex {α : Type} (L : Lc) (C : Addr) (fs : List Str) (vs : List D) (s : S) (k : α → S → RS) : (R.ex (α := α) C fs vs s).bindS L k = .ex C fs vs L s := rfl
@[simp] theorem RS_bind_nx (L : Lc) (s : S) (k : Lc → S → RS) : (RS.nx L s).bind k = k L s := rfl
@[simp] theorem RS_bind_rt (d : D) (s : S) (k : Lc → S → RS) : (RS.rt d s).bind k = .rt d s := rfl
@[simp] theorem RS_bind_ex (C : Addr) (fs : List Str) (vs : List D) (L : Lc) (s : S) (k : Lc → S → RS) : (RS.ex C fs vs L s).bind k = .ex C fs vs L s := rfl
@[simp] theorem RS_bind_bk (L : Lc) (s : S) (k : Lc → S → RS) : (RS.bk L s).bind k = .bk L s := rfl
@[simp] theorem RS_bind_ct (L : Lc) (s : S) (k : Lc → S → RS) : (RS.ct L s).bind k = .ct L s := rfl
@[simp] theorem sSeq_eq (u v : FS) (L : Lc) (s : S) : sSeq u v L s = (u L s).bind v := rfl
@[simp] theorem sNext_eq (L : Lc) (s : S) : sNext L s = .nx L s := rfl
@[simp] theorem sAsg_eq (i : Nat) (f : F D) (L : Lc) (s : S) : sAsg i f L s = (f L s).bindS L fun d s1 => .nx (L.set i (some d)) s1 := rfl
@[simp] theorem sExpr_eq (f : F D) (L : Lc) (s : S) : sExpr f L s = (f L s).bindS L fun _ s1 => .nx L s1 := rfl
@[simp] theorem sRet_eq (f : F D) (L : Lc) (s : S) : sRet f L s = (f L s).bindS L fun d s1 => .rt d s1 := rfl
@[simp] theorem sRetN_eq (L : Lc) (s : S) : sRetN L s = .rt .non s := rfl
@[simp] theorem sIf_eq (t : F Bool) (u v : FS) (L : Lc) (s : S) : sIf t u v L s = (t L s).bindS L fun b s1 => if b = true then u L s1 else v L s1 := rfl
@[simp] theorem sBreak_eq (L : Lc) (s : S) : sBreak L s = .bk L s := rfl
@[simp] theorem sCont_eq (L : Lc) (s : S) : sCont L s = .ct L s := rfl
@[simp] theorem fC_eq (d : D) (L : Lc) (s : S) : fC d L s = .ok d s := rfl
@[simp] theorem fOp_eq (o : S → D → D → Option D) (f g : F D) (L : Lc) (s : S) : fOp o f g L s = (f L s).bind fun a s1 => (g L s1).bind fun b s2 => match o s2 a b with
  | some d => .ok d s2
  | none => .bad := rfl
@[simp] theorem fNotV_eq (f : F D) (L : Lc) (s : S) : fNotV f L s = (f L s).bind fun a s1 => match a with
  | .bl b => .ok (.bl (!b)) s1
  | _ => .bad := rfl
@[simp] theorem fAndV_eq (f g : F D) (L : Lc) (s : S) : fAndV f g L s = (f L s).bind fun a s1 => match a with
  | .bl true => g L s1
  | .bl false => .ok (.bl false) s1
  | _ => .bad := rfl
@[simp] theorem fOrV_eq (f g : F D) (L : Lc) (s : S) : fOrV f g L s = (f L s).bind fun a s1 => match a with
  | .bl true => .ok (.bl true) s1
  | .bl false => g L s1
  | _ => .bad := rfl
@[simp] theorem fTst_eq (f : F D) (L : Lc) (s : S) : fTst f L s = (f L s).bind fun a s1 => match a with
  | .bl b => .ok b s1
  | _ => .bad := rfl
@[simp] theorem fNot_eq (t : F Bool) (L : Lc) (s : S) : fNot t L s = (t L s).bind fun b s1 => .ok (!b) s1 := rfl
@[simp] theorem fAnd_eq (t u : F Bool) (L : Lc) (s : S) : fAnd t u L s = (t L s).bind fun b s1 => if b = true then u L s1 else .ok false s1 := rfl
@[simp] theorem fOr_eq (t u : F Bool) (L : Lc) (s : S) : fOr t u L s = (t L s).bind fun b s1 => if b = true then .ok true s1 else u L s1 := rfl
@[simp] theorem fIf_eq (t : F Bool) (f g : F D) (L : Lc) (s : S) : fIf t f g L s = (t L s).bind fun b s1 => if b = true then f L s1 else g L s1 := rfl
@[simp] theorem fNil_eq (L : Lc) (s : S) : fNil L s = .ok [] s := rfl
@[simp] theorem fCons_eq (f : F D) (r : F (List D)) (L : Lc) (s : S) : fCons f r L s = (f L s).bind fun a s1 => (r L s1).bind fun as s2 => .ok (a :: as) s2 := rfl
@[simp] theorem fTup_eq (fa : F (List D)) (L : Lc) (s : S) : fTup fa L s = (fa L s).bind fun ds s1 => if ds.length ≤ big then .ok (.tup ds) s1 else .bad := rfl
@[simp] theorem fLst_eq (fa : F (List D)) (L : Lc) (s : S) : fLst fa L s = (fa L s).bind fun ds s1 => if ds.length ≤ big then .ok (.lst ds) s1 else .bad := rfl
@[simp] theorem fLstT_eq (fa : F (List D)) (L : Lc) (s : S) : fLstT fa L s = (fa L s).bind fun ds s1 => if ds.length ≤ big then .ok (.ref s1.length) (s1 ++ [.lst ds]) else .bad := rfl
@[simp] theorem fCB_eq (o : S → List D → Option D) (fa : F (List D)) (L : Lc) (s : S) : fCB o fa L s = (fa L s).bind fun ds s1 => match o s1 ds with
  | some d => .ok d s1
  | none => .bad := rfl
@[simp] theorem fCall_eq (n : Nat) (G : List D → S → R D) (fa : F (List D)) (L : Lc) (s : S) : fCall n G fa L s = (fa L s).bind fun ds s1 => if ds.length = n then G ds s1 else .bad := rfl
@[simp] theorem fNeg_eq (f : F D) (L : Lc) (s : S) : fNeg f L s = (f L s).bind fun d s1 => match d with
  | .int i => .ok (.int (-i)) s1
  | _ => .bad := rfl
@[simp] theorem sPut_eq (o : S → D → D → D → Option S) (fe fo fi : F D) (L : Lc) (s : S) : sPut o fe fo fi L s = (fe L s).bindS L fun d s1 => (fo L s1).bindS L fun a s2 => (fi L s2).bindS L fun b s3 => match o s3 a b d with
  | some s' => .nx L s'
  | none => .bad := rfl
@[simp] theorem sAugS_eq (get op : S → D → D → Option D) (put : S → D → D → D → Option S) (fo fi fe : F D) (L : Lc) (s : S) : sAugS get op put fo fi fe L s = (fo L s).bindS L fun a s1 => (fi L s1).bindS L fun b s2 => match get s2 a b with
  | some d0 => (fe L s2).bindS L fun d1 s3 => match op s3 d0 d1 with
    | some d => match put s3 a b d with
      | some s' => .nx L s'
      | none => .bad
    | none => .bad
  | none => .bad := rfl
@[simp] theorem sAsgG_eq (q : Tg) (f : F D) (L : Lc) (s : S) : sAsgG q f L s = (f L s).bindS L fun d s1 => match q d L with
  | some L' => .nx L' s1
  | none => .bad := rfl
@[simp] theorem sFor_eq (f : F Src) (q : Tg) (body : FS) (L : Lc) (s : S) : sFor f q body L s = (f L s).bindS L fun r s1 => forL q body r r.items L s1 := rfl
@[simp] theorem fSrc_eq (f : F D) (L : Lc) (s : S) : fSrc f L s = (f L s).bind fun d s1 => match iSeq s1 d with
  | some r => .ok r s1
  | none => .bad := rfl
@[simp] theorem fRng_eq (o : List D → Option Src) (fa : F (List D)) (L : Lc) (s : S) : fRng o fa L s = (fa L s).bind fun ds s1 => match o ds with
  | some r => .ok r s1
  | none => .bad := rfl
theorem fin_rt {r : RS} {d : D} {s : S} (h : r = .rt d s) : r.fin = .ok d s := by
  rw [h]
  rfl
theorem fin_nx {r : RS} {L : Lc} {s : S} (h : r = .nx L s) : r.fin = .ok .non s := by
  rw [h]
  rfl
@[simp] theorem fin_rt' (d : D) (s : S) : (RS.rt d s).fin = .ok d s := rfl
@[simp] theorem fin_nx' (L : Lc) (s : S) : (RS.nx L s).fin = .ok .non s := rfl
@[simp] theorem fin_ex' (C : Addr) (fs : List Str) (vs : List D) (L : Lc) (s : S) : (RS.ex C fs vs L s).fin = .ex C fs vs s := rfl
/-! values -/
@[simp] theorem dI2_int (C : Int → Int → Bool) (g : Int → Int → D) (s : S) (i j : Int) : dI2 C g s (.int i) (.int j) = if C i j = true then some (g i j) else none := rfl
@[simp] theorem yes2_eq (i j : Int) : yes2 i j = true := rfl
@[simp] theorem dSub_int (s : S) (i j : Int) : dSub s (.int i) (.int j) = some (.int (i - j)) := rfl
@[simp] theorem dAddI_int (s : S) (i j : Int) : dAddI s (.int i) (.int j) = some (.int (i + j)) := rfl
@[simp] theorem dAdd_int (s : S) (i j : Int) : dAdd s (.int i) (.int j) = some (.int (i + j)) := rfl
@[simp] theorem dMul_int (s : S) (i j : Int) : dMul s (.int i) (.int j) = if mulOk i j = true then some (.int (i * j)) else none := rfl
@[simp] theorem dLt_int (s : S) (i j : Int) : dLt s (.int i) (.int j) = some (.bl (decide (i < j))) := rfl
@[simp] theorem dLe_int (s : S) (i j : Int) : dLe s (.int i) (.int j) = some (.bl (decide (i ≤ j))) := rfl
@[simp] theorem dGt_int (s : S) (i j : Int) : dGt s (.int i) (.int j) = some (.bl (decide (j < i))) := rfl
@[simp] theorem dGe_int (s : S) (i j : Int) : dGe s (.int i) (.int j) = some (.bl (decide (j ≤ i))) := rfl
theorem log2_small {i : Int} {k : Nat} (h0 : 0 < k) (h : i.natAbs < 2 ^ k) : i.natAbs.log2 < k := PySem.Flt.log2_lt_of h0 h
theorem divOk_of {i j : Int} (h0 : 0 < j) (h : j < 2 ^ 200) : divOk i j = true := by
  unfold divOk
  rw [decide_eq_true_eq]
  refine ⟨h0, Nat.lt_of_lt_of_le (log2_small (k := 200) (by decide) ?_) (by decide)⟩
  have : (j.natAbs : Int) < 2 ^ 200 := by
    rw [Int.natAbs_of_nonneg (Int.le_of_lt h0)]
    exact h
  exact_mod_cast this
theorem mulOk_of {i j : Int} {a b : Nat} (ha : i.natAbs < 2 ^ a) (hb : j.natAbs < 2 ^ b) (h0 : 0 < a) (h1 : 0 < b) (h : a + b ≤ 100000000) : mulOk i j = true := by
  unfold mulOk
  rw [decide_eq_true_eq]
  have x := log2_small h0 ha
  have y := log2_small h1 hb
  omega
theorem dDiv_int {s : S} {i j : Int} (h0 : 0 < j) (h : j < 2 ^ 200) : dDiv s (.int i) (.int j) = some (.int (i / j)) := by
  unfold dDiv
  rw [dI2_int, if_pos (divOk_of h0 h)]
theorem dMod_int {s : S} {i j : Int} (h0 : 0 < j) : dMod s (.int i) (.int j) = some (.int (i % j)) := by
  unfold dMod
  rw [dI2_int, if_pos (by unfold modOk; exact decide_eq_true h0)]
theorem eqv_int (i j : Int) : PyData.eqv (.int i) (.int j) = decide (i = j) := by
  rw [PyData.eqv]
  by_cases h : i = j
  · simp [h]
  · simp [h]
@[simp] theorem dEqD_int (neg : Bool) (s : S) (i j : Int) : dEqD neg s (.int i) (.int j) = some (.bl (if neg = true then !decide (i = j) else decide (i = j))) := by
  unfold dEqD
  simp only [toPyT, toPy, eqv_int]
  rw [if_pos]
  simp [SeqAt.shaped, PyData.canLay0, PyData.depth]
@[simp] theorem bInt_int (s : S) (i : Int) : bInt s [.int i] = some (.int i) := rfl
@[simp] theorem big_eq : big = 1000000 := rfl
/-! ### the source of the draws -/
structure SrcV where
  cs : List Int
  i : Int
  a : Int
  b : Int
  d : Int
def SrcV.o (v : SrcV) : O := .lst [.lst (v.cs.map D.int), .int v.i, .int v.a, .int v.b, .int v.d]
structure SrcV.Ok (v : SrcV) (n : Nat) : Prop where
  i0 : 0 ≤ v.i
  a0 : 0 ≤ v.a
  b0 : 0 ≤ v.b
  bn : v.b ≤ n
  d0 : 0 ≤ v.d
  dn : v.d < 2147483629
  cs : ∀ z ∈ v.cs, Builtin.Int.intBits z ≤ 1048576
theorem get_set {s : S} {k : Nat} {o o' : O} (h : s[k]? = some o) : (s.set k o')[k]? = some o' := by
  have := (List.getElem?_eq_some_iff.mp h).1
  rw [List.getElem?_set_self this]
theorem srcIx {s : S} {k : Nat} {v : SrcV} (h : s[k]? = some v.o) : dIx s (.ref k) (.int 0) = some (.lst (v.cs.map D.int)) ∧ dIx s (.ref k) (.int 1) = some (.int v.i) ∧ dIx s (.ref k) (.int 2) = some (.int v.a) ∧ dIx s (.ref k) (.int 3) = some (.int v.b) ∧ dIx s (.ref k) (.int 4) = some (.int v.d) ∧ dIxL s (.ref k) (.int 1) = some (.int v.i) ∧ dIxL s (.ref k) (.int 3) = some (.int v.b) := by
  unfold SrcV.o at h
  refine ⟨?_, ?_, ?_, ?_, ?_, ?_, ?_⟩ <;> simp only [dIx, dIxL, seqOf, lstOf, h] <;> rfl
theorem srcPut {s : S} {k : Nat} {v : SrcV} (h : s[k]? = some v.o) (x : Int) : dPut s (.ref k) (.int 1) (.int x) = some (s.set k ({ v with i := x } : SrcV).o) ∧ dPut s (.ref k) (.int 2) (.int x) = some (s.set k ({ v with a := x } : SrcV).o) ∧ dPut s (.ref k) (.int 3) (.int x) = some (s.set k ({ v with b := x } : SrcV).o) ∧ dPut s (.ref k) (.int 4) (.int x) = some (s.set k ({ v with d := x } : SrcV).o) := by
  unfold SrcV.o at h
  refine ⟨?_, ?_, ?_, ?_⟩ <;> simp only [dPut, h] <;> rfl
@[simp] theorem bLen_lst (s : S) (xs : List D) : bLen s [.lst xs] = some (.int xs.length) := rfl
@[simp] theorem bLen_tup (s : S) (xs : List D) : bLen s [.tup xs] = some (.int xs.length) := rfl
theorem dIx_lst (s : S) (xs : List D) (i : Int) : dIx s (.lst xs) (.int i) = L2.atI xs i := rfl
theorem dIx_tup (s : S) (xs : List D) (i : Int) : dIx s (.tup xs) (.int i) = L2.atI xs i := rfl
theorem atI_in {α : Type} {xs : List α} {i : Int} (h0 : 0 ≤ i) (h : i < xs.length) : L2.atI xs i = xs[i.toNat]? := by
  unfold L2.atI ixN
  rw [if_pos h0, if_pos h]
  rfl
@[simp] theorem dPow_lit (s : S) (i j : Int) : dPow s (.int i) (.int j) = if powOk i j = true then some (.int (i ^ j.toNat)) else none := rfl
def drawG : List D → S → R D := runF 7
  (sSeq (sAugS dIxL dAddI dPut (fVar 0) (fC (.int 3)) (fC (.int 1)))
    (sSeq (sIf (fAnd (fTst (fOp (dEqD false) (fOp dIx (fVar 0) (fC (.int 2))) (fC (.int 0)))) (fTst (fOp dLt (fOp dIx (fVar 0) (fC (.int 1))) (fCB bLen (fCons (fOp dIx (fVar 0) (fC (.int 0))) fNil))))) (sSeq (sAsg 2 (fOp dIx (fOp dIx (fVar 0) (fC (.int 0))) (fOp dIx (fVar 0) (fC (.int 1)))))
    (sSeq (sAugS dIxL dAddI dPut (fVar 0) (fC (.int 1)) (fC (.int 1)))
    (sIf (fTst (fOp dGe (fVar 2) (fOp dPow (fC (.int 10)) (fC (.int 18))))) (sPut dPut (fVar 2) (fVar 0) (fC (.int 2))) (sPut dPut (fOp dMod (fCB bInt (fCons (fOp dAdd (fOp dAdd (fOp dMul (fOp dIx (fVar 0) (fC (.int 4))) (fC (.int 48271))) (fOp dMul (fVar 2) (fC (.int 16)))) (fC (.int 30011))) fNil)) (fC (.int 2147483629))) (fVar 0) (fC (.int 4)))))) sNext)
    (sSeq (sIf (fTst (fOp dGt (fOp dIx (fVar 0) (fC (.int 2))) (fC (.int 0)))) (sSeq (sAsg 3 (fOp dMod (fCB bInt (fCons (fOp dIx (fVar 0) (fC (.int 2))) fNil)) (fVar 1)))
    (sSeq (sPut dPut (fOp dDiv (fOp dIx (fVar 0) (fC (.int 2))) (fVar 1)) (fVar 0) (fC (.int 2)))
    (sRet (fVar 3)))) sNext)
    (sSeq (sAsg 4 (fOp dMod (fCB bInt (fCons (fOp dMul (fOp dAdd (fOp dIx (fVar 0) (fC (.int 4))) (fOp dMul (fC (.int 104729)) (fOp dIx (fVar 0) (fC (.int 3))))) (fC (.int 69621))) fNil)) (fC (.int 2147483647))))
    (sSeq (sAsg 5 (fOp dMod (fCB bInt (fCons (fOp dMul (fVar 4) (fOp dAdd (fOp dDiv (fVar 4) (fC (.int 1021))) (fC (.int 40692)))) fNil)) (fC (.int 2147483399))))
    (sSeq (sAsg 6 (fOp dMod (fCB bInt (fCons (fOp dMul (fVar 5) (fOp dAdd (fOp dDiv (fVar 5) (fC (.int 2011))) (fC (.int 52774)))) fNil)) (fC (.int 2147483563))))
    (sRet (fOp dMod (fCB bInt (fCons (fOp dDiv (fVar 6) (fC (.int 8))) fNil)) (fVar 1)))))))))
theorem natAbs_lt {i : Int} {k : Nat} (h0 : 0 ≤ i) (h : i < 2 ^ k) : i.natAbs < 2 ^ k := by
  have e : (i.natAbs : Int) < 2 ^ k := by
    rw [Int.natAbs_of_nonneg h0]
    exact h
  exact_mod_cast e
theorem log_bits {z : Int} {n : Nat} (h : Builtin.Int.intBits z ≤ n) : z.natAbs.log2 ≤ n := by
  unfold Builtin.Int.intBits at h
  split at h
  · rename_i hz
    have e : z = 0 := by simpa using hz
    subst e
    exact Nat.zero_le _
  · omega
theorem mulOk_log {i j : Int} {a b : Nat} (ha : i.natAbs.log2 ≤ a) (hb : j.natAbs.log2 ≤ b) (h : a + b < 100000000) : mulOk i j = true := by
  unfold mulOk
  rw [decide_eq_true_eq]
  omega
theorem log_of {i : Int} {k : Nat} (h0 : 0 ≤ i) (h : i < 2 ^ k) (hk : 0 < k) : i.natAbs.log2 ≤ k := Nat.le_of_lt (log2_small hk (natAbs_lt h0 h))
/-- a draw: some number below the limit, the source goes on -/
theorem draw_ok {s : S} {k n : Nat} {v : SrcV} {lim : Int} (h : s[k]? = some v.o) (ok : v.Ok n) (hn : n < 2 ^ 60) (h0 : 0 < lim) (h1 : lim < 2 ^ 200) :
    ∃ (r : Int) (v' : SrcV), 0 ≤ r ∧ r < lim ∧ v'.Ok (n + 1) ∧ drawG [.ref k, .int lim] s = .ok (.int r) (s.set k v'.o) := by
  have hb : v.b + 1 < 2 ^ 61 := by
    have := ok.bn
    omega
  have hb0 := ok.b0
  -- the last part: the digits of the hash
  have tail : ∀ (w : SrcV) (s1 : S), s1[k]? = some w.o → w.a = 0 → 0 ≤ w.d → w.d < 2147483629 → 0 ≤ w.b → w.b < 2 ^ 61 → ∀ (x2 x3 : Option D), ∃ r : Int, 0 ≤ r ∧ r < lim ∧
      sSeq (sAsg 4 (fOp dMod (fCB bInt (fCons (fOp dMul (fOp dAdd (fOp dIx (fVar 0) (fC (.int 4))) (fOp dMul (fC (.int 104729)) (fOp dIx (fVar 0) (fC (.int 3))))) (fC (.int 69621))) fNil)) (fC (.int 2147483647))))
    (sSeq (sAsg 5 (fOp dMod (fCB bInt (fCons (fOp dMul (fVar 4) (fOp dAdd (fOp dDiv (fVar 4) (fC (.int 1021))) (fC (.int 40692)))) fNil)) (fC (.int 2147483399))))
    (sSeq (sAsg 6 (fOp dMod (fCB bInt (fCons (fOp dMul (fVar 5) (fOp dAdd (fOp dDiv (fVar 5) (fC (.int 2011))) (fC (.int 52774)))) fNil)) (fC (.int 2147483563))))
    (sRet (fOp dMod (fCB bInt (fCons (fOp dDiv (fVar 6) (fC (.int 8))) fNil)) (fVar 1))))) [some (.ref k), some (.int lim), x2, x3, none, none, none] s1 = .rt (.int r) s1 := by
    intro w s1 hs ha hd0 hd1 hw0 hw1 x2 x3
    obtain ⟨i0, i1, i2, i3, i4, _, _⟩ := srcIx hs
    have m1 : mulOk 104729 w.b = true := mulOk_log (a := 17) (b := 61) (by decide) (log_of hw0 hw1 (by decide)) (by decide)
    have m2 : mulOk (w.d + 104729 * w.b) 69621 = true := mulOk_log (a := 100) (b := 17) (log_of (by omega) (by omega) (by decide)) (by decide) (by decide)
    obtain ⟨one, hone⟩ : ∃ z, z = (w.d + 104729 * w.b) * 69621 % 2147483647 := ⟨_, rfl⟩
    have o0 : 0 ≤ one := by rw [hone]; exact Int.emod_nonneg _ (by decide)
    have o1 : one < 2147483647 := by rw [hone]; exact Int.emod_lt_of_pos _ (by decide)
    have q0 : 0 ≤ one / 1021 := Int.ediv_nonneg o0 (by decide)
    have q1 : one / 1021 ≤ one := Int.ediv_le_self _ o0
    have m3 : mulOk one (one / 1021 + 40692) = true := mulOk_log (a := 31) (b := 33) (log_of o0 (by omega) (by decide)) (log_of (by omega) (by omega) (by decide)) (by decide)
    obtain ⟨two, htwo⟩ : ∃ z, z = one * (one / 1021 + 40692) % 2147483399 := ⟨_, rfl⟩
    have t0 : 0 ≤ two := by rw [htwo]; exact Int.emod_nonneg _ (by decide)
    have t1 : two < 2147483399 := by rw [htwo]; exact Int.emod_lt_of_pos _ (by decide)
    have u0 : 0 ≤ two / 2011 := Int.ediv_nonneg t0 (by decide)
    have u1 : two / 2011 ≤ two := Int.ediv_le_self _ t0
    have m4 : mulOk two (two / 2011 + 52774) = true := mulOk_log (a := 31) (b := 33) (log_of t0 (by omega) (by decide)) (log_of (by omega) (by omega) (by decide)) (by decide)
    refine ⟨two * (two / 2011 + 52774) % 2147483563 / 8 % lim, Int.emod_nonneg _ (by omega), Int.emod_lt_of_pos _ h0, ?_⟩
    simp [fVar, i4, i3, m1, m2, dMod_int, dDiv_int, ← hone, m3, ← htwo, m4, h0]
  -- the second part: a great number gives its digits
  have mid : ∀ (w : SrcV) (s1 : S), s1[k]? = some w.o → w.Ok (n + 1) → ∀ (x2 : Option D), ∃ (r : Int) (v' : SrcV), 0 ≤ r ∧ r < lim ∧ v'.Ok (n + 1) ∧
      (sSeq (sIf (fTst (fOp dGt (fOp dIx (fVar 0) (fC (.int 2))) (fC (.int 0)))) (sSeq (sAsg 3 (fOp dMod (fCB bInt (fCons (fOp dIx (fVar 0) (fC (.int 2))) fNil)) (fVar 1)))
    (sSeq (sPut dPut (fOp dDiv (fOp dIx (fVar 0) (fC (.int 2))) (fVar 1)) (fVar 0) (fC (.int 2)))
    (sRet (fVar 3)))) sNext)
    (sSeq (sAsg 4 (fOp dMod (fCB bInt (fCons (fOp dMul (fOp dAdd (fOp dIx (fVar 0) (fC (.int 4))) (fOp dMul (fC (.int 104729)) (fOp dIx (fVar 0) (fC (.int 3))))) (fC (.int 69621))) fNil)) (fC (.int 2147483647))))
    (sSeq (sAsg 5 (fOp dMod (fCB bInt (fCons (fOp dMul (fVar 4) (fOp dAdd (fOp dDiv (fVar 4) (fC (.int 1021))) (fC (.int 40692)))) fNil)) (fC (.int 2147483399))))
    (sSeq (sAsg 6 (fOp dMod (fCB bInt (fCons (fOp dMul (fVar 5) (fOp dAdd (fOp dDiv (fVar 5) (fC (.int 2011))) (fC (.int 52774)))) fNil)) (fC (.int 2147483563))))
    (sRet (fOp dMod (fCB bInt (fCons (fOp dDiv (fVar 6) (fC (.int 8))) fNil)) (fVar 1)))))) [some (.ref k), some (.int lim), x2, none, none, none, none] s1) = .rt (.int r) (s1.set k v'.o) := by
    intro w s1 hs hw x2
    obtain ⟨i0, i1, i2, i3, i4, _, _⟩ := srcIx hs
    by_cases ha : 0 < w.a
    · refine ⟨w.a % lim, { w with a := w.a / lim }, Int.emod_nonneg _ (by omega), Int.emod_lt_of_pos _ h0, ⟨hw.i0, Int.ediv_nonneg hw.a0 (Int.le_of_lt h0), hw.b0, hw.bn, hw.d0, hw.dn, hw.cs⟩, ?_⟩
      have hp := (srcPut hs (w.a / lim)).2.1
      simp [fVar, i2, ha, dMod_int, h0, dDiv_int h0 h1, hp]
    · have ha0 : w.a = 0 := by
        have := hw.a0
        omega
      have hbn := hw.bn
      obtain ⟨r, r0, r1, e⟩ := tail w s1 hs ha0 hw.d0 hw.dn hw.b0 (by omega) x2 none
      refine ⟨r, w, r0, r1, hw, ?_⟩
      have hset : s1.set k w.o = s1 := by
        have hk := (List.getElem?_eq_some_iff.mp hs)
        obtain ⟨hk1, hk2⟩ := hk
        rw [← hk2]
        exact List.set_getElem_self hk1
      rw [hset, ← e]
      simp [fVar, i2, ha]
  -- the first part
  obtain ⟨_, _, _, _, _, _, j3⟩ := srcIx h
  have p3 := (srcPut h (v.b + 1)).2.2.1
  obtain ⟨w, hw⟩ : ∃ w : SrcV, w = { v with b := v.b + 1 } := ⟨_, rfl⟩
  rw [← hw] at p3
  have gw : (s.set k w.o)[k]? = some w.o := get_set h
  have okw : w.Ok (n + 1) := by
    subst hw
    exact ⟨ok.i0, ok.a0, by show 0 ≤ v.b + 1; omega, by show v.b + 1 ≤ ((n + 1 : Nat) : Int); have := ok.bn; omega, ok.d0, ok.dn, ok.cs⟩
  obtain ⟨i0, i1, i2, i3, i4, k1, k3⟩ := srcIx gw
  unfold drawG runF startD
  by_cases hc : w.a = 0 ∧ w.i < (w.cs.length : Int)
  · -- a cell is taken
    obtain ⟨ca, ci⟩ := hc
    have hlt : w.i.toNat < w.cs.length := by
      have := okw.i0
      omega
    obtain ⟨cell, hcell⟩ : ∃ z, w.cs[w.i.toNat]? = some z := ⟨_, List.getElem?_eq_getElem hlt⟩
    have hix : dIx (s.set k w.o) (.lst (w.cs.map D.int)) (.int w.i) = some (.int cell) := by
      rw [dIx_lst, atI_in okw.i0 (by rw [List.length_map]; exact ci), List.getElem?_map, hcell]
      rfl
    have q1 := (srcPut gw (w.i + 1)).1
    obtain ⟨u, hu⟩ : ∃ u : SrcV, u = { w with i := w.i + 1 } := ⟨_, rfl⟩
    rw [← hu] at q1
    have gu : ((s.set k w.o).set k u.o)[k]? = some u.o := get_set gw
    rw [List.set_set] at gu q1
    have oku : u.Ok (n + 1) := by
      subst hu
      exact ⟨by show 0 ≤ w.i + 1; have := okw.i0; omega, okw.a0, okw.b0, okw.bn, okw.d0, okw.dn, okw.cs⟩
    obtain ⟨a0, a1, a2, a3, a4, b1, b3⟩ := srcIx gu
    have hbits := okw.cs cell (List.mem_of_getElem? hcell)
    by_cases hbig : (1000000000000000000 : Int) ≤ cell
    · have q2 := (srcPut gu cell).2.1
      rw [List.set_set] at q2
      obtain ⟨r, v', r0, r1, ov, e⟩ := mid { u with a := cell } _ (get_set h) ⟨oku.i0, by show 0 ≤ cell; omega, oku.b0, oku.bn, oku.d0, oku.dn, oku.cs⟩ (some (.int cell))
      refine ⟨r, v', r0, r1, ov, ?_⟩
      rw [List.set_set] at e
      refine fin_rt ?_
      rw [← e]
      simp [fVar, j3, p3, i2, ca, i1, i0, ci, hix, k1, q1, powOk, hbig, q2]
    · have m1 : mulOk u.d 48271 = true := mulOk_log (a := 31) (b := 16) (log_of oku.d0 (by have := oku.dn; omega) (by decide)) (by decide) (by decide)
      have m2 : mulOk cell 16 = true := mulOk_log (a := 1048576) (b := 5) (log_bits hbits) (by decide) (by decide)
      obtain ⟨dd, hdd⟩ : ∃ z, z = (u.d * 48271 + cell * 16 + 30011) % 2147483629 := ⟨_, rfl⟩
      have q4 := (srcPut gu dd).2.2.2
      rw [List.set_set] at q4
      obtain ⟨r, v', r0, r1, ov, e⟩ := mid { u with d := dd } _ (get_set h) ⟨oku.i0, oku.a0, oku.b0, oku.bn, by show 0 ≤ dd; rw [hdd]; exact Int.emod_nonneg _ (by decide), by show dd < 2147483629; rw [hdd]; exact Int.emod_lt_of_pos _ (by decide), oku.cs⟩ (some (.int cell))
      refine ⟨r, v', r0, r1, ov, ?_⟩
      rw [List.set_set] at e
      refine fin_rt ?_
      rw [← e]
      simp [fVar, j3, p3, i2, ca, i1, i0, ci, hix, k1, q1, powOk, hbig, a4, m1, m2, dMod_int, ← hdd, q4]
  · obtain ⟨r, v', r0, r1, ov, e⟩ := mid w _ gw okw none
    refine ⟨r, v', r0, r1, ov, ?_⟩
    rw [List.set_set] at e
    refine fin_rt ?_
    rw [← e]
    by_cases ca : w.a = 0
    · have ci : ¬ w.i < (w.cs.length : Int) := fun z => hc ⟨ca, z⟩
      simp [fVar, j3, p3, i2, ca, i1, i0, ci]
    · simp [fVar, j3, p3, i2, ca]
end SI

namespace SI
open PySem L2
theorem rg_cons (lo : Int) (n : Nat) : rgItems lo (n + 1) = .int lo :: rgItems (lo + 1) n := by
  unfold rgItems
  rw [List.range_succ_eq_map, List.map_cons, List.map_map]
  congr 1
  · show D.int (lo + 0) = _
    rw [Int.add_zero]
  · apply List.map_congr_left
    intro a _
    show D.int (lo + ((a + 1 : Nat) : Int)) = D.int (lo + 1 + (a : Int))
    congr 1
    omega
theorem rg_nil (lo : Int) : rgItems lo 0 = [] := rfl
@[simp] theorem dRng1_int {j : Int} : dRng1 [.int j] = if rgOk j = true then some ⟨rgItems 0 j.toNat, none⟩ else none := rfl
@[simp] theorem dRng2_int {i j : Int} : dRng2 [.int i, .int j] = if rgOk i = true ∧ rgOk j = true then some ⟨rgItems i (j - i).toNat, none⟩ else none := rfl
@[simp] theorem chk_none (ds : List D) (s : S) : chk ⟨ds, none⟩ s = true := rfl
theorem forL_nil {q : Tg} {body : FS} {ds : List D} {L : Lc} {s : S} : forL q body ⟨ds, none⟩ [] L s = .nx L s := by
  unfold forL
  rw [if_pos (chk_none ds s)]
theorem forL_cons {q : Tg} {body : FS} {ds : List D} {d : D} {r : List D} {L L1 : Lc} {s : S} (h : q d L = some L1) : forL q body ⟨ds, none⟩ (d :: r) L s = match body L1 s with
      | .nx L2 s2 => forL q body ⟨ds, none⟩ r L2 s2
      | .ct L2 s2 => forL q body ⟨ds, none⟩ r L2 s2
      | .bk L2 s2 => .nx L2 s2
      | x => x := by
  conv => lhs; unfold forL
  rw [if_pos (chk_none ds s), h]
  all_goals rfl
@[simp] theorem gN_eq (i : Nat) (d : D) (L : Lc) : gN i d L = some (L.set i (some d)) := rfl
/-- a loop that each turn brings from one state to the next -/
theorem forL_step {q : Tg} {body : FS} {ds : List D} (I : Nat → Lc → S → Prop) : ∀ (r : List D) (i : Nat) (L : Lc) (s : S), I i L s →
    (∀ (j : Nat) (d : D) (L : Lc) (s : S), r[j]? = some d → I (i + j) L s → ∃ L1 L2 s2, q d L = some L1 ∧ (body L1 s = .nx L2 s2 ∨ body L1 s = .ct L2 s2) ∧ I (i + j + 1) L2 s2) →
    ∃ L' s', forL q body ⟨ds, none⟩ r L s = .nx L' s' ∧ I (i + r.length) L' s'
  | [], i, L, s, h, _ => ⟨L, s, forL_nil, h⟩
  | d :: r, i, L, s, h, hs => by
    obtain ⟨L1, L2, s2, e1, e2, h2⟩ := hs 0 d L s rfl h
    obtain ⟨L', s', e, h'⟩ := forL_step (ds := ds) I r (i + 1) L2 s2 (by simpa using h2) fun j d' L s hj hI => by
      have := hs (j + 1) d' L s (by simpa using hj) (by rw [show i + (j + 1) = i + 1 + j by omega]; exact hI)
      rw [show i + (j + 1) + 1 = i + 1 + j + 1 by omega] at this
      exact this
    refine ⟨L', s', ?_, by rw [List.length_cons, show i + (r.length + 1) = i + 1 + r.length by omega]; exact h'⟩
    rw [forL_cons e1]
    rcases e2 with e2 | e2
    · rw [e2]
      exact e
    · rw [e2]
      exact e
def bigG : List D → S → R D := runF 4
  (sSeq (sAsg 2 (fC (.int 0)))
    (sSeq (sFor (fRng dRng1 (fCons (fC (.int 5)) fNil)) (gN 3) (sAsg 2 (fOp dAdd (fOp dMul (fVar 2) (fC (.int 268000003))) (fCall 2 drawG (fCons (fVar 0) (fCons (fC (.int 268000003)) fNil))))))
    (sRet (fOp dMod (fCB bInt (fCons (fVar 2) fNil)) (fVar 1)))))
theorem big_ok {s : S} {k n : Nat} {v : SrcV} {lim : Int} (h : s[k]? = some v.o) (ok : v.Ok n) (hn : n + 5 < 2 ^ 60) (h0 : 0 < lim) :
    ∃ (r : Int) (v' : SrcV), 0 ≤ r ∧ r < lim ∧ v'.Ok (n + 5) ∧ bigG [.ref k, .int lim] s = .ok (.int r) (s.set k v'.o) := by
  obtain ⟨L', s', e, x, w, ⟨y, rfl⟩, rfl, x0, x1, ow⟩ := forL_step (q := gN 3) (ds := rgItems 0 5) (body := sAsg 2 (fOp dAdd (fOp dMul (fVar 2) (fC (.int 268000003))) (fCall 2 drawG (fCons (fVar 0) (fCons (fC (.int 268000003)) fNil)))))
    (fun i L t => ∃ (x : Int) (w : SrcV), (∃ y, L = [some (.ref k), some (.int lim), some (.int x), y]) ∧ t = s.set k w.o ∧ 0 ≤ x ∧ x < 268000003 ^ i ∧ w.Ok (n + i)) (rgItems 0 5) 0 [some (.ref k), some (.int lim), some (.int 0), none] s
    ⟨0, v, ⟨_, rfl⟩, by
      have hk := (List.getElem?_eq_some_iff.mp h)
      obtain ⟨hk1, hk2⟩ := hk
      rw [← hk2]
      exact (List.set_getElem_self hk1).symm, by decide, by decide, ok⟩ (by
      rintro j d L t hj ⟨x, w, ⟨y, rfl⟩, rfl, x0, x1, ow⟩
      have hj5 : j < 5 := by
        have := (List.getElem?_eq_some_iff.mp hj).1
        have e5 : (rgItems 0 5).length = 5 := by simp [rgItems]
        omega
      obtain ⟨r, w', r0, r1, ow', e⟩ := draw_ok (k := k) (lim := 268000003) (get_set h) ow (by omega) (by decide) (by decide +kernel)
      have hx : x < 268000003 ^ 5 := by
        refine Int.lt_of_lt_of_le x1 ?_
        have key : ∀ j < 5, (268000003 : Int) ^ (0 + j) ≤ 268000003 ^ 5 := by decide +kernel
        exact key j hj5
      have m1 : mulOk x 268000003 = true := mulOk_log (a := 200) (b := 28) (log_of x0 (Int.lt_trans hx (by decide +kernel)) (by decide)) (by decide) (by decide)
      rw [List.set_set] at e
      refine ⟨_, _, _, rfl, .inl ?_, x * 268000003 + r, w', ⟨some d, rfl⟩, rfl, by omega, ?_, ow'⟩
      · simp [fVar, m1, e]
      · rw [Int.pow_succ]
        have : x * 268000003 + 268000003 ≤ 268000003 ^ (0 + j) * 268000003 := by omega
        omega)
  have e5 : (rgItems 0 5).length = 5 := by simp [rgItems]
  rw [e5] at ow
  refine ⟨x % lim, w, Int.emod_nonneg _ (by omega), Int.emod_lt_of_pos _ h0, ow, fin_rt ?_⟩
  have e' : sFor (fRng dRng1 (fCons (fC (.int 5)) fNil)) (gN 3) (sAsg 2 (fOp dAdd (fOp dMul (fVar 2) (fC (.int 268000003))) (fCall 2 drawG (fCons (fVar 0) (fCons (fC (.int 268000003)) fNil))))) [some (.ref k), some (.int lim), some (.int 0), none] s = .nx [some (.ref k), some (.int lim), some (.int x), y] (s.set k w.o) := e
  show RS.bind (sFor _ _ _ [some (.ref k), some (.int lim), some (.int 0), none] s) _ = _
  rw [e']
  simp [fVar, dMod_int, h0]
end SI

namespace SI
open PySem L2
theorem lc_intsC (xs : List D) (L0 : Lc) (h : 1 < L0.length) : ∀ (ds : List Int) (acc : List D), acc.length + ds.length ≤ 1000000 → lcL (gN 1) fYes (fCB bInt (fCons (fVar 1) fNil)) ⟨xs, none⟩ L0 0 (ds.map D.int) [.lst acc] = .ok () [.lst (acc ++ ds.map D.int)]
  | [], acc, _ => by
    simp [lcL]
  | d :: ds, acc, hl => by
    have ih := lc_intsC xs L0 h ds (acc ++ [.int d]) (by simp at hl ⊢; omega)
    have hlt : acc.length < 1000000 := by simp at hl; omega
    have hv : ∀ s, fVar 1 (L0.set 1 (some (.int d))) s = .ok (.int d) s := by
      intro s
      unfold fVar
      rw [List.getElem?_set_self h]
    simp [lcL, fYes, hv, hlt, ih]
theorem bels_intsC (n : Nat) : ∀ (ds : List Int), D.bels n (ds.map D.int) = true
  | [] => rfl
  | d :: ds => by simp [D.bels, D.bel, bels_intsC n ds]
def srcG : List D → S → R D := runF 2
  ((sRet (fLstT (fCons (fLc (fSrc (fSl (fVar 0) fNo (fPt (fC (.int 63))))) (gN 1) fYes (fCB bInt (fCons (fVar 1) fNil)) [1]) (fCons (fC (.int 0)) (fCons (fC (.int 0)) (fCons (fC (.int 0)) (fCons (fC (.int 7)) fNil))))))))
theorem src_ok (ns : List Int) (hl : ns.length ≤ 63) : srcG [.rdl (ns.map D.int)] [] = .ok (.ref 0) [SrcV.o ⟨ns, 0, 0, 0, 7⟩] := by
  have hc : cutD (ns.map D.int) none (some 63) = ns.map D.int := by
    unfold cutD
    rw [HT.sIx_none, List.drop_zero, show (some (63 : Int)) = some ((63 : Nat) : Int) from rfl, HT.sIx_nat, List.take_of_length_le]
    rw [List.length_map]
    omega
  have e := lc_intsC (ns.map D.int) [some (.rdl (ns.map D.int)), none] (Nat.lt_succ_self 1) ns [] (by simp; omega)
  unfold srcG runF startD
  have hi : iSeq [] (.lst (ns.map D.int)) = some ⟨ns.map D.int, none⟩ := rfl
  simp [fVar, fLc, fSl, fNo, fPt, dSl, lstOf, hc, hi, wipeD, e, bels_intsC, SrcV.o]
theorem src_start {ns : List Int} (hb : ∀ z ∈ ns, Builtin.Int.intBits z ≤ 1048576) : SrcV.Ok ⟨ns, 0, 0, 0, 7⟩ 0 := ⟨Int.le_refl 0, Int.le_refl 0, Int.le_refl 0, Int.le_refl 0, show (0 : Int) ≤ 7 by decide, show (7 : Int) < 2147483629 by decide, hb⟩
theorem seq_nx {u v : FS} {L L1 : Lc} {s s1 : S} {z : RS} (h : u L s = .nx L1 s1) (h2 : v L1 s1 = z) : sSeq u v L s = z := by
  rw [sSeq_eq, h]
  exact h2
theorem src_bel (w : SrcV) (n : Nat) : O.bel n w.o = true := by
  unfold SrcV.o O.bel
  simp [D.bels, D.bel, bels_intsC]
end SI

namespace SI
open PySem PySem.Spec PyProof.Rows L2
/-! ### own exception classes over Exception -/
abbrev exTail : List Value := [.type "Exception", .type "BaseException", .type "object"]
structure ExE (K : PySem.W.Frag) (C : Addr) : Prop where
  ini : PySem.W.excInitIn K C exTail "Exception.__new__" = true
  ovr : PySem.W.excOver K C exTail = true
  hd : PySem.W.hasDictIn K C = true
  sa : PySem.W.findIn K (.ref C) "__setattr__" = some (some (.builtin "object.__setattr__"))
  sub : PySem.W.subIn K (.ref C) (.type "BaseException") = some true
  ty : PySem.W.typeIn K (.ref C) = some (.type "type")
  keep : PySem.W.keepIn K (.ref C) = true
section
variable {X : Cx} {pins : List (Addr × Obj)} {σ : L2.St} {H : Hp} {s : Shared} {a C dx : Addr} {f : Str} {y : V} {u : Value} {fs : List (Str × V)} {Q : Unit → Shared → Prop} {E : Value → Shared → Prop} {A : Around}
theorem est_new (T : ExE X.K C) (I : Inv X pins σ H s) (e : H a = some (exo a C none)) (hno : PySem.W.takerIn X.K C f = some none) (ry : RelV y u)
    (k : ∀ dx s', H dx = none → dx ≠ a → Inv X pins σ (upd (upd H dx (exd dx [(f, y)])) a (exo a C (some dx))) s' → Q () s') : wpAny (model X.prog X.w) A (setAttr (.ref a) f u) Q E s := by
  obtain ⟨t1, ho⟩ := exo_at I.hok e
  obtain ⟨cd, hc, hh⟩ := PySem.W.any_some T.hd
  obtain ⟨hp, g, d, t, os⟩ := s
  have J : PySem.W.InstAt hp a { cls := .ref C, dict := none, data := .fields #[.ref t1, .none, .none, .none, .bool false, .none] } C none := ⟨ho, rfl, rfl, trivial⟩
  have lt : a < hp.objs.size := Heap.lt_size ho
  refine PySem.W.set_plain I.kIn J T.sa (PySem.W.osa_openX (s := ⟨hp, g, d, t + 1, os⟩) PySem.F.store_Exception I.kIn J T.ovr hno fun b => ?_)
  refine wpAny_bind (wpAny_pure (wpAny_bind (PySem.W.instanceDict_exc (s := ⟨hp, g, d, t + 1, os⟩) ho (PySem.W.looks_clsIn I.kIn hc) hh ?_)))
  refine PySem.HandSPX.store_in_new ?_ fun h2 tk2 hn hs => ?_
  · exact ⟨_, #[], _, (Heap.get?_update_ne _ _ _ _ (Nat.ne_of_gt lt)).trans (Heap.get?_push_at rfl rfl), rfl, fun z hz => absurd hz (by simp), fun _ => rfl⟩
  · have hfree : H hp.objs.size = none := I.hok.fresh (Nat.le_refl _)
    have hne : hp.objs.size ≠ a := Nat.ne_of_gt lt
    obtain ⟨od, es, ep, hod, hod2, hod3⟩ := id hn
    have low : ∀ {b : Addr} {o : Obj}, hp.get? b = some o → b ≠ a → h2.get? b = some o := fun {b o} q hb => (hs.2 b (Nat.ne_of_lt (Heap.lt_size q))).trans ((Heap.get?_update_ne _ _ _ _ hb).trans (Heap.get?_push_of_some _ q))
    have atA : h2.get? a = some ({ cls := .ref C, dict := some hp.objs.size, data := .fields #[.ref t1, .none, .none, .none, .bool false, .none] } : Obj) := (hs.2 a (Ne.symm hne)).trans (Heap.get?_update_self _ (Heap.get?_push_of_some _ ho) rfl)
    have hmid : (hp.push od).get? hp.objs.size = some od := Heap.get?_push_size hp (Heap.get?_some_iff.mp hod).2
    have I1 : Inv X pins σ (upd H hp.objs.size (exd hp.objs.size [(f, y)])) ⟨hp.push od, g, d, t, os⟩ :=
      I.laid (h' := hp.push od) (t' := t) (fun b o q => Heap.get?_push_of_some _ q) (Nat.le_refl _) (exd_ok (mA := fun z => if z = f then some u else none) ⟨od, es, ep, hmid, hod2, hod3⟩ (relO_put (fs := []) ry fun _ => True.intro))
    have I2 := I1.write (h' := h2) (t' := tk2) (x := a) (e := a) (o := exo a C (some hp.objs.size)) (by rw [upd_ne (Ne.symm hne), e]; exact True.intro) (.inl rfl) (fun b o hb q => by
      by_cases hz : b = hp.objs.size
      · subst hz
        rw [hmid] at q
        cases q
        exact hod
      · have hlt : b < (hp.push od).objs.size := Heap.lt_size q
        have q' : hp.get? b = some o := by
          rw [Heap.get?_push_ne _ _ _ hz] at q
          exact q
        exact low q' hb) ⟨_, atA⟩ (exo_ok atA)
    exact k hp.objs.size _ hfree hne I2
theorem est_old (T : ExE X.K C) (I : Inv X pins σ H s) (e : H a = some (exo a C (some dx))) (ed : H dx = some (exd dx fs)) (hl : fs.length ≤ 900) (hno : PySem.W.takerIn X.K C f = some none) (ry : RelV y u)
    (k : ∀ s', Inv X pins σ (upd H dx (exd dx ((f, y) :: fs))) s' → Q () s') : wpAny (model X.prog X.w) A (setAttr (.ref a) f u) Q E s := by
  obtain ⟨t1, ho⟩ := exo_at I.hok e
  obtain ⟨mA, hns, rel⟩ := exd_at I.hok ed
  obtain ⟨cd, hc, hh⟩ := PySem.W.any_some T.hd
  obtain ⟨hp, g, d, t, os⟩ := s
  obtain ⟨oD, _, _, hoD, _, _⟩ := hns.count (within_of rel)
  have J : PySem.W.InstAt hp a { cls := .ref C, dict := some dx, data := .fields #[.ref t1, .none, .none, .none, .bool false, .none] } C (some oD) := ⟨ho, rfl, rfl, hoD⟩
  have LC : PySem.W.Looks (model X.prog X.w) hp (classData C) cd := PySem.W.looks_clsIn I.kIn hc
  refine PySem.W.set_plain I.kIn J T.sa (PySem.W.osa_openX (s := ⟨hp, g, d, t + 1, os⟩) PySem.F.store_Exception I.kIn J T.ovr hno fun b => ?_)
  refine wpAny_bind (wpAny_pure (wpAny_bind (wpAny_bind (wpAny_loadPart ho (wpAny_bind (LC.at ?_))))))
  rw [hh]
  refine wpAny_pure (a := some dx) ?_
  refine PySem.OEX.store_in_old hns (within_of rel) (by rw [List.length_map]; omega) fun h2 tk2 hn hs => ?_
  have hd : ∃ o, h2.get? dx = some o := by
    obtain ⟨o, _, _, z, _⟩ := hn
    exact ⟨o, z⟩
  exact k _ (I.write (t' := tk2) (x := dx) (e := dx) (o := exd dx ((f, y) :: fs)) (by rw [ed]; exact True.intro) (.inl rfl) (fun b o hb q => (hs.2 b hb).trans q) hd (exd_ok hn (relO_put ry rel)))
end
/-! ### raise -/
/-- self.f = y in an exception's __init__ -/
def tEst (K : PySem.W.Frag) (f : Str) (to te : TE) : TS := fun D σ H => te σ H fun y H1 => to σ H1 fun x H2 => ∃ a C : Addr, x = .ref a ∧ ExE K C ∧ PySem.W.takerIn K C f = some none ∧
  ((H2 a = some (exo a C none) ∧ ∀ dx, H2 dx = none → dx ≠ a → D.nx σ (upd (upd H2 dx (exd dx [(f, y)])) a (exo a C (some dx)))) ∨
    ∃ (dx : Addr) (fs : List (Str × V)), H2 a = some (exo a C (some dx)) ∧ H2 dx = some (exd dx fs) ∧ fs.length ≤ 900 ∧ D.nx σ (upd H2 dx (exd dx ((f, y) :: fs))))
section
variable {X : Cx} {W : WX} {o e : Expr} {es : List Expr} {to te : TE} {ta : TA} {f : Str} {p p' pos : Pos}
theorem ps_est (ho : PE X o to) (he : PE X e te) (hs : swapsWith e (some (.Attribute o f p')) pos.line X.env = pure false := by rfl) : PS X (.Assign [.Attribute o f p'] e pos) (tEst X.K f to te) := by
  refine ⟨fun pins s σ H D I h => plainObj_wpAny_Assign_Attribute (thn (he.run pins s σ H _ I h) fun v s1 hv => ?_) hs⟩
  obtain ⟨y, H1, I1, r1, q1⟩ := hv
  refine thn (ho.run pins s1 σ H1 _ I1 q1) fun u s2 hu => ?_
  obtain ⟨x, H2, I2, r2, a, C, ex, T, hno, q⟩ := hu
  subst ex
  have eu : u = Value.ref a := r2
  subst eu
  rcases q with ⟨ea, q⟩ | ⟨dx, fs, ea, ed, hl, q⟩
  · exact est_new T I2 ea hno r1 fun dx s3 n ne J3 => ⟨σ, _, J3, q dx n ne⟩
  · exact est_old T I2 ea ed hl hno r1 fun s3 J3 => ⟨σ, _, J3, q⟩
/-- what an exception's __init__ of one (two) stored arguments promises -/
def spX1 (K : PySem.W.Frag) (f : Str) : Sp := fun vs H Q _ => ∃ (a C : Addr) (y : V), vs = [.ref a, y] ∧ ExE K C ∧ PySem.W.takerIn K C f = some none ∧ H a = some (exo a C none) ∧
  ∀ dx, H dx = none → dx ≠ a → Q .non (upd (upd H dx (exd dx [(f, y)])) a (exo a C (some dx)))
def spX2 (K : PySem.W.Frag) (f g : Str) : Sp := fun vs H Q _ => ∃ (a C : Addr) (y z : V), vs = [.ref a, y, z] ∧ ExE K C ∧ PySem.W.takerIn K C f = some none ∧ PySem.W.takerIn K C g = some none ∧ H a = some (exo a C none) ∧
  ∀ dx, H dx = none → dx ≠ a → Q .non (upd (upd H dx (exd dx [(g, z), (f, y)])) a (exo a C (some dx)))
theorem ok_x1 {P : Program} {w : World} {K : PySem.W.Frag} {mg : Str → Option Value} {base : Heap} {x qual s0 p0 : Str} {st : Stmt} {fA : Addr} {fd : FuncData} {f : Str} (Fu : Fun K x qual st fA fd) (Sc : FnScope [s0, p0] [s0, p0] (defScope st))
    (hbody : ∀ (cdv : Value) (A : Around) (outer : List Env) (s : Shared) (H : Hp) (E : XK), PSs (cxOf (L2.CX P w) P w K mg base [s0, p0] qual (defScope st) fA cdv A outer s H E) (defBody st) (tEst K f (tVar 0) (tVar 1))) :
    FnOk P w K mg base (L2.CX P w) 1 fA fd [s0, p0] (spX1 K f) := by
  refine Fu.okX Sc (fun vs H Q E h => ?_) (fun cdv A outer s H vs Q E hr h => ?_)
  · obtain ⟨a, C, y, rfl, _⟩ := h
    rfl
  · obtain ⟨a, C, y, rfl, T, hno, ha, q⟩ := h
    exact ⟨_, hbody cdv A outer s H E, y, rfl, .ref a, rfl, a, C, rfl, T, hno, .inl ⟨ha, q⟩⟩
theorem ok_x2 {P : Program} {w : World} {K : PySem.W.Frag} {mg : Str → Option Value} {base : Heap} {x qual s0 p0 p1 : Str} {st : Stmt} {fA : Addr} {fd : FuncData} {f g : Str} (Fu : Fun K x qual st fA fd) (Sc : FnScope [s0, p0, p1] [s0, p0, p1] (defScope st))
    (hbody : ∀ (cdv : Value) (A : Around) (outer : List Env) (s : Shared) (H : Hp) (E : XK), PSs (cxOf (L2.CX P w) P w K mg base [s0, p0, p1] qual (defScope st) fA cdv A outer s H E) (defBody st) (fun D σ H => tEst K f (tVar 0) (tVar 1) { D with nx := tEst K g (tVar 0) (tVar 2) D } σ H)) :
    FnOk P w K mg base (L2.CX P w) 1 fA fd [s0, p0, p1] (spX2 K f g) := by
  refine Fu.okX Sc (fun vs H Q E h => ?_) (fun cdv A outer s H vs Q E hr h => ?_)
  · obtain ⟨a, C, y, z, rfl, _⟩ := h
    rfl
  · obtain ⟨a, C, y, z, rfl, T, h1, h2, ha, q⟩ := h
    refine ⟨_, hbody cdv A outer s H E, y, rfl, .ref a, rfl, a, C, rfl, T, h1, .inl ⟨ha, fun dx hn ne => ?_⟩⟩
    refine ⟨z, rfl, .ref a, rfl, a, C, rfl, T, h2, .inr ⟨dx, [(f, y)], upd_same, by rw [upd_ne ne, upd_same], by simp, ?_⟩⟩
    have e : upd (upd (upd H dx (exd dx [(f, y)])) a (exo a C (some dx))) dx (exd dx [(g, z), (f, y)]) = upd (upd H dx (exd dx [(g, z), (f, y)])) a (exo a C (some dx)) := by
      funext b
      by_cases hb : b = dx
      · subst hb
        rw [upd_same, upd_ne ne, upd_same]
      · by_cases hc : b = a
        · subst hc
          rw [upd_ne hb, upd_same, upd_same]
        · rw [upd_ne hb, upd_ne hc, upd_ne hb, upd_ne hc, upd_ne hb]
    show Q .non _
    rw [e]
    exact q dx hn ne
/-- C(e, ..) of an own exception class over Exception -/
theorem pmk_ex {x : Str} {C fI : Addr} {k : Nat} {fd : FuncData} {ps : List Str} {sp : Sp} (T : ExE X.K C) (iC : PySem.W.findIn X.K (.ref C) "__init__" = some (some (.ref fI))) (tI : PySem.W.typeIn X.K (.ref fI) = some (.type "function"))
    (F1 : FnOk X.prog X.w X.K X.mg X.base (L2.CX X.prog X.w) k fI fd ps sp) (hr : Room (k + 1) X.A) (hb : Binds X.K fd ps []) (hg : Gl X x) (hm : X.mg x = some (.ref C)) (ha : PA X (e :: es) ta)
    (hdb : (x == ("__debug__" : Str)) = false := by decide) (he : starEach (e :: es) X.env = (false, eval e X.env) :: starEach es X.env := by rfl) (hpl : (backTo pos (starEach es X.env)).any (·.1) = false := by rfl) :
    PMk X (.Call (.Name x p) (e :: es) [] pos) (tMkO C sp [] ta) := by
  intro pins s σ H Q I h
  refine wpAny_Call_Name_kw (ld_glob I hg hm ?_ hdb)
  refine PySem.W.callWith_K (h₀ := X.base) I.ok.mod.kin T.keep (thn (ha.run pos pins s σ H _ I h) fun us s1 hu => ?_) he hpl
  obtain ⟨vs, H1, I1, r1, hz, q1⟩ := hu
  refine ⟨I1.kIn, ?_⟩
  obtain ⟨h0, g, dr, tk, os⟩ := s1
  obtain ⟨nm, N, qn, bs, bm, hdct, sn, sub, ab, col, dd, k0, k1, k2, k3, k5, hC, hT⟩ := PySem.W.excInit_of I1.kIn T.ini
  obtain ⟨h2, eh2⟩ : ∃ z, z = (h0.push (PySem.W.kdv_tup us)).push (PySem.HandSPX.excO C h0.objs.size) := ⟨_, rfl⟩
  have grow : h0.objs.size ≤ h0.objs.size + 1 := Nat.le_succ _
  have keepH : ∀ b ob, h0.get? b = some ob → h2.get? b = some ob := fun b ob q => by
    rw [eh2]
    exact Heap.get?_push_of_some _ (Heap.get?_push_of_some _ q)
  have there : h2.get? (h0.objs.size + 1) = some (PySem.HandSPX.excO C h0.objs.size) := by
    rw [eh2]
    heap_get
  have free : H1 (h0.objs.size + 1) = none := I1.hok.fresh grow
  have hq := q1 _ free
  have J : Inv X pins σ (upd H1 (h0.objs.size + 1) (exo (h0.objs.size + 1) C none)) ⟨h2, g, dr, tk, os⟩ := I1.laid (t' := tk) (h' := h2) keepH grow (exo_ok there)
  rw [List.append_nil] at hq
  have rr : Vals (V.ref (h0.objs.size + 1) :: vs) (Value.ref (h0.objs.size + 1) :: us) := .cons rfl r1
  have hl : (Value.ref (h0.objs.size + 1) :: us).length = ps.length := by
    have z := rr.length
    rw [F1.len _ _ _ _ hq] at z
    exact z.symm
  have hus : us.length ≤ sizeLine := by
    rw [← Paired.length r1, sizeLine_eq]
    omega
  have bd := hb ⟨h2, g, dr, tk, os⟩ (Value.ref (h0.objs.size + 1) :: us) J.kIn (by rw [List.append_nil]; exact hl)
  rw [List.append_nil] at bd
  have run := F1.run _ X.stack _ _ ⟨Value.ref (h0.objs.size + 1) :: us, []⟩ _ _ _ _ (hr.make C us []) (J.env0.make C us []) bd rr hq
  show wpAny _ _ (call (.ref C) us) _ _ _
  refine wpAny_call (PySem.HandSPX.call_own PySem.F.excBase_Exception hT hC (PySem.W.looks_findIn I1.kIn iC) (fun self => PySem.W.bind_fn I1.kIn self tI) hus ?_)
  rw [← eh2]
  refine codeAny_mono run fun r s' hr' => ?_
  cases r with
  | error er =>
    obtain ⟨_, _, _, _, _, _, _, _, _, _, _, _, z⟩ := hr'
    exact z.elim
  | ok fl =>
    cases fl with
    | ret u =>
      obtain ⟨v, H2, os2, bare2, un2, hok2, rv, ev, d, fs, ea, ed, hd1, q2⟩ := hr'
      subst ev
      obtain ⟨h3, g3, d3, t3, os3⟩ := s'
      exact ⟨rv, mk_end (raises_own T.sub T.ty) I1 grow keepH un2 hok2 os2 bare2 ea ed hd1 q2⟩
    | next => exact False.elim hr'
    | brk => exact False.elim hr'
    | cont => exact False.elim hr'
end
section
variable {X : Cx} {W : WX} {e : Expr} {es : List Expr} {fa : F (List D)} {p pos pos' : Pos}
def sRaise1 (C : Addr) (f : Str) (fa : F (List D)) : FS := fun L s => (fa L s).bindS L fun ds s1 => match ds with
  | [d] => .ex C [f] [d] L s1
  | _ => .bad
def sRaise2 (C : Addr) (f g : Str) (fa : F (List D)) : FS := fun L s => (fa L s).bindS L fun ds s1 => match ds with
  | [d, d'] => .ex C [g, f] [d', d] L s1
  | _ => .bad
theorem xd_end {H1 : Hp} {a C dx : Addr} {u : HO} {fs : List (Str × V)} (ha : H1 a = none) (hne : dx ≠ a) : upd (del (upd (upd (upd H1 a (exo a C none)) dx u) a (exo a C (some dx))) a) dx (.xd fs) = upd H1 dx (.xd fs) := by
  funext b
  by_cases hb : b = dx
  · subst hb
    rw [upd_same, upd_same]
  · rw [upd_ne hb, upd_ne hb]
    by_cases hc : b = a
    · subst hc
      rw [del_same, ha]
    · rw [del_ne hc, upd_ne hc, upd_ne hb, upd_ne hc]
theorem pS_raise1 {x f : Str} {C fI : Addr} {k : Nat} {fd : FuncData} {ps : List Str} (hc : X.calm = true) (tk : Takes X W) (T : ExE X.K C) (hf : PySem.W.takerIn X.K C f = some none) (iC : PySem.W.findIn X.K (.ref C) "__init__" = some (some (.ref fI))) (tI : PySem.W.typeIn X.K (.ref fI) = some (.type "function"))
    (F1 : FnOk X.prog X.w X.K X.mg X.base (L2.CX X.prog X.w) k fI fd ps (spX1 X.K f)) (hr : Room (k + 1) X.A) (hb : Binds X.K fd ps []) (hm : X.mg x = some (.ref C)) (ha : PA X (e :: es) (tA X.K W fa)) (hg : Gl X x := by rfl)
    (hdb : (x == ("__debug__" : Str)) = false := by decide) (he : starEach (e :: es) X.env = (false, eval e X.env) :: starEach es X.env := by rfl) (hpl : (backTo pos (starEach es X.env)).any (·.1) = false := by rfl) :
    PS X (.Raise (some (.Call (.Name x p) (e :: es) [] pos)) none pos') (tS X.K W (sRaise1 C f fa)) := by
  refine PS.weak (ps_raise hc tk (pmk_ex T iC tI F1 hr hb hg hm ha hdb he hpl)) fun D σ H ⟨mu, s, L, m, l, q⟩ => ⟨mu, s, L, m, l, Post.stepS l q fun ds s1 mu1 H1 vs g1 m1 r1 q1 => ?_⟩
  rcases ds with _ | ⟨d, _ | ⟨d', ds⟩⟩
  · exact q1.elim
  · obtain ⟨v, rfl, rd⟩ := rel1 r1
    refine ⟨by simp, fun a hn => ⟨a, C, v, rfl, T, hf, upd_same, fun dx hdx hne => ⟨rfl, dx, [(f, v)], upd_same, by rw [upd_ne hne, upd_same], by rw [upd_ne hne] at hdx; exact hdx, ?_⟩⟩⟩
    rw [upd_ne hne] at hdx
    rw [xd_end hn hne]
    exact q1 mu1 σ _ (some dx) (Ge.pure m1 hdx) (m1.pure hdx) ((l.mono g1).mono (Ge.pure m1 hdx)) (.inr ⟨dx, [v], rfl, upd_same, m1.fresh hdx, rfl, .cons (rd.mono (Ge.pure m1 hdx)) .nil⟩)
  · exact q1.elim
theorem pS_raise2 {x f f' : Str} {C fI : Addr} {k : Nat} {fd : FuncData} {ps : List Str} (hc : X.calm = true) (tk : Takes X W) (T : ExE X.K C) (hf : PySem.W.takerIn X.K C f = some none) (hf' : PySem.W.takerIn X.K C f' = some none) (iC : PySem.W.findIn X.K (.ref C) "__init__" = some (some (.ref fI))) (tI : PySem.W.typeIn X.K (.ref fI) = some (.type "function"))
    (F1 : FnOk X.prog X.w X.K X.mg X.base (L2.CX X.prog X.w) k fI fd ps (spX2 X.K f f')) (hr : Room (k + 1) X.A) (hb : Binds X.K fd ps []) (hm : X.mg x = some (.ref C)) (ha : PA X (e :: es) (tA X.K W fa)) (hg : Gl X x := by rfl)
    (hdb : (x == ("__debug__" : Str)) = false := by decide) (he : starEach (e :: es) X.env = (false, eval e X.env) :: starEach es X.env := by rfl) (hpl : (backTo pos (starEach es X.env)).any (·.1) = false := by rfl) :
    PS X (.Raise (some (.Call (.Name x p) (e :: es) [] pos)) none pos') (tS X.K W (sRaise2 C f f' fa)) := by
  refine PS.weak (ps_raise hc tk (pmk_ex T iC tI F1 hr hb hg hm ha hdb he hpl)) fun D σ H ⟨mu, s, L, m, l, q⟩ => ⟨mu, s, L, m, l, Post.stepS l q fun ds s1 mu1 H1 vs g1 m1 r1 q1 => ?_⟩
  rcases ds with _ | ⟨d, _ | ⟨d', _ | ⟨d'', ds⟩⟩⟩
  · exact q1.elim
  · exact q1.elim
  · obtain ⟨v, v', rfl, rd, rd'⟩ := rel2 r1
    refine ⟨by simp, fun a hn => ⟨a, C, v, v', rfl, T, hf, hf', upd_same, fun dx hdx hne => ⟨rfl, dx, [(f', v'), (f, v)], upd_same, by rw [upd_ne hne, upd_same], by rw [upd_ne hne] at hdx; exact hdx, ?_⟩⟩⟩
    rw [upd_ne hne] at hdx
    rw [xd_end hn hne]
    exact q1 mu1 σ _ (some dx) (Ge.pure m1 hdx) (m1.pure hdx) ((l.mono g1).mono (Ge.pure m1 hdx)) (.inr ⟨dx, [v', v], rfl, upd_same, m1.fresh hdx, rfl, .cons (rd'.mono (Ge.pure m1 hdx)) (.cons (rd.mono (Ge.pure m1 hdx)) .nil)⟩)
  · exact q1.elim
/-! ### try -/
def RS.drop (i : Nat) : RS → RS
  | .nx L s => .nx (L.set i none) s
  | .rt d s => .rt d s
  | .bk L s => .bk (L.set i none) s
  | .ct L s => .ct (L.set i none) s
  | .ex _ _ _ _ _ => .bad
  | .bad => .bad
open Classical in
/-- the common result, if there is one -/
noncomputable def hAll (g : Addr → Option Addr → RS) : RS := if h : ∃ r, ∀ a od, g a od = r then h.choose else .bad
theorem hAll_of {g : Addr → Option Addr → RS} {r : RS} (h : ∀ a od, g a od = r) : hAll g = r := by
  have hx : ∃ r, ∀ a od, g a od = r := ⟨r, h⟩
  unfold hAll
  rw [dif_pos hx]
  exact (hx.choose_spec 0 none).symm.trans (h 0 none)
theorem hAll_at {g : Addr → Option Addr → RS} (a : Addr) (od : Option Addr) : hAll g = .bad ∨ g a od = hAll g := by
  unfold hAll
  split
  · rename_i h
    exact .inr (h.choose_spec a od)
  · exact .inl rfl
def selOf : List (Addr × Bool) → Addr → Option Bool
  | [], _ => none
  | (c, b) :: r, C => if C = c then some b else selOf r C
theorem selOf_mem {C : Addr} {b : Bool} : ∀ {l : List (Addr × Bool)}, selOf l C = some b → (C, b) ∈ l
  | [], h => by cases h
  | (c, b') :: r, h => by
    unfold selOf at h
    split at h
    · rename_i e
      cases h
      subst e
      exact List.mem_cons_self ..
    · exact List.mem_cons_of_mem _ (selOf_mem h)
noncomputable def sTryAs (i : Nat) (sel : List (Addr × Bool)) (b : FS) (h : Addr → Addr → Option Addr → FS) : FS := fun L s => match b L s with
  | .ex C fs vs L1 s1 => match selOf sel C with
    | some true => hAll fun a od => (h a C od (L1.set i (some (.exc a C od fs vs))) s1).drop i
    | some false => .ex C fs vs L1 s1
    | none => .bad
  | r => r
theorem PostS.drop {K : PySem.W.Frag} {W0 : WX} {D : Ends} {mu : Mu} {H : Hp} {i : Nat} {r : RS} (h : PostS K W0 D mu H (r.drop i)) :
    PostS K (fun _ _ _ _ => False) { nx := fun σ' H' => D.nx (σ'.set i none) H', rt := D.rt, bk := fun σ' H' => D.bk (σ'.set i none) H', ct := fun σ' H' => D.ct (σ'.set i none) H' } mu H r := by
  cases r with
  | nx L s => exact fun mu' σ' H' g m l => h mu' _ H' g m (l.del i)
  | rt d s => exact h
  | bk L s => exact fun mu' σ' H' g m l => h mu' _ H' g m (l.del i)
  | ct L s => exact fun mu' σ' H' g m l => h mu' _ H' g m (l.del i)
  | ex C fs vs L s => exact h.elim
  | bad => exact h
theorem pS_tryAs {x n : Str} {Cx' : Addr} {i : Nat} {body suite : List Stmt} {b₀ : Stmt} {np p1 : Pos} {sel : List (Addr × Bool)} {fb : FS} {fh : Addr → Addr → Option Addr → FS} (hs : X.stack = X.env :: X.outer) (hf : X.env.frame = some X.env.locals) (hN : X.N.Nodup) (hm : X.mg x = some (.ref Cx')) (tk : Takes X W)
    (hsel : ∀ p ∈ sel, PySem.W.exmOne X.K (.ref p.1) (.ref Cx') = some p.2)
    (hb : ∀ (W' : WX) (pn : List (Addr × Obj)) (xe : Value → Shared → Prop), Takes (X.tr pn xe) W' → PassesOwn (model X.prog X.w) X.A X.env xe → PSs (X.tr pn xe) body (tS X.K W' fb))
    (hsu : ∀ (a : Addr) (oe : Obj) (C : Addr) (d : Option Addr) (pn : List (Addr × Obj)), Zc (.ref C) d oe → (∃ vs, oe.data = .fields vs) → PSs (X.suite a ((a, oe) :: pn)) (b₀ :: suite) (tS X.K (fun _ _ _ _ => False) (fh a C d)))
    (hi : X.N[i]? = some n := by rfl) (hln : X.env.kindOf n = some .local := by rfl) (hg : Gl X x := by rfl) (hdb : (x == ("__debug__" : Str)) = false := by decide) :
    PS X (.Try body [.ExceptHandler (some (.Name x np)) (some n) (b₀ :: suite) p1] [] [] pos) (tS X.K W (sTryAs i sel fb fh)) := by
  refine PS.weak (ps_try_as (tb := fun W' => tS X.K W' fb) (ts := fun a cls d D σ H => ∃ C, cls = .ref C ∧ tS X.K (fun _ _ _ _ => False) (fh a C d) D σ H) hs hf hN hi hln ⟨hg, hdb, .inl hm⟩ tk hb fun a oe cls d pn hz hv => ⟨fun pins s σ H D I h => ?_⟩) fun D σ H ⟨mu, s, L, m, l, q⟩ => ⟨mu, s, L, m, l, ?_⟩
  · obtain ⟨C, rfl, h⟩ := h
    exact (hsu a oe C d pn hz hv).run pins s σ H D I h
  · unfold sTryAs at q
    cases eb : fb L s with
    | nx L' s' => rw [eb] at q; exact q
    | rt d s' => rw [eb] at q; exact q
    | bk L' s' => rw [eb] at q; exact q
    | ct L' s' => rw [eb] at q; exact q
    | bad => rw [eb] at q; exact q
    | ex C fs vs L' s' =>
      rw [eb] at q
      intro mu' σ' H' od g' m' l' xr
      dsimp only at q
      cases es : selOf sel C with
      | none =>
        rw [es] at q
        exact q.elim
      | some bb =>
        rw [es] at q
        refine ⟨bb, hsel _ (selOf_mem es), fun hbt a na => ?_, fun hbf => ?_⟩
        · subst hbt
          dsimp only at q
          refine ⟨C, rfl, mu', s', L'.set i (some (.exc a C od fs vs)), m', l'.set i ?_, ?_⟩
          · simp only [RelD]
            rcases xr with ⟨rfl, rfl, rfl⟩ | ⟨d, ws, rfl, h1, h2, h3, h4⟩
            · exact ⟨trivial, [], .inl ⟨rfl, rfl⟩, rfl, .nil⟩
            · exact ⟨trivial, ws, .inr ⟨d, rfl, h1, h2⟩, h3, h4⟩
          · rcases hAll_at (g := fun a od => (fh a C od (L'.set i (some (.exc a C od fs vs))) s').drop i) a od with z | z
            · rw [z] at q
              exact q.elim
            · rw [← z] at q
              exact PostS.drop (PostS.ge g' q)
        · subst hbf
          exact q mu' σ' H' od g' m' l' xr
/-- e.f in the suite -/
def fXf (a0 C0 : Addr) (d0 : Option Addr) (cs : List Addr) (n : Str) (f : F D) : F D := fun L s => (f L s).bind fun d s1 => match d with
  | .exc a C od fs vs => if a = a0 ∧ C = C0 ∧ od = d0 ∧ C ∈ cs then (match (fs.zip vs).lookup n with
    | some r => .ok r s1
    | none => .bad) else .bad
  | _ => .bad
theorem pE_xf {a C : Addr} {oe : Obj} {d : Option Addr} {pn : List (Addr × Obj)} {f : F D} {n : Str} {cs : List Addr} (hC : ∀ C ∈ cs, XfC X.K C ∧ PySem.W.findIn X.K (.ref C) n = some none) (hz : Zc (.ref C) d oe) (hf : ∃ vs, oe.data = .fields vs)
    (he : PE (X.suite a ((a, oe) :: pn)) e (tE X.K W f)) (hb : attributeBase e n X.env (eval e X.env) = eval e X.env := by rfl) : PE (X.suite a ((a, oe) :: pn)) (.Attribute e n pos) (tE X.K W (fXf a C d cs n f)) := by
  refine ⟨fun pins s σ H Q I hq => ?_⟩
  by_cases hc : C ∈ cs
  · refine (pe_xf (hC C hc).1 (hC C hc).2 hz hf he hb).run pins s σ H Q I ?_
    obtain ⟨mu, s', L, m, l, q⟩ := hq
    refine ⟨mu, s', L, m, l, Post.step q fun d1 s1 mu1 H1 v1 g1 m1 r1 p1 => ?_⟩
    cases d1 <;> try exact p1.elim
    dsimp only at p1
    split at p1
    · rename_i hx
      obtain ⟨rfl, rfl, rfl, _⟩ := hx
      simp only [RelD] at r1
      obtain ⟨rfl, ws, hd, hl, rr⟩ := r1
      cases el : (List.zip ‹List Str› ‹List D›).lookup n with
      | none =>
        rw [el] at p1
        exact p1.elim
      | some r =>
        rw [el] at p1
        obtain ⟨v, ev, rv⟩ := zip_look rr el
        rcases hd with ⟨rfl, rfl⟩ | ⟨dd, rfl, h1, h2⟩
        · cases ev
        · exact ⟨rfl, rfl, dd, _, v, rfl, h1, ev, p1 mu1 H1 v (Ge.refl _ _) m1 rv⟩
    · exact p1.elim
  · obtain ⟨mu, s', L, m, l, q⟩ := hq
    refine attr_of hb (thn (he.run pins s σ H (fun _ _ => False) I ⟨mu, s', L, m, l, Post.step q fun d1 s1 mu1 H1 v1 g1 m1 r1 p1 => ?_⟩) fun u s1 hh => ?_)
    · cases d1 <;> try exact p1.elim
      dsimp only at p1
      split at p1
      · rename_i hx
        obtain ⟨_, rfl, _, hmem⟩ := hx
        exact hc hmem
      · exact p1.elim
    · obtain ⟨_, _, _, _, z⟩ := hh
      exact z.elim
end
end SI

namespace PySem.W
open PySem PySem.Calls PyProof.Rows
section
variable {prog : Program} {w : World} {A : Around} {E : Value → Shared → Prop} {s : Shared} {K : Frag} {x C f : Addr} {ox : Obj} {od : Option Obj} {T : String}
/-- x op b by x's own class, b of a built-in class (an object of the heap, too) -/
theorem bin_ownT {op : Operator} {b : Value} {fo ro : Option Value} {Q : Value → Shared → Prop} (kIn : K.In s.heap) (I : InstAt s.heap x ox C od) (hb : Looks (model prog w) s.heap (typeOf b) (.type T)) (hc : selfFirst K C = true)
    (hs : findIn K (.ref C) (PySem.dunder op.info.2) = some (some (.ref f))) (hf : isFn K (.ref f) = true) (hr : findIn K (.ref C) (dunderR op.info.2) = some none)
    (h1 : findIn K (.type T) (PySem.dunder op.info.2) = some fo) (h2 : findIn K (.type T) (dunderR op.info.2) = some ro) (hsub : subIn K (.type T) (.ref C) = some false)
    (run : wpAny (model prog w) A (call (.ref f) [.ref x, b]) (CmpBack Q) E s) : wpAny (model prog w) A (binaryOp op (.ref x) b) Q E s := by
  obtain ⟨cd, rest, hcd, hm⟩ := ksp_first hc
  rcases hi : op.info with ⟨sym, nm'⟩
  rw [hi] at hs hr h1 h2
  dsimp only at hs hr h1 h2
  have mine := ksp_try kIn I hs hf run
  obtain ⟨hh, g, d, tt, os⟩ := s
  have K1 : Looks (model prog w) hh (typeOf (.ref x)) (.ref C) := I.type
  have K2 : Looks (model prog w) hh (typeOf b) (.type T) := hb
  have K3 : Looks (model prog w) hh (fillsNumberSlot (.ref C) nm') true := fills_K kIn hcd hm hs
  have K4 : Looks (model prog w) hh (fillsNumberSlot (.type T) nm') ((fo.isSome && !isSeqSlot fo) || (ro.isSome && !isSeqSlot ro)) := ksp_fillsT kIn h1 h2
  have K5 : Looks (model prog w) hh (isSubtype (.type T) (.ref C)) false := looks_subIn kIn hsub
  have K6 : Looks (model prog w) hh (numberSlotInPython (.ref C) nm') true := ksp_inPy kIn hs hr (.inl rfl)
  have K7 : Looks (model prog w) hh (numberSlotInPython (.type T) nm') false := Looks.of_pure rfl
  have K8 : Looks (model prog w) hh (typeLookup (.type T) (dunderR nm')) ro := looks_findIn kIn h2
  have two : (Value.ref C == Value.type T) = false := Bool.eq_false_iff.mpr fun q => by cases beq_iff_eq.mp q
  generalize ((fo.isSome && !isSeqSlot fo) || (ro.isSome && !isSeqSlot ro)) = rgt at K4
  simp only [binaryOp, hi]
  refine wpAny_holding (wpAny_bind ?_)
  unfold binaryOp1
  refine wpAny_bind (K1.at (wpAny_bind (K2.at (wpAny_bind (K3.at ?_)))))
  simp only [two, Bool.false_eq_true, if_false]
  cases rgt <;> (ksp_lk; refine wpAny_mono mine (fun r s' hr' => ?_) fun _ _ e => e; obtain ⟨v, rfl, hq⟩ := hr'; ksp_lk; exact hq)
end
end PySem.W
namespace SI
open PySem PySem.Spec PyProof.Rows L2
section
variable {X : Cx} {W : WX} {a b : Expr} {f g : F D} {pos : Pos}
/-- the facts of an own operator at the class C -/
def mulB (K : PySem.W.Frag) (C : Addr) (n r : Str) : Bool := tyNames.all fun T => (PySem.W.findIn K (.type T) n).isSome && ((PySem.W.findIn K (.type T) r).isSome && (PySem.W.subIn K (.type T) (.ref C) == some false))
/-- a * b by the __mul__ of a's own class -/
def fBinO (C : Addr) (G : List D → S → R D) (f g : F D) : F D := fun L s => (f L s).bind fun x s1 => (g L s1).bind fun y s2 => match insOf s2 x with
  | some (C', _, _) => if C' = C ∧ ((tyD s2 y).isSome = true ∨ (insOf s2 y).any (fun z => decide (z.1 = C)) = true) then G [x, y] s2 else .bad
  | none => .bad
theorem cmpBack_of {Q : Value → Shared → Prop} {v : V} {u : Value} {s : Shared} (r : L2.RelV v u) (h : Q u s) : PySem.W.CmpBack Q u s := by
  cases v <;> simp only [L2.RelV] at r <;> first | (subst r; exact h) | (obtain ⟨t, rfl⟩ := r; exact h)
theorem pE_binO {op : Operator} {k : Nat} {C fA : Addr} {fd : FuncData} {ps : List Str} {G : List D → S → R D} (T : InsTxt X.K C) (Fo : FnOk X.prog X.w X.K X.mg X.base (L2.CX X.prog X.w) k fA fd ps (spI X.K 2 G)) (hr : Room k X.A) (hb : Binds X.K fd ps []) (tk : Takes X W)
    (hs : PySem.W.findIn X.K (.ref C) (PySem.dunder op.info.2) = some (some (.ref fA))) (hf : PySem.W.isFn X.K (.ref fA) = true) (hn : PySem.W.findIn X.K (.ref C) (dunderR op.info.2) = some none) (hc : PySem.W.selfFirst X.K C = true) (hm : mulB X.K C (PySem.dunder op.info.2) (dunderR op.info.2) = true)
    (ha : PE X a (tE X.K W f)) (hg : PE X b (tE X.K W g)) : PE X (.BinOp a op b pos) (tE X.K W (fBinO C G f g)) := by
  refine ⟨fun pins s σ H Q I hq => ?_⟩
  obtain ⟨mu, s', L, m, l, q⟩ := hq
  have h0 : tE X.K W f σ H fun x H1 => tE X.K W g σ H1 fun y H2 => ∃ (p dx : Addr) (fs : List (Str × V)) (tb : Value), x = .ref p ∧ H2 p = some (.ins C dx fs) ∧ TyX X.K H2 y tb ∧ (tb = .ref C ∨ ∃ n, tb = .type n ∧ n ∈ tyNames) ∧ spI X.K 2 G [x, y] H2 Q (WE W σ) := by
    refine ⟨mu, s', L, m, l, Post.step q fun d1 s1 mu1 H1 v1 g1 m1 r1 p1 => ⟨mu1, s1, L, m1, l.mono g1, Post.step p1 fun d2 s2 mu2 H2 v2 g2 m2 r2 p2 => ?_⟩⟩
    have r1' := r1.mono g2
    cases ei : insOf s2 d1 with
    | none =>
      rw [ei] at p2
      exact p2.elim
    | some z =>
      obtain ⟨C', fs, ds⟩ := z
      rw [ei] at p2
      dsimp only at p2
      split at p2
      · rename_i hx
        obtain ⟨rfl, hx⟩ := hx
        obtain ⟨pa, dx, vs, rfl, eh, hl, rs⟩ := ins_of m2 r1' ei
        have ht : ∃ tb, TyX X.K H2 v2 tb ∧ (tb = .ref C' ∨ ∃ n, tb = .type n ∧ n ∈ tyNames) := by
          rcases hx with h1 | h1
          · obtain ⟨n, en⟩ := Option.isSome_iff_exists.mp h1
            exact ⟨_, ty_of m2 r2 en, .inr ⟨n, rfl, tyD_mem en⟩⟩
          · cases ej : insOf s2 d2 with
            | none =>
              rw [ej] at h1
              cases h1
            | some q =>
              obtain ⟨C2, fs2, ds2⟩ := q
              rw [ej] at h1
              have hC2 : C2 = C' := by simpa using h1
              subst hC2
              exact ⟨_, ty_ins T m2 r2 ej, .inl rfl⟩
        obtain ⟨tb, t1, t2⟩ := ht
        refine ⟨pa, dx, _, tb, rfl, eh, t1, t2, mu2, s2, [d1, d2], m2, .cons r1' (.cons r2 .nil), rfl, ?_⟩
        cases eG : G [d1, d2] s2 with
        | ok d s3 =>
          rw [eG] at p2
          exact p2
        | ex C fs vs s3 =>
          rw [eG] at p2
          exact p2
        | bad =>
          rw [eG] at p2
          exact p2
      · exact p2.elim
  refine wpAny_BinOp (binT ha hg I h0 fun v u s2 x y H2 I2 rx ry hh => ?_)
  obtain ⟨pa, dx, fs, tb, rfl, eh, ht, htb, sp⟩ := hh
  have ev : v = Value.ref pa := rx
  subst ev
  obtain ⟨mA, J, _⟩ := ins_get I2.hok eh
  obtain ⟨od, J, _⟩ := J.look
  obtain ⟨P, Z, pz, _⟩ := kit_of I2 ry ht
  have hty := Z.ty (model X.prog X.w) s2.heap I2.kIn pz
  have run : wpAny (model X.prog X.w) X.A (call (.ref fA) [.ref pa, u]) (PySem.W.CmpBack (EP X pins σ Q)) X.xe s2 := by
    have r2 : Vals [V.ref pa, y] [Value.ref pa, u] := .cons rfl (.cons ry .nil)
    refine thn (run_fnS (E := WE W) Fo hr hb (passAt tk σ) I2 r2 sp) fun w s3 hw => ?_
    obtain ⟨v', H3, I3, rv, q3⟩ := id hw
    exact cmpBack_of rv hw
  obtain ⟨mF, hF⟩ := I2.fr
  rcases htb with rfl | ⟨n, rfl, hmem⟩
  · exact PySem.W.binop_K hF I2.ok.mod.kin J hty hc hs hf run
  · have hx := List.all_eq_true.mp hm n hmem
    obtain ⟨h1, hx⟩ := Bool.and_eq_true_iff.mp hx
    obtain ⟨h2, h3⟩ := Bool.and_eq_true_iff.mp hx
    obtain ⟨fo, h1⟩ := Option.isSome_iff_exists.mp h1
    obtain ⟨ro, h2⟩ := Option.isSome_iff_exists.mp h2
    exact PySem.W.bin_ownT I2.kIn J hty hc hs hf hn h1 h2 (beq_iff_eq.mp h3) run
/-! ### any, all of a list of bools -/
def blsOf : List D → Option (List Bool)
  | [] => some []
  | .bl b :: r => (blsOf r).map (b :: ·)
  | _ => none
theorem bls_rel {K : PySem.W.Frag} {mu : Mu} {H : Hp} : ∀ {ds : List D} {vs : List V} {bs : List Bool}, RelDs K mu H ds vs → blsOf ds = some bs → vs = bs.map V.bl
  | [], vs, bs, r, e => by
    simp only [RelDs] at r
    cases e
    rw [r]
    rfl
  | d :: ds, vs, bs, r, e => by
    simp only [RelDs] at r
    obtain ⟨v, vr, rfl, h1, h2⟩ := r
    cases d <;> simp only [blsOf] at e <;> try cases e
    obtain ⟨bs', e', rfl⟩ := Option.map_eq_some_iff.mp e
    rw [rel_bl.mp h1, bls_rel h2 e']
    rfl
def bAll (s : S) : List D → Option D
  | [d] => ((lstOf s d).bind blsOf).map fun bs => .bl (bs.all id)
  | _ => none
def bAny (s : S) : List D → Option D
  | [d] => ((lstOf s d).bind blsOf).map fun bs => .bl (bs.any id)
  | _ => none
theorem cbl_all {K : PySem.W.Frag} : CbL K (rAll K) bAll := by
  intro mu s H ds d vs Q m r e q
  rcases ds with _ | ⟨d1, _ | ⟨d2, ds⟩⟩
  · cases e
  · obtain ⟨v, rfl, r1⟩ := rel1 r
    obtain ⟨bs, e1, rfl⟩ := Option.map_eq_some_iff.mp e
    obtain ⟨xs, e2, e3⟩ := Option.bind_eq_some_iff.mp e1
    obtain ⟨a, vs, rfl, h2, h3⟩ := sq_lstOf m r1 e2
    exact ⟨a, bs, rfl, by rw [← bls_rel h3 e3]; exact h2, q mu H _ (Ge.refl _ _) m (rel_bl.mpr rfl)⟩
  · cases e
theorem cbl_any {K : PySem.W.Frag} : CbL K (rAny K) bAny := by
  intro mu s H ds d vs Q m r e q
  rcases ds with _ | ⟨d1, _ | ⟨d2, ds⟩⟩
  · cases e
  · obtain ⟨v, rfl, r1⟩ := rel1 r
    obtain ⟨bs, e1, rfl⟩ := Option.map_eq_some_iff.mp e
    obtain ⟨xs, e2, e3⟩ := Option.bind_eq_some_iff.mp e1
    obtain ⟨a, vs, rfl, h2, h3⟩ := sq_lstOf m r1 e2
    exact ⟨a, bs, rfl, by rw [← bls_rel h3 e3]; exact h2, q mu H _ (Ge.refl _ _) m (rel_bl.mpr rfl)⟩
  · cases e
theorem pE_all {e : Expr} {fa : F (List D)} {p : Pos} (hc : X.calm = true) (hm : X.mg "all" = none) (ha : PA X [e] (tA X.K W fa)) (hg : Gl X "all" := by rfl) (he : starEach [e] X.env = (false, eval e X.env) :: starEach [] X.env := by rfl) :
    PE X (.Call (.Name "all" p) [e] [] pos) (tE X.K W (fCB bAll fa)) := pE_cb (cr_all hc) cbl_all hm (by decide +kernel) ha hg (by decide) (by decide) he rfl
theorem pE_any {e : Expr} {fa : F (List D)} {p : Pos} (hc : X.calm = true) (hm : X.mg "any" = none) (ha : PA X [e] (tA X.K W fa)) (hg : Gl X "any" := by rfl) (he : starEach [e] X.env = (false, eval e X.env) :: starEach [] X.env := by rfl) :
    PE X (.Call (.Name "any" p) [e] [] pos) (tE X.K W (fCB bAny fa)) := pE_cb (cr_any hc) cbl_any hm (by decide +kernel) ha hg (by decide) (by decide) he rfl
/-! ### calls without arguments -/
theorem pE_call0 {x : Str} {p : Pos} {k : Nat} {fA : Addr} {fd : FuncData} {ps : List Str} {G : List D → S → R D} (Fo : FnOk X.prog X.w X.K X.mg X.base (L2.CX X.prog X.w) k fA fd ps (spI X.K 0 G)) (hr : Room k X.A) (hm : X.mg x = some (.ref fA)) (hk : PySem.W.keepIn X.K (.ref fA) = true) (hb : Binds X.K fd ps []) (tk : Takes X W)
    (hg : Gl X x := by rfl) (hdb : (x == ("__debug__" : Str)) = false := by decide) : PE X (.Call (.Name x p) [] [] pos) (tE X.K W (fCall 0 G fNil)) := by
  refine ⟨fun pins s σ H Q I hq => ?_⟩
  refine wpAny_Call_Name_kw (ld_glob I hg hm ?_ hdb)
  obtain ⟨mu, s', L, m, l, q⟩ := hq
  have sp : spI X.K 0 G [] H Q (WE W σ) := by
    refine ⟨mu, s', [], m, .nil, rfl, ?_⟩
    have q1 : Post X.K W (RelD X.K) σ mu H Q (G [] s') := q
    cases eg : G [] s' <;> (rw [eg] at q1; exact q1)
  exact PySem.W.callWith_K0 I.kIn hk (run_fnS (E := WE W) Fo hr hb (passAt tk σ) (I.tok _) .nil sp)
/-- an own exception class without own __init__ -/
structure Ex0 (K : PySem.W.Frag) (C : Addr) : Prop where
  ini : PySem.W.excIn K C exTail "Exception.__new__" = true
  sub : PySem.W.subIn K (.ref C) (.type "BaseException") = some true
  ty : PySem.W.typeIn K (.ref C) = some (.type "type")
  keep : PySem.W.keepIn K (.ref C) = true
def sRaise0 (C : Addr) : FS := fun L s => .ex C [] [] L s
theorem pS_raise0 {x : Str} {C : Addr} {p p' : Pos} (hc : X.calm = true) (tk : Takes X W) (T : Ex0 X.K C) (hm : X.mg x = some (.ref C)) (hg : Gl X x := by rfl) (hdb : (x == ("__debug__" : Str)) = false := by decide) :
    PS X (.Raise (some (.Call (.Name x p) [] [] pos)) none p') (tS X.K W (sRaise0 C)) := by
  have mk : PMk X (.Call (.Name x p) [] [] pos) (fun _ H Q => Q (.ref C) none H) := by
    intro pins s σ H Q I h
    refine wpAny_Call_Name_kw (ld_glob I hg hm ?_ hdb)
    refine PySem.W.callWith_K0 I.kIn T.keep ?_
    show wpAny _ _ (call (.ref C) []) _ _ _
    obtain ⟨bm, N, nm, qn, bs, hdct, sn, sub, ab, col, dd, k0, k1, k2, k3, k5, mN, hC, hN, hni, tl⟩ := exc_obj I.kIn T.ini
    exact wpAny_call_exc_subT PySem.F.excBase_Exception tl hC hN hni (fun h' e hx => mk_of (I.tok _) hx (raises_own T.sub T.ty) h (I.hok.gone hx.new)) (Nat.zero_le _)
  exact PS.weak (ps_raise hc tk mk) fun D σ H ⟨mu, s, L, m, l, q⟩ => q mu σ H none (Ge.refl _ _) m l (.inl ⟨rfl, rfl, rfl⟩)
def RS.calm : RS → RS
  | .ex _ _ _ _ _ => .bad
  | r => r
/-- try .. except C: -/
def sTry (sel : List (Addr × Bool)) (b h : FS) : FS := fun L s => match b L s with
  | .ex C fs vs L1 s1 => match selOf sel C with
    | some true => (h L1 s1).calm
    | some false => .ex C fs vs L1 s1
    | none => .bad
  | r => r
theorem PostS.calm {K : PySem.W.Frag} {W0 : WX} {D : Ends} {mu : Mu} {H : Hp} {r : RS} (h : PostS K W0 D mu H r.calm) : PostS K (fun _ _ _ _ => False) D mu H r := by
  cases r with
  | ex C fs vs L s => exact h.elim
  | nx L s => exact h
  | rt d s => exact h
  | bk L s => exact h
  | ct L s => exact h
  | bad => exact h
theorem pS_try {x : Str} {Cx' : Addr} {body suite : List Stmt} {b₀ : Stmt} {np p1 : Pos} {sel : List (Addr × Bool)} {fb fh : FS} (hs : X.stack = X.env :: X.outer) (hf : X.env.frame = some X.env.locals) (hm : X.mg x = some (.ref Cx')) (tk : Takes X W)
    (hsel : ∀ p ∈ sel, PySem.W.exmOne X.K (.ref p.1) (.ref Cx') = some p.2)
    (hb : ∀ (W' : WX) (pn : List (Addr × Obj)) (xe : Value → Shared → Prop), Takes (X.tr pn xe) W' → PassesOwn (model X.prog X.w) X.A X.env xe → PSs (X.tr pn xe) body (tS X.K W' fb))
    (hsu : ∀ (a : Addr) (oe : Obj) (C : Addr) (d : Option Addr) (pn : List (Addr × Obj)), Zc (.ref C) d oe → (∃ vs, oe.data = .fields vs) → PSs (X.suite a ((a, oe) :: pn)) (b₀ :: suite) (tS X.K (fun _ _ _ _ => False) fh))
    (hg : Gl X x := by rfl) (hdb : (x == ("__debug__" : Str)) = false := by decide) :
    PS X (.Try body [.ExceptHandler (some (.Name x np)) none (b₀ :: suite) p1] [] [] pos) (tS X.K W (sTry sel fb fh)) := by
  refine PS.weak (ps_try_only (tb := fun W' => tS X.K W' fb) (ts := fun a cls d D σ H => ∃ C, cls = .ref C ∧ tS X.K (fun _ _ _ _ => False) fh D σ H) hs hf ⟨hg, hdb, .inl hm⟩ tk hb fun a oe cls d pn hz hv => ⟨fun pins s σ H D I h => ?_⟩) fun D σ H ⟨mu, s, L, m, l, q⟩ => ⟨mu, s, L, m, l, ?_⟩
  · obtain ⟨C, rfl, h⟩ := h
    exact (hsu a oe C d pn hz hv).run pins s σ H D I h
  · unfold sTry at q
    cases eb : fb L s with
    | nx L' s' => rw [eb] at q; exact q
    | rt d s' => rw [eb] at q; exact q
    | bk L' s' => rw [eb] at q; exact q
    | ct L' s' => rw [eb] at q; exact q
    | bad => rw [eb] at q; exact q
    | ex C fs vs L' s' =>
      rw [eb] at q
      intro mu' σ' H' od g' m' l' xr
      dsimp only at q
      cases es : selOf sel C with
      | none =>
        rw [es] at q
        exact q.elim
      | some bb =>
        rw [es] at q
        refine ⟨bb, hsel _ (selOf_mem es), fun hbt a na => ?_, fun hbf => ?_⟩
        · subst hbt
          exact ⟨C, rfl, mu', s', L', m', l', PostS.calm (PostS.ge g' q)⟩
        · subst hbf
          exact q mu' σ' H' od g' m' l' xr
end
end SI

namespace PySem
open Sem (wp)
open AutoSeq1 (wpAny_loadPart')
theorem meets_enum_newT (l : Addr) (xs : Array Value) (n : Nat) (dct : Option Addr) (sl : Array (Option Value)) :
    Meets (Builtin.«enumerate.__new__» ⟨[.type "enumerate", .ref l], []⟩) (fun _ R s => s.heap.get? l = some { cls := .type "tuple", dict := dct, data := .seq xs n, slots := sl } ∧
      R (.ok (.ret (.ref (s.heap.push { cls := .type "tuple_iterator", data := .fields #[.ref l, .int 0 0] }).objs.size)))
        { s with heap := (s.heap.push { cls := .type "tuple_iterator", data := .fields #[.ref l, .int 0 0] }).push { cls := .type "enumerate", data := .fields #[.none, .bool false, .ref s.heap.objs.size, rawInt 0, .none, .none] } }) :=
  .of_wp fun prog w A R s hyp => by
    obtain ⟨hp, g, d, tk, os⟩ := s; obtain ⟨ho, h⟩ := hyp
    have hsub := sub_enumerate
    have isT : Heap.IsTuple (Shared.heap ⟨hp, g, d, tk, os⟩) l xs := ⟨_, ho, rfl, n, rfl⟩
    wp_walk using wpAny_loadPart' ho
    refine wpAny_stack_any fun st => wpAny_pure ?_
    split
    · rename_i c _ _ _ _ _
      cases (c == Value.type "enumerate") <;> (wp_walk using wpAny_loadPart' ho, wpAny_pyIter_tuple isT; exact ⟨_, rfl, h⟩)
    · wp_walk using wpAny_loadPart' ho, wpAny_pyIter_tuple isT
      exact ⟨_, rfl, h⟩
section
variable {prog : Program} {w : World} {A : Around} {E : Value → Shared → Prop} {s : Shared}
theorem call_enum_tuple {l : Addr} {xs : Array Value} {Q : Value → Shared → Prop} (isT : s.heap.IsTuple l xs)
    (k : ∀ h2, IsEnum h2 (s.heap.objs.size + 1) s.heap.objs.size 0 .none → h2.IsTupleIter s.heap.objs.size l 0 → h2.objs.size = s.heap.objs.size + 2 →
      (∀ b o, s.heap.get? b = some o → h2.get? b = some o) → Q (.ref (s.heap.objs.size + 1)) { s with heap := h2 }) :
    wpAny (model prog w) A (call (.type "enumerate") [.ref l]) Q E s := by
  obtain ⟨⟨c, dct, dt, sl⟩, ho, hc, n, hd⟩ := isT
  replace hc : c = .type "tuple" := hc
  replace hd : dt = .seq xs n := hd
  subst hc hd
  refine callType_new F.called_enumerate (by decide) (F.typeCall_enumerate_1 _) (F.newCall_enumerate_1 _) (fun obj => F.args_object_init_2 obj _) F.entry_enumerate_new (meets_enum_newT l xs n dct sl) ⟨ho, ?_⟩
  obtain ⟨h1, e1⟩ : ∃ z, z = s.heap.push { cls := .type "tuple_iterator", data := .fields #[.ref l, .int 0 0] } := ⟨_, rfl⟩
  have sz : h1.objs.size = s.heap.objs.size + 1 := by
    rw [e1]
    exact Heap.size_push ..
  show _ ∧ _
  rw [← e1, sz]
  have en : IsEnum (h1.push { cls := .type "enumerate", data := .fields #[.none, .bool false, .ref s.heap.objs.size, rawInt 0, .none, .none] }) (s.heap.objs.size + 1) s.heap.objs.size 0 .none := by
    have z := Heap.get?_push_size h1 (o := { cls := .type "enumerate", data := .fields #[.none, .bool false, .ref s.heap.objs.size, rawInt 0, .none, .none] }) rfl
    rw [sz] at z
    exact z
  refine ⟨⟨_, en, rfl⟩, k _ en ⟨_, Heap.get?_push_of_some _ (by rw [e1]; exact Heap.get?_push_size _ rfl), rfl, rfl⟩ (by rw [Heap.size_push, sz]) fun b o q => Heap.get?_push_of_some _ (by rw [e1]; exact Heap.get?_push_of_some _ q)⟩
end
end PySem
namespace L2
open PySem PySem.Spec PyProof.Rows
/-- enumerate(tuple): each item in a new pair -/
def IteT (K : PySem.W.Frag) (a : Addr) : It :=
  ⟨fun i H => ∃ (xs : List V) (x : V), SqT K H a xs ∧ xs[i]? = some x, fun i H v H' => ∃ T x, v = .ref T ∧ H T = none ∧ H' = upd H T (.tup [.int (i : Nat), x]) ∧ ∀ xs, SqT K H a xs → xs[i]? = some x, fun i H => ∃ xs : List V, SqT K H a xs ∧ xs.length ≤ i⟩
theorem turn_enumT {P : Program} {w : World} {K : PySem.W.Frag} {elts : List Expr} {kk : Nat} {tpos : Pos} (a e it : Addr) :
    Turn P w K (.Tuple elts kk tpos) (IteT K a) [e, it] e (fun i h => (∃ old, IsEnum h e it ((i : Nat) : Int) old) ∧ h.IsTupleIter it a i ∧ e ≠ it) where
  mem := by simp
  obj := fun i h st b hb => by
    obtain ⟨⟨old, he⟩, ⟨o, ho, hc, hd⟩, _⟩ := st
    have cs : b = e ∨ b = it := by simpa using hb
    rcases cs with z | z
    · rw [z]; exact ⟨_, he, fun v q => nomatch q⟩
    · rw [z]; exact ⟨o, ho, fun v q => by rw [hd] at q; cases q⟩
  keep := fun i h h' st k => by
    obtain ⟨⟨old, he⟩, hi, hne⟩ := st
    exact ⟨⟨old, k e (by simp) _ he⟩, hi.at fun o q => k it (by simp) o q, hne⟩
  item := by
    intro X hP hw hK hc i pins s σ H E I hf st hg
    subst hP hw hK
    obtain ⟨⟨old, he⟩, hit, hne⟩ := st
    obtain ⟨xs, x, hq, hx⟩ := hg
    obtain ⟨its, rv, p, hz⟩ := I.tuple hq
    obtain ⟨u, hu, ru⟩ := rv.get hx
    have hel : e < s.heap.objs.size := Heap.lt_size he
    have hil : it < s.heap.objs.size := by obtain ⟨_, q, _⟩ := hit; exact Heap.lt_size q
    have hisT : s.heap.IsTuple a its.toArray := p
    have nae : e ≠ a := fun z => by
      obtain ⟨o, q1, q2, _⟩ := hisT
      rw [← z] at q1
      have q3 : s.heap.get? e = _ := he
      rw [q3] at q1
      cases q1
      exact absurd (Value.type.inj q2) (by decide)
    have nai : a ≠ it := fun z => by
      obtain ⟨o, q1, q2, _⟩ := hisT
      obtain ⟨o', r1, r2, _⟩ := hit
      rw [z, r1] at q1
      cases q1
      rw [r2] at q2
      exact absurd (Value.type.inj q2) (by decide)
    have hlt : i < its.toArray.size := by
      have := (List.getElem?_eq_some_iff.mp hu).1
      simpa using this
    refine wpAny_pyNext_enum_itemD (Draws.tuple (A := X.A.in1) (I.ok.hd hc) it a nai its.toArray) he ⟨hit, hisT⟩ hlt hne (by simp [hne, nae]) fun y h' tk py ho st' hT hsz hk => ?_
    have hy : y = u := by
      have z : its[i]? = some y := by simpa using py
      rw [hu] at z
      cases z
      rfl
    subst hy
    refine ⟨_, rfl, wpAny_letOwnedTupleGo_enum (s := { s with heap := h', toks := tk + 1 }) ho fun h'' he' sb => ?_⟩
    have hT2 : h''.get? s.heap.objs.size = some { cls := .type "tuple", data := .seq #[.int i tk, y] } := (sb.2 _ (Nat.ne_of_gt hel)).trans hT
    have new : ObjOk X.prog X.w (upd H s.heap.objs.size (.tup [.int (i : Nat), x])) h'' s.heap.objs.size (.tup [.int (i : Nat), x]) :=
      ⟨by show 2 ≤ sizeLine; decide, [.int i tk, y], .cons ⟨_, rfl⟩ (.cons ru .nil), ⟨_, hT2, rfl, _, rfl⟩⟩
    have J : Inv X pins σ (upd H s.heap.objs.size (.tup [.int (i : Nat), x])) { s with heap := h'', toks := tk + 1 } :=
      I.turnedNew (ch := [e, it]) (fun b ob hb q => (sb.2 b (fun z => hb (by simp [z]))).trans (hk b ob (fun z => hb (by simp [z])) (fun z => hb (by simp [z])) q)) hf (Nat.le_refl _) new
    refine ⟨.ref s.heap.objs.size, _, J, rfl, ⟨_, x, rfl, I.hok.fresh (Nat.le_refl _), rfl, fun ys hy => by rw [I.tuple_inj hy hq]; exact hx⟩, ⟨⟨y, ?_⟩, st'.1.at fun o q => (sb.2 it (Ne.symm hne)).trans q, hne⟩, fun b hb => ?_⟩
    · have cast : ((i + 1 : Nat) : Int) = (i : Int) + 1 := by omega
      rw [cast]; exact he'
    · have low : b < s.heap.objs.size := by
        have cs : b = e ∨ b = it := by simpa using hb
        rcases cs with z | z
        · rw [z]; exact hel
        · rw [z]; exact hil
      rw [upd_ne (Nat.ne_of_lt low)]
      exact (hf b hb).1
  done := by
    intro X hP hw hK hc i pins s σ H E I hf st hg
    subst hP hw hK
    obtain ⟨⟨old, he⟩, hit, hne⟩ := st
    obtain ⟨xs, hq, hx⟩ := hg
    obtain ⟨its, rv, p, hz⟩ := I.tuple hq
    obtain ⟨f0, f1, f2, f3, f4, f5⟩ := hf it (by simp)
    have hisT : s.heap.IsTuple a its.toArray := p
    have nai : a ≠ it := fun z => by
      obtain ⟨o, q1, q2, _⟩ := hisT
      obtain ⟨o', r1, r2, _⟩ := hit
      rw [z, r1] at q1
      cases q1
      rw [r2] at q2
      exact absurd (Value.type.inj q2) (by decide)
    have ends : its.toArray[i]? = none := by
      rw [Array.getElem?_eq_none_iff]
      have := rv.length
      simp
      omega
    have dr : Draws X.prog X.w X.A.in1 it [it, a] i (fun _ _ => True) (fun j h => (h.IsTupleIter it a j ∧ h.IsTuple a its.toArray) ∧ j = i) := {
      live := fun _ _ st => by
        obtain ⟨o, ho, _⟩ := st.1.1
        exact ⟨o, ho⟩
      frame := fun _ _ _ st hk => ⟨⟨st.1.1.at fun o q => hk it (by simp) o q, st.1.2.at fun o q => hk a (by simp) o q⟩, st.2⟩
      item := fun j s Q E hj st _ => absurd hj (by rw [st.2]; exact Nat.lt_irrefl _)
      done := fun s Q E st hE => wpAny_nextOf_tuple_end (I.ok.hd hc) st.1.1 st.1.2 ends hE }
    exact wpAny_pyNext_enum_endD dr he ⟨⟨hit, hisT⟩, rfl⟩ fun h' eb => ⟨rfl, I.turned (t' := s.toks) (fun b o hb q => eb b o hb q) f0 f1 f3 f4 f5⟩
  self := fun A i s Q E st h => let ⟨⟨_, he⟩, _⟩ := st; wpAny_pyIter_enum he h
def iEnumT (K : PySem.W.Frag) (ta : TA) : TI := fun σ H R => ta σ H fun vs H1 => ∃ a xs, vs = [.ref a] ∧ SqT K H1 a xs ∧ R (IteT K a) H1
theorem pi_enumT {X : Cx} {e : Expr} {ta : TA} {p pos tpos : Pos} {elts : List Expr} {kk : Nat} (hg : Gl X "enumerate") (hm : X.mg "enumerate" = none) (ha : PA X [e] ta) (hs : starEach [e] X.env = [(false, eval e X.env)] := by rfl) :
    PI X (.Tuple elts kk tpos) (.Call (.Name "enumerate" p) [e] [] pos) (iEnumT X.K ta) := by
  refine ⟨fun pins s σ H R I h => Call_ (ld_blt I hg hm boot_enumerate (PyProof.Rows.callWith_type1 (thn (ha.run pos pins s σ H _ I h) fun us s1 hu => ?_) hs rfl))⟩
  obtain ⟨vs, H1, I1, r1, a, xs, ex, hq, q⟩ := hu
  subst ex
  obtain ⟨u, rfl, ru⟩ := Vals.one r1
  have eu : u = Value.ref a := ru
  subst eu
  obtain ⟨its, rv, pT, hz⟩ := I1.tuple hq
  refine call_enum_tuple pT fun h2 he hit hsz hk => wpAny_pyIter_enum he ?_
  refine ⟨s1.heap.objs.size + 1, [s1.heap.objs.size + 1, s1.heap.objs.size], _, _, H1, rfl, I1.kept (h' := h2) (t' := s1.toks) hk, turn_enumT a (s1.heap.objs.size + 1) s1.heap.objs.size, ⟨⟨.none, he⟩, hit, Nat.succ_ne_self _⟩, fun b hb => ?_, q⟩
  have hle : s1.heap.objs.size ≤ b := by
    have cs : b = s1.heap.objs.size + 1 ∨ b = s1.heap.objs.size := by simpa using hb
    rcases cs with z | z
    · exact z ▸ Nat.le_succ _
    · exact z ▸ Nat.le_refl _
  exact I1.fpOk hle (I1.hok.fresh hle)
end L2
namespace SI
open PySem PySem.Spec PyProof.Rows L2
section
variable {X : Cx} {W : WX} {e : Expr} {fa : F (List D)} {pos : Pos}
def enumI : Nat → List D → List D
  | _, [] => []
  | i, x :: r => .tup [.int (i : Nat), x] :: enumI (i + 1) r
theorem enum_get : ∀ (xs : List D) (k i : Nat), (enumI k xs)[i]? = (xs[i]?).map fun x => D.tup [.int ((k + i : Nat) : Int), x]
  | [], k, i => by simp [enumI]
  | x :: r, k, 0 => by simp [enumI]
  | x :: r, k, i + 1 => by
    have := enum_get r (k + 1) i
    simp only [enumI, List.getElem?_cons_succ, this]
    rw [show k + 1 + i = k + (i + 1) by omega]
def iEnu (s : S) : D → Option Src
  | .lst xs => some ⟨enumI 0 xs, none⟩
  | .rdl xs => some ⟨enumI 0 xs, none⟩
  | .tup xs => some ⟨enumI 0 xs, none⟩
  | .ref n => match s[n]? with
    | some (.lst xs) => some ⟨enumI 0 xs, some (n, xs)⟩
    | _ => none
  | _ => none
def fEnu (fa : F (List D)) : F Src := fun L s => (fa L s).bind fun ds s1 => match ds with
  | [d] => match iEnu s1 d with
    | some r => .ok r s1
    | none => .bad
  | _ => .bad
theorem pair_rel {K : PySem.W.Frag} {mu : Mu} {s : S} {H : Hp} {d : D} {v : V} {i : Int} {T : Addr} (m : Sim K mu s H) (hT : H T = none) (r : RelD K mu H d v) :
    Ge mu H mu (upd H T (.tup [.int i, v])) ∧ Sim K mu s (upd H T (.tup [.int i, v])) ∧ RelD K mu (upd H T (.tup [.int i, v])) (.tup [.int i, d]) (.ref T) := by
  refine ⟨Ge.pure m hT, m.pure hT, ?_⟩
  simp only [RelD]
  exact ⟨T, _, rfl, .inr ⟨upd_same, m.fresh hT⟩, .cons (rel_int.mpr rfl) (.cons (r.mono (Ge.pure m hT)) .nil)⟩
theorem itr_enuL {K : PySem.W.Frag} {mu : Mu} {H : Hp} {ds : List D} {a : Addr} {on : Option (Nat × List D)} (h : ∀ mu' s' H', Ge mu H mu' H' → Sim K mu' s' H' → chk ⟨enumI 0 ds, on⟩ s' = true → ∃ vs, SqL K H' a vs ∧ RelDs K mu' H' ds vs) : ItR K mu H (Ite K a) ⟨enumI 0 ds, on⟩ := by
  intro mu' s' H' g m hk i
  obtain ⟨vs, sq, rs⟩ := h mu' s' H' g m hk
  refine ⟨fun d e => ?_, fun e => ?_⟩
  · have e1 : (enumI 0 ds)[i]? = some d := e
    rw [enum_get] at e1
    obtain ⟨x, ex, rfl⟩ := Option.map_eq_some_iff.mp e1
    obtain ⟨v, ev, rv⟩ := rs.get ex
    refine ⟨⟨vs, v, sq, ev⟩, fun y H2 hy => ?_⟩
    obtain ⟨T, z, rfl, hT, rfl, hz⟩ := hy
    have := hz vs sq
    rw [ev] at this
    cases this
    rw [show (0 + i : Nat) = i by omega]
    exact pair_rel m hT rv
  · refine ⟨vs, sq, ?_⟩
    have e1 : (enumI 0 ds)[i]? = none := e
    rw [enum_get, Option.map_eq_none_iff] at e1
    have h1 := List.getElem?_eq_none_iff.mp e1
    have h2 := rs.length
    omega
theorem itr_enuT {K : PySem.W.Frag} {mu : Mu} {H : Hp} {ds : List D} {a : Addr} {vs : List V} (h : KTup K a vs ∨ Fix mu H a (.tup vs)) (rs : RelDs K mu H ds vs) : ItR K mu H (IteT K a) ⟨enumI 0 ds, none⟩ := by
  intro mu' s' H' g m _ i
  have sq : SqT K H' a vs := h.elim .inr fun z => .inl (.inl (g.fix z).1)
  have rs' := rs.mono g
  refine ⟨fun d e => ?_, fun e => ?_⟩
  · have e1 : (enumI 0 ds)[i]? = some d := e
    rw [enum_get] at e1
    obtain ⟨x, ex, rfl⟩ := Option.map_eq_some_iff.mp e1
    obtain ⟨v, ev, rv⟩ := rs'.get ex
    refine ⟨⟨vs, v, sq, ev⟩, fun y H2 hy => ?_⟩
    obtain ⟨T, z, rfl, hT, rfl, hz⟩ := hy
    have := hz vs sq
    rw [ev] at this
    cases this
    rw [show (0 + i : Nat) = i by omega]
    exact pair_rel m hT rv
  · refine ⟨vs, sq, ?_⟩
    have e1 : (enumI 0 ds)[i]? = none := e
    rw [enum_get, Option.map_eq_none_iff] at e1
    have h1 := List.getElem?_eq_none_iff.mp e1
    have h2 := rs'.length
    omega
theorem pI_enum {p tpos : Pos} {elts : List Expr} {kk : Nat} (hm : X.mg "enumerate" = none) (ha : PA X [e] (tA X.K W fa)) (hg : Gl X "enumerate" := by rfl) (hs : starEach [e] X.env = [(false, eval e X.env)] := by rfl) :
    PI X (.Tuple elts kk tpos) (.Call (.Name "enumerate" p) [e] [] pos) (tI X.K W (fEnu fa)) := by
  refine PI.weak (PI.or (pi_enum hg hm ha hs) (pi_enumT hg hm ha hs)) fun σ H Rr ⟨mu, s, L, m, l, q⟩ => ?_
  unfold fEnu at q
  cases ef : fa L s with
  | bad =>
    rw [ef] at q
    exact q.elim
  | ex C fs ds s' =>
    rw [ef] at q
    exact .inl ⟨mu, s, L, m, l, by rw [ef]; exact q⟩
  | ok ds s1 =>
    rw [ef] at q
    simp only [R.bind] at q
    rcases ds with _ | ⟨d, _ | ⟨d2, ds⟩⟩
    · exact q.elim
    · cases d <;> simp only [iEnu] at q <;> try exact q.elim
      · rename_i n
        cases en : s1[n]? with
        | none =>
          rw [en] at q
          exact q.elim
        | some o =>
          rw [en] at q
          cases o <;> try exact q.elim
          rename_i xs
          refine .inl ⟨mu, s, L, m, l, ?_⟩
          rw [ef]
          intro mu' H' vs g' m' r'
          obtain ⟨v, rfl, r1⟩ := rel1 r'
          obtain ⟨a, ws, ev, ea, eh, rs⟩ := sq_ref m' r1 en
          subst ev
          refine ⟨a, ws, rfl, .of eh, q mu' H' _ g' m' (itr_enuL fun mu2 s2 H2 g2 m2 hk => ?_)⟩
          have e2 : s2[n]? = some (.lst xs) := by simpa [chk] using hk
          obtain ⟨b, us, eb, ec, ed, rs2⟩ := sq_ref (v := .ref a) m2 (by simp only [RelD]; exact ⟨a, g2.rf n a ea, rfl⟩) e2
          cases eb
          exact ⟨us, .of ed, rs2⟩
      · rename_i xs
        refine .inr ⟨mu, s, L, m, l, ?_⟩
        rw [ef]
        intro mu' H' vs g' m' r'
        obtain ⟨v, rfl, r1⟩ := rel1 r'
        simp only [RelD] at r1
        obtain ⟨a, ws, rfl, hk, rs⟩ := r1
        exact ⟨a, ws, rfl, hk.elim .inr fun z => .inl (.inl z.1), q mu' H' _ g' m' (itr_enuT hk rs)⟩
      · rename_i xs
        refine .inl ⟨mu, s, L, m, l, ?_⟩
        rw [ef]
        intro mu' H' vs g' m' r'
        obtain ⟨v, rfl, r1⟩ := rel1 r'
        simp only [RelD] at r1
        obtain ⟨a, ws, rfl, hk, rs⟩ := r1
        exact ⟨a, ws, rfl, .of hk.1, q mu' H' _ g' m' (itr_enuL fun mu2 s2 H2 g2 m2 _ => ⟨ws, .of (g2.fix hk).1, rs.mono g2⟩)⟩
      · rename_i xs
        refine .inl ⟨mu, s, L, m, l, ?_⟩
        rw [ef]
        intro mu' H' vs g' m' r'
        obtain ⟨v, rfl, r1⟩ := rel1 r'
        simp only [RelD] at r1
        obtain ⟨a, ws, rfl, hk, rs⟩ := r1
        exact ⟨a, ws, rfl, hk.elim .inr fun z => .inl z.1, q mu' H' _ g' m' (itr_enuL fun mu2 s2 H2 g2 m2 _ => ⟨ws, hk.elim .inr fun z => .inl (g2.fixR z).1, rs.mono g2⟩)⟩
    · exact q.elim
end
end SI

namespace SI
open PySem PySem.Spec PyProof.Rows L2
section
variable {X : Cx} {W : WX} {o e : Expr} {es : List Expr} {fo : F D} {fa : F (List D)} {pos : Pos}
/-! ### append -/
def fApp (fo : F D) (fa : F (List D)) : F D := fun L s => (fo L s).bind fun d s1 => match d with
  | .ref n => match s1[n]? with
    | some (.lst _) => (fa L s1).bind fun ds s2 => match ds with
      | [y] => match s2[n]? with
        | some (.lst xs) => if xs.length < big then .ok .non (s2.set n (.lst (xs ++ [y]))) else .bad
        | _ => .bad
      | _ => .bad
    | _ => .bad
  | _ => .bad
theorem pE_append {apos : Pos} (ho : PE X o (tE X.K W fo)) (ha : PA X [e] (tA X.K W fa)) (hbase : attributeBase o "append" X.env (eval o X.env) = eval o X.env := by rfl)
    (hfew : ((backTo pos (starEach [e] X.env)).all (fun x => !x.1) && (backToKw pos (keywordEach [] X.env)).all (fun x => x.1.isSome)
      && decide ([e].length + ([] : List Keyword).length + (if ([] : List Keyword).isEmpty then 0 else 1) < 30)) = true := by rfl)
    (hline : (apos.endLine == pos.line) = true := by rfl) (hs : starEach [e] X.env = (false, eval e X.env) :: starEach [] X.env := by rfl) :
    PE X (.Call (.Attribute o "append" apos) [e] [] pos) (tE X.K W (fApp fo fa)) := by
  refine PE.weak (pe_bm PySem.F.plainAttrs_list PySem.F.slot_list_append PySem.F.type_list_append mt_append ho ha hbase hfew hline hs rfl) fun σ H Q ⟨mu, s, L, m, l, q⟩ => ?_
  refine ⟨mu, s, L, m, l, Post.step q fun d s1 mu1 H1 v1 g1 m1 r1 p1 => ?_⟩
  cases d <;> try exact p1.elim
  rename_i n
  dsimp only at p1
  cases en : s1[n]? with
  | none =>
    rw [en] at p1
    exact p1.elim
  | some ob =>
    rw [en] at p1
    cases ob <;> try exact p1.elim
    obtain ⟨a, vs, rfl, ea, eh, rs⟩ := sq_ref m1 r1 en
    refine ⟨.inl ⟨rfl, _, SqL.of eh⟩, mu1, s1, L, m1, l.mono g1, Post.step p1 fun ds s2 mu2 H2 ws g2 m2 r2 p2 => ?_⟩
    rcases ds with _ | ⟨y, _ | ⟨y2, ds⟩⟩
    · exact p2.elim
    · obtain ⟨w, rfl, rw⟩ := rel1 r2
      dsimp only at p2
      cases en2 : s2[n]? with
      | none =>
        rw [en2] at p2
        exact p2.elim
      | some ob =>
        rw [en2] at p2
        cases ob <;> try exact p2.elim
        rename_i xs
        dsimp only at p2
        split at p2
        · rename_i hlt
          have ea2 := g2.rf n a ea
          obtain ⟨b, us, eb, ec, ed, rs2⟩ := sq_ref (v := .ref a) m2 (by simp only [RelD]; exact ⟨a, ea2, rfl⟩) en2
          cases eb
          refine ⟨a, us, w, rfl, rfl, ed, ?_, ?_⟩
          · rw [← rs2.length]
            exact Nat.lt_of_lt_of_le hlt (big_le (Nat.le_refl _))
          · refine p2 mu2 _ _ (Ge.put ea2) (m2.put ea2 ?_) (rel_non.mpr rfl)
            exact ⟨us ++ [w], upd_same, (rs2.mono (Ge.put ea2)).append (.cons (rw.mono (Ge.put ea2)) .nil)⟩
        · exact p2.elim
    · exact p2.elim
/-! ### sum -/
def intsOf : List D → Option (List Int)
  | [] => some []
  | .int i :: r => (intsOf r).map (i :: ·)
  | _ => none
theorem ints_rel {K : PySem.W.Frag} {mu : Mu} {H : Hp} : ∀ {ds : List D} {vs : List V} {ns : List Int}, RelDs K mu H ds vs → intsOf ds = some ns → vs = ns.map V.int
  | [], vs, ns, r, e => by
    simp only [RelDs] at r
    cases e
    rw [r]
    rfl
  | d :: ds, vs, ns, r, e => by
    simp only [RelDs] at r
    obtain ⟨v, vr, rfl, h1, h2⟩ := r
    cases d <;> simp only [intsOf] at e <;> try cases e
    obtain ⟨ns', e', rfl⟩ := Option.map_eq_some_iff.mp e
    rw [rel_int.mp h1, ints_rel h2 e']
    rfl
def rSumT (K : PySem.W.Frag) : List V → Hp → VK → Prop := fun vs H Q => ∃ (a : Addr) (ns : List Int), vs = [V.ref a] ∧ SqT K H a (ns.map V.int) ∧ Q (.int ns.sum) H
theorem cr_sumT (hc : X.calm = true) : CallR X (.builtin "sum") (rSumT X.K) := by
  intro pins s σ H vs us Q I r h
  obtain ⟨a, ns, rfl, hs, q⟩ := h
  obtain ⟨its, rv, hl, _⟩ := I.tuple hs
  rw [Vals.ref1 r]
  have hi : IntsAre its ns := rv.ints
  obtain ⟨xs, hx⟩ := hi.allInts.items
  have hn : numsOf its.toArray.toList = ns := by rw [show its.toArray.toList = its from rfl, hi.numsOf]
  have hl' : s.heap.IsTuple a its.toArray := hl
  rw [hx] at hl' hn
  rw [nums_intItems] at hn
  refine PySem.W.ktm_sumG (I.ok.hd hc) hl' fun h' tk t' hk => ⟨.int ns.sum, H, I.kept hk, ⟨t', ?_⟩, q⟩
  rw [preSum_eq, List.take_of_length_le (by simp), hn]
def bSum (s : S) : List D → Option D
  | [d] => ((seqOf s d).bind intsOf).map fun ns => .int ns.sum
  | _ => none
theorem cbl_sum {K : PySem.W.Frag} : CbL K (fun vs H Q => rSum K vs H Q ∨ rSumT K vs H Q) bSum := by
  intro mu s H ds d vs Q m r e q
  rcases ds with _ | ⟨d1, _ | ⟨d2, ds⟩⟩
  · cases e
  · obtain ⟨v, rfl, r1⟩ := rel1 r
    obtain ⟨ns, e1, rfl⟩ := Option.map_eq_some_iff.mp e
    obtain ⟨xs, e2, e3⟩ := Option.bind_eq_some_iff.mp e1
    obtain ⟨a, vs, rfl, h2, h3⟩ := sq_seqOf m r1 e2
    have ev := ints_rel h3 e3
    subst ev
    rcases h2 with h2 | h2
    · exact .inl ⟨a, ns, rfl, h2, q mu H _ (Ge.refl _ _) m (rel_int.mpr rfl)⟩
    · exact .inr ⟨a, ns, rfl, h2, q mu H _ (Ge.refl _ _) m (rel_int.mpr rfl)⟩
  · cases e
theorem pE_sum {p : Pos} (hc : X.calm = true) (hm : X.mg "sum" = none) (ha : PA X [e] (tA X.K W fa)) (hg : Gl X "sum" := by rfl) (he : starEach [e] X.env = (false, eval e X.env) :: starEach [] X.env := by rfl) :
    PE X (.Call (.Name "sum" p) [e] [] pos) (tE X.K W (fCB bSum fa)) := pE_cb ((cr_sum hc).or (cr_sumT hc)) cbl_sum hm (by decide +kernel) ha hg (by decide) (by decide) he rfl
/-! ### calls with keywords -/
def tKW (K : PySem.W.Frag) (W : WX) (f : F (List D)) : TA := tA K W f
theorem PK.weak {X : Cx} {kws : List Keyword} {t t' : TA} (h : PK X kws t) (w : ∀ σ H Q, t' σ H Q → t σ H Q) : PK X kws t' := ⟨fun pos pins s σ H Q I q => h.run pos pins s σ H Q I (w _ _ _ q)⟩
theorem pK_nil : PK X [] (tA X.K W fNil) := PK.weak pk_nil fun σ H Q ⟨mu, s, L, m, l, q⟩ => q mu H _ (Ge.refl _ _) m .nil
theorem pK_cons {nm : Option Str} {kpos : Pos} {kws : List Keyword} {f : F D} {r : F (List D)} (ha : PE X e (tE X.K W f)) (hr : PK X kws (tA X.K W r)) : PK X (⟨nm, e, kpos⟩ :: kws) (tA X.K W (fCons f r)) := by
  refine PK.weak (pk_cons ha hr) fun σ H Q ⟨mu, s, L, m, l, q⟩ => ?_
  refine ⟨mu, s, L, m, l, Post.step q fun d1 s1 mu1 H1 v1 g1 m1 r1 p1 => ⟨mu1, s1, L, m1, l.mono g1, Post.step p1 fun ds s2 mu2 H2 vs g2 m2 r2 p2 => p2 mu2 H2 _ (Ge.refl _ _) m2 (.cons (r1.mono g2) r2)⟩⟩
/-- where a parameter's value comes from -/
inductive Pk where
  | p (i : Nat) | k (j : Nat) | d (j : Nat)
def arr {α : Type} (pk : List Pk) (xs zs ds : List α) : List α := pk.filterMap fun
  | .p i => xs[i]?
  | .k j => zs[j]?
  | .d j => ds[j]?
theorem vals_none {vs : List V} {us : List Value} {i : Nat} (r : Vals vs us) (h : vs[i]? = none) : us[i]? = none := by
  rw [List.getElem?_eq_none_iff] at h ⊢
  rw [← r.length]
  exact h
theorem arr_vals {vs zs ds : List V} {us ws es : List Value} (r : Vals vs us) (rz : Vals zs ws) (rd : Vals ds es) : ∀ pk : List Pk, Vals (arr pk vs zs ds) (arr pk us ws es)
  | [] => .nil
  | q :: pk => by
    have one : ∀ {as : List V} {bs : List Value} {i : Nat}, Vals as bs → (as[i]? = none ∧ bs[i]? = none) ∨ ∃ a b, as[i]? = some a ∧ bs[i]? = some b ∧ L2.RelV a b := fun {as bs i} h => by
      cases e : as[i]? with
      | none => exact .inl ⟨rfl, vals_none h e⟩
      | some a =>
        obtain ⟨b, e2, e3⟩ := h.get e
        exact .inr ⟨a, b, rfl, e2, e3⟩
    have ih := arr_vals r rz rd pk
    unfold arr at ih ⊢
    cases q with
    | p i =>
      rcases one (i := i) r with ⟨e1, e2⟩ | ⟨a, b, e1, e2, e3⟩
      · rw [List.filterMap_cons, List.filterMap_cons]
        simp only [e1, e2]
        exact ih
      · rw [List.filterMap_cons, List.filterMap_cons]
        simp only [e1, e2]
        exact .cons e3 ih
    | k i =>
      rcases one (i := i) rz with ⟨e1, e2⟩ | ⟨a, b, e1, e2, e3⟩
      · rw [List.filterMap_cons, List.filterMap_cons]
        simp only [e1, e2]
        exact ih
      · rw [List.filterMap_cons, List.filterMap_cons]
        simp only [e1, e2]
        exact .cons e3 ih
    | d i =>
      rcases one (i := i) rd with ⟨e1, e2⟩ | ⟨a, b, e1, e2, e3⟩
      · rw [List.filterMap_cons, List.filterMap_cons]
        simp only [e1, e2]
        exact ih
      · rw [List.filterMap_cons, List.filterMap_cons]
        simp only [e1, e2]
        exact .cons e3 ih
theorem arr_rel {K : PySem.W.Frag} {mu : Mu} {H : Hp} {xs zs ds : List D} {us ws es : List V} (r : RelDs K mu H xs us) (rz : RelDs K mu H zs ws) (rd : RelDs K mu H ds es) : ∀ pk : List Pk, RelDs K mu H (arr pk xs zs ds) (arr pk us ws es)
  | [] => .nil
  | q :: pk => by
    have one : ∀ {as : List D} {bs : List V} {i : Nat}, RelDs K mu H as bs → (as[i]? = none ∧ bs[i]? = none) ∨ ∃ a b, as[i]? = some a ∧ bs[i]? = some b ∧ RelD K mu H a b := fun {as bs i} h => by
      cases e : as[i]? with
      | none =>
        refine .inl ⟨rfl, ?_⟩
        rw [List.getElem?_eq_none_iff] at e ⊢
        rw [← h.length]
        exact e
      | some a =>
        obtain ⟨b, e2, e3⟩ := h.get e
        exact .inr ⟨a, b, rfl, e2, e3⟩
    have ih := arr_rel r rz rd pk
    unfold arr at ih ⊢
    cases q with
    | p i =>
      rcases one (i := i) r with ⟨e1, e2⟩ | ⟨a, b, e1, e2, e3⟩
      · rw [List.filterMap_cons, List.filterMap_cons]
        simp only [e1, e2]
        exact ih
      · rw [List.filterMap_cons, List.filterMap_cons]
        simp only [e1, e2]
        exact .cons e3 ih
    | k i =>
      rcases one (i := i) rz with ⟨e1, e2⟩ | ⟨a, b, e1, e2, e3⟩
      · rw [List.filterMap_cons, List.filterMap_cons]
        simp only [e1, e2]
        exact ih
      · rw [List.filterMap_cons, List.filterMap_cons]
        simp only [e1, e2]
        exact .cons e3 ih
    | d i =>
      rcases one (i := i) rd with ⟨e1, e2⟩ | ⟨a, b, e1, e2, e3⟩
      · rw [List.filterMap_cons, List.filterMap_cons]
        simp only [e1, e2]
        exact ih
      · rw [List.filterMap_cons, List.filterMap_cons]
        simp only [e1, e2]
        exact .cons e3 ih
/-- a call by keywords binds so: pk over the values written, the keywords' values, the defaults dvs -/
def KB (K : PySem.W.Frag) (fd : FuncData) (ps : List Str) (n : Nat) (ks : List Str) (pk : List Pk) (dvs : List V) : Prop :=
  ∃ es : List Value, Vals dvs es ∧ ∀ (s : Shared) (us ws : List Value), K.In s.heap → us.length = n → ws.length = ks.length → BindsTo s fd ⟨us, ks.zip ws⟩ (ps.zip (arr pk us ws es))
theorem kb_of {K : PySem.W.Frag} {x qual : Str} {st : Stmt} {f : Addr} {fd : FuncData} {ps ks : List Str} {n : Nat} {pk : List Pk} (Fu : Fun K x qual st f fd)
    (h : ∀ (kV doc pm : Value) (an : Option Addr) (cdv ct : Value) (us ws : List Value), us.length = n → ws.length = ks.length → bindArgs (PySem.W.fnOf x qual (defArgs st) (defBody st) (defScope st) .none kV doc pm an cdv ct) ⟨us, ks.zip ws⟩ = pure (ps.zip (arr pk us ws []))) : KB K fd ps n ks pk [] := by
  obtain ⟨oc, od, kV, doc, pm, an, cdv, ct, osl, rfl, lk, hcd⟩ := Fu.ex
  exact ⟨[], .nil, fun s us ws _ h1 h2 => .of_eq (h kV doc pm an cdv ct us ws h1 h2)⟩
def fCallK (n m : Nat) (pk : List Pk) (dds : List D) (G : List D → S → R D) (fa fk : F (List D)) : F D := fun L s => (fa L s).bind fun ds s1 => (fk L s1).bind fun zs s2 => if ds.length = n ∧ zs.length = m then G (arr pk ds zs dds) s2 else .bad
/-- the defaults stand in the written part -/
def DflR (K : PySem.W.Frag) (dds : List D) (dvs : List V) : Prop := ∀ mu H, RelDs K mu H dds dvs
theorem pE_callK {x : Str} {p : Pos} {k n N : Nat} {fA : Addr} {fd : FuncData} {ps ks : List Str} {pk : List Pk} {dds : List D} {dvs : List V} {kws : List Keyword} {fk : F (List D)} {G : List D → S → R D} (hN : ∀ (α : Type) (xs zs ds : List α), xs.length = n → zs.length = ks.length → ds.length = dds.length → (arr pk xs zs ds).length = N) (hd : DflR X.K dds dvs) (Fo : FnOk X.prog X.w X.K X.mg X.base (L2.CX X.prog X.w) k fA fd ps (spI X.K N G)) (hr : Room k X.A) (hm : X.mg x = some (.ref fA)) (hk : PySem.W.keepIn X.K (.ref fA) = true) (hb : KB X.K fd ps n ks pk dvs) (tk : Takes X W)
    (ha : PA X (e :: es) (tA X.K W fa)) (hkw : PK X kws (tA X.K W fk)) (hg : Gl X x := by rfl) (hall : (backToKw pos (keywordEach kws X.env)).all (·.1.isSome) = true := by rfl) (hks : (backToKw pos (keywordEach kws X.env)).filterMap (·.1) = ks := by rfl)
    (hdb : (x == ("__debug__" : Str)) = false := by decide) (he : starEach (e :: es) X.env = (false, eval e X.env) :: starEach es X.env := by rfl)
    (hpl : ((backTo pos (starEach (e :: es) X.env)).any (·.1) || (backToKw pos (keywordEach kws X.env)).any (·.1.isNone)) = false := by rfl) :
    PE X (.Call (.Name x p) (e :: es) kws pos) (tE X.K W (fCallK n ks.length pk dds G fa fk)) := by
  refine ⟨fun pins s σ H Q I hq => ?_⟩
  obtain ⟨mu, s', L, m, l, q⟩ := hq
  obtain ⟨des, rde, bind⟩ := hb
  have h0 : tA X.K W fa σ H fun vs H1 => tA X.K W fk σ H1 fun zs H2 => vs.length = n ∧ zs.length = ks.length ∧ spI X.K N G (arr pk vs zs dvs) H2 Q (WE W σ) := by
    refine ⟨mu, s', L, m, l, Post.step q fun ds s1 mu1 H1 vs g1 m1 r1 p1 => ⟨mu1, s1, L, m1, l.mono g1, Post.step p1 fun zs s2 mu2 H2 ws g2 m2 r2 p2 => ?_⟩⟩
    split at p2
    · rename_i hl
      refine ⟨by rw [← r1.length]; exact hl.1, by rw [← r2.length]; exact hl.2, mu2, s2, arr pk ds zs dds, m2, arr_rel (r1.mono g2) r2 (hd mu2 H2) pk, hN _ _ _ _ hl.1 hl.2 rfl, ?_⟩
      cases eG : G (arr pk ds zs dds) s2 <;> (rw [eG] at p2; exact p2)
    · exact p2.elim
  refine wpAny_Call_Name_kw (ld_glob I hg hm ?_ hdb)
  refine PySem.W.callWith_KW (h₀ := X.base) I.ok.mod.kin hk hall (thn (ha.run pos pins s σ H _ I h0) fun us s1 hu => ?_) hpl he
  obtain ⟨vs, H1, I1, r, q1⟩ := hu
  refine thn (hkw.run pos pins s1 σ H1 _ I1 q1) fun ws s2 hw => ?_
  obtain ⟨zs, H2, I2, rz, l1, l2, sp⟩ := hw
  refine ⟨I2.kIn, ?_⟩
  rw [hks]
  refine wpAny_call (codeAny_mono (Fo.run X.A X.stack s2 H2 ⟨us, ks.zip ws⟩ _ _ Q (WE W σ) hr I2.env0 (bind s2 us ws I2.kIn (r.length.symm.trans l1) (rz.length.symm.trans l2)) (arr_vals r rz rde pk) sp) fun res s3 hres => ?_)
  cases res with
  | error er => exact passAt tk σ pins H2 s2 er s3 I2 hres
  | ok fl =>
    cases fl with
    | ret u => exact I2.after hres
    | next => exact False.elim hres
    | brk => exact False.elim hres
    | cont => exact False.elim hres
end
end SI

/-! weakest preconditions at the data level -/
namespace SI
open PySem L2
class Cn (α : Sort u) where
  f : α
instance {α : Sort u} {β : Sort v} : CoeFun (Cn (α → β)) (fun _ => α → β) := ⟨fun c => c.f⟩
class Bs where
  nx : Lc → S → Prop
  rt : D → S → Prop
  bk : Lc → S → Prop
  ct : Lc → S → Prop
  ex : Addr → List Str → List D → Lc → S → Prop
def WR {α : Type} (r : R α) {Q : Cn (α → S → Prop)} {E : Cn (Addr → List Str → List D → S → Prop)} : Prop := match r with
  | .ok a s => Q a s
  | .ex C fs vs s => E C fs vs s
  | .bad => False
def WS (r : RS) {B : Bs} : Prop := match r with
  | .nx L s => B.nx L s
  | .rt d s => B.rt d s
  | .bk L s => B.bk L s
  | .ct L s => B.ct L s
  | .ex C fs vs L s => B.ex C fs vs L s
  | .bad => False
def WO {α : Type} (o : Option α) {Q : Cn (α → Prop)} : Prop := match o with
  | some a => Q a
  | none => False
def WV (o : Option (Option D)) {Q : Cn (D → Prop)} : Prop := match o with
  | some (some a) => Q a
  | _ => False
def WB (b : Bool) {P Q : Cn Prop} : Prop := match b with
  | true => P.f
  | false => Q.f
def WT (d : D) {Q : Cn (Bool → Prop)} : Prop := match d with
  | .bl b => Q b
  | _ => False
/-- the names stand as a list of cells -/
def WL (L : Lc) {Q : Cn (Lc → Prop)} : Prop := Q L
def WI (d : D) {Q : Cn (Int → Prop)} : Prop := match d with
  | .int b => Q b
  | _ => False
abbrev nE : Addr → List Str → List D → S → Prop := fun _ _ _ _ => False
section
variable {α β : Type} {L : Lc} {s : S} {B : Bs} {Q : Cn (D → S → Prop)} {E : Cn (Addr → List Str → List D → S → Prop)}
theorem cn_f {α : Sort u} (x : α) : Cn.f (self := ⟨x⟩) = x := rfl
theorem w_ok (a : α) (s : S) (Q : Cn (α → S → Prop)) (E) : @WR _ (.ok a s) Q E = Q a s := rfl
theorem w_ex (C fs vs) (s : S) (Q : Cn (α → S → Prop)) (E) : @WR _ (.ex C fs vs s) Q E = E C fs vs s := rfl
theorem w_nx (L : Lc) (s : S) (B : Bs) : @WS (.nx L s) B = B.nx L s := rfl
theorem w_rt (d : D) (s : S) (B : Bs) : @WS (.rt d s) B = B.rt d s := rfl
theorem w_bk (L : Lc) (s : S) (B : Bs) : @WS (.bk L s) B = B.bk L s := rfl
theorem w_ct (L : Lc) (s : S) (B : Bs) : @WS (.ct L s) B = B.ct L s := rfl
theorem w_exS (C fs vs) (L : Lc) (s : S) (B : Bs) : @WS (.ex C fs vs L s) B = B.ex C fs vs L s := rfl
theorem w_some (a : α) (Q : Cn (α → Prop)) : @WO _ (some a) Q = Q a := rfl
theorem w_v (a : D) (Q : Cn (D → Prop)) : @WV (some (some a)) Q = Q a := rfl
theorem w_tr (P Q : Cn Prop) : @WB true P Q = P.f := rfl
theorem w_fa (P Q : Cn Prop) : @WB false P Q = Q.f := rfl
theorem w_tb (b : Bool) (Q : Cn (Bool → Prop)) : @WT (.bl b) Q = Q b := rfl
theorem w_L (a : Option D) (L : Lc) (Q : Cn (Lc → Prop)) : @WL (a :: L) Q = Q (a :: L) := rfl
theorem w_L0 (Q : Cn (Lc → Prop)) : @WL [] Q = Q [] := rfl
theorem w_ti (b : Int) (Q : Cn (Int → Prop)) : @WI (.int b) Q = Q b := rfl
theorem w_bind (r : R α) (k : α → S → R β) (Q) (E) : @WR _ (r.bind k) Q E = @WR _ r ⟨fun a s => @WR _ (k a s) Q E⟩ E := by cases r <;> rfl
theorem w_bindS (L : Lc) (r : R α) (k : α → S → RS) (B) : @WS (r.bindS L k) B = @WR _ r ⟨fun a s => @WS (k a s) B⟩ ⟨fun C fs vs s => B.ex C fs vs L s⟩ := by cases r <;> rfl
theorem w_bindT (r : RS) (k : Lc → S → RS) (B : Bs) : @WS (r.bind k) B = @WS r { B with nx := fun L s => @WS (k L s) B } := by cases r <;> rfl
/-! statements -/
theorem w_seq (u v : FS) : @WS (sSeq u v L s) B = @WS (u L s) { B with nx := fun L s => @WS (v L s) B } := w_bindT ..
theorem wq_asg (i : Nat) (f : F D) (v : FS) : @WS (sSeq (sAsg i f) v L s) B = @WS (sAsg i f L s) { B with nx := fun L s => @WS (v L s) B } := w_seq ..
theorem wq_asgG (q : Tg) (f : F D) (v : FS) : @WS (sSeq (sAsgG q f) v L s) B = @WS (sAsgG q f L s) { B with nx := fun L s => @WS (v L s) B } := w_seq ..
theorem wq_expr (f : F D) (v : FS) : @WS (sSeq (sExpr f) v L s) B = @WS (sExpr f L s) { B with nx := fun L s => @WS (v L s) B } := w_seq ..
theorem wq_put (o fe fo fi) (v : FS) : @WS (sSeq (sPut o fe fo fi) v L s) B = @WS (sPut o fe fo fi L s) { B with nx := fun L s => @WS (v L s) B } := w_seq ..
theorem wq_aug (o i f) (v : FS) : @WS (sSeq (sAug o i f) v L s) B = @WS (sAug o i f L s) { B with nx := fun L s => @WS (v L s) B } := w_seq ..
theorem wq_augS (a b d e f g) (v : FS) : @WS (sSeq (sAugS a b d e f g) v L s) B = @WS (sAugS a b d e f g L s) { B with nx := fun L s => @WS (v L s) B } := w_seq ..
theorem wq_for (a b d) (v : FS) : @WS (sSeq (sFor a b d) v L s) B = @WS (sFor a b d L s) { B with nx := fun L s => @WS (v L s) B } := w_seq ..
theorem w_next : @WS (sNext L s) B = B.nx L s := rfl
theorem w_break : @WS (sBreak L s) B = B.bk L s := rfl
theorem w_cont : @WS (sCont L s) B = B.ct L s := rfl
theorem w_retN : @WS (sRetN L s) B = B.rt .non s := rfl
theorem w_asg (i : Nat) (f : F D) : @WS (sAsg i f L s) B = @WR _ (f L s) ⟨fun d s1 => @WL (L.set i (some d)) ⟨fun L' => B.nx L' s1⟩⟩ ⟨fun C fs vs s => B.ex C fs vs L s⟩ := w_bindS ..
theorem w_expr (f : F D) : @WS (sExpr f L s) B = @WR _ (f L s) ⟨fun d s1 => B.nx L s1⟩ ⟨fun C fs vs s => B.ex C fs vs L s⟩ := w_bindS ..
theorem w_ret (f : F D) : @WS (sRet f L s) B = @WR _ (f L s) ⟨fun d s1 => B.rt d s1⟩ ⟨fun C fs vs s => B.ex C fs vs L s⟩ := w_bindS ..
theorem w_if (t : F Bool) (u v : FS) : @WS (sIf t u v L s) B = @WR _ (t L s) ⟨fun b s1 => @WB b ⟨@WS (u L s1) B⟩ ⟨@WS (v L s1) B⟩⟩ ⟨fun C fs vs s => B.ex C fs vs L s⟩ := by
  refine (w_bindS ..).trans (congrArg (fun z => @WR _ (t L s) ⟨z⟩ _) ?_)
  funext b s1
  cases b <;> rfl
theorem w_asgG (q : Tg) (f : F D) : @WS (sAsgG q f L s) B = @WR _ (f L s) ⟨fun d s1 => @WO _ (q d L) ⟨fun L' => B.nx L' s1⟩⟩ ⟨fun C fs vs s => B.ex C fs vs L s⟩ := by
  refine (w_bindS ..).trans (congrArg (fun z => @WR _ (f L s) ⟨z⟩ _) ?_)
  funext d s1
  cases q d L <;> rfl
theorem w_for (f : F Src) (q : Tg) (body : FS) : @WS (sFor f q body L s) B = @WR _ (f L s) ⟨fun r s1 => @WS (forL q body r r.items L s1) B⟩ ⟨fun C fs vs s => B.ex C fs vs L s⟩ := w_bindS ..
theorem w_put (o : S → D → D → D → Option S) (fe fo fi : F D) : @WS (sPut o fe fo fi L s) B = @WR _ (fe L s) ⟨fun d s1 => @WR _ (fo L s1) ⟨fun a s2 => @WR _ (fi L s2) ⟨fun b s3 => @WO _ (o s3 a b d) ⟨fun s' => B.nx L s'⟩⟩ ⟨fun C fs vs s => B.ex C fs vs L s⟩⟩ ⟨fun C fs vs s => B.ex C fs vs L s⟩⟩ ⟨fun C fs vs s => B.ex C fs vs L s⟩ := by
  refine (w_bindS ..).trans (congrArg (fun z => @WR _ (fe L s) ⟨z⟩ _) ?_)
  funext d s1
  refine (w_bindS ..).trans (congrArg (fun z => @WR _ (fo L s1) ⟨z⟩ _) ?_)
  funext a s2
  refine (w_bindS ..).trans (congrArg (fun z => @WR _ (fi L s2) ⟨z⟩ _) ?_)
  funext b s3
  cases o s3 a b d <;> rfl
theorem w_aug (o : S → D → D → Option D) (i : Nat) (f : F D) : @WS (sAug o i f L s) B = @WV (L[i]?) ⟨fun d0 => @WR _ (f L s) ⟨fun d1 s1 => @WO _ (o s1 d0 d1) ⟨fun d => @WL (L.set i (some d)) ⟨fun L' => B.nx L' s1⟩⟩⟩ ⟨fun C fs vs s => B.ex C fs vs L s⟩⟩ := by
  unfold sAug
  cases L[i]? with
  | none => rfl
  | some z => cases z with
    | none => rfl
    | some d0 =>
      refine (w_bindS ..).trans (congrArg (fun z => @WR _ (f L s) ⟨z⟩ _) ?_)
      funext d s1
      cases o s1 d0 d <;> rfl
theorem w_augS (get op : S → D → D → Option D) (put : S → D → D → D → Option S) (fo fi fe : F D) : @WS (sAugS get op put fo fi fe L s) B = @WR _ (fo L s) ⟨fun a s1 => @WR _ (fi L s1) ⟨fun b s2 => @WO _ (get s2 a b) ⟨fun d0 => @WR _ (fe L s2) ⟨fun d1 s3 => @WO _ (op s3 d0 d1) ⟨fun d => @WO _ (put s3 a b d) ⟨fun s' => B.nx L s'⟩⟩⟩ ⟨fun C fs vs s => B.ex C fs vs L s⟩⟩⟩ ⟨fun C fs vs s => B.ex C fs vs L s⟩⟩ ⟨fun C fs vs s => B.ex C fs vs L s⟩ := by
  refine (w_bindS ..).trans (congrArg (fun z => @WR _ (fo L s) ⟨z⟩ _) ?_)
  funext a s1
  refine (w_bindS ..).trans (congrArg (fun z => @WR _ (fi L s1) ⟨z⟩ _) ?_)
  funext b s2
  cases get s2 a b with
  | none => rfl
  | some d0 =>
    refine (w_bindS ..).trans (congrArg (fun z => @WR _ (fe L s2) ⟨z⟩ _) ?_)
    funext d1 s3
    cases op s3 d0 d1 with
    | none => rfl
    | some d =>
      show @WS (match put s3 a b d with
        | some s' => RS.nx L s'
        | none => .bad) B = @WO _ (put s3 a b d) _
      cases put s3 a b d <;> rfl
theorem w_raise0 (C : Addr) : @WS (sRaise0 C L s) B = B.ex C [] [] L s := rfl
theorem w_raise1 (C : Addr) (f : Str) (x : F D) : @WS (sRaise1 C f (fCons x fNil) L s) B = @WR _ (x L s) ⟨fun d s1 => B.ex C [f] [d] L s1⟩ ⟨fun C fs vs s => B.ex C fs vs L s⟩ := by
  unfold sRaise1 fCons
  cases x L s <;> rfl
theorem w_raise2 (C : Addr) (f g : Str) (x y : F D) : @WS (sRaise2 C f g (fCons x (fCons y fNil)) L s) B = @WR _ (x L s) ⟨fun d s1 => @WR _ (y L s1) ⟨fun d' s2 => B.ex C [g, f] [d', d] L s2⟩ ⟨fun C fs vs s => B.ex C fs vs L s⟩⟩ ⟨fun C fs vs s => B.ex C fs vs L s⟩ := by
  unfold sRaise2 fCons
  cases x L s with
  | ok d s1 =>
    simp only [R_bind_ok, WR]
    cases y L s1 <;> rfl
  | ex => rfl
  | bad => rfl
theorem w_try (sel : List (Addr × Bool)) (b h : FS) : @WS (sTry sel b h L s) B = @WS (b L s) { B with ex := fun C fs vs L1 s1 => @WO _ (selOf sel C) ⟨fun z => @WB z ⟨@WS (h L1 s1) { B with ex := fun _ _ _ _ _ => False }⟩ ⟨B.ex C fs vs L1 s1⟩⟩ } := by
  unfold sTry
  cases b L s with
  | ex C fs vs L1 s1 =>
    show @WS (match selOf sel C with
      | some true => (h L1 s1).calm
      | some false => RS.ex C fs vs L1 s1
      | none => .bad) B = @WO _ (selOf sel C) _
    cases selOf sel C with
    | none => rfl
    | some z => cases z with
      | false => rfl
      | true =>
        show @WS ((h L1 s1).calm) B = @WS (h L1 s1) _
        cases h L1 s1 <;> rfl
  | nx => rfl
  | rt => rfl
  | bk => rfl
  | ct => rfl
  | bad => rfl
/-- a suite's end: the name is gone, and nothing is raised -/
theorem w_drop (i : Nat) (r : RS) : @WS (r.drop i) B = @WS r ⟨fun L s => B.nx (L.set i none) s, B.rt, fun L s => B.bk (L.set i none) s, fun L s => B.ct (L.set i none) s, fun _ _ _ _ _ => False⟩ := by
  cases r <;> rfl
/-- the handler's suite gives one result, wherever the exception lies -/
theorem w_hAll {g : Addr → Option Addr → RS} (r : RS) (h : ∀ a od, g a od = r) (w : @WS r B) : @WS (hAll g) B := by
  rw [hAll_of h]
  exact w
theorem eq_rt {r : RS} {d : D} {s : S} (h : @WS r ⟨fun _ _ => False, fun d' s' => d' = d ∧ s' = s, fun _ _ => False, fun _ _ => False, fun _ _ _ _ _ => False⟩) : r = .rt d s := by
  cases r with
  | rt d' s' =>
    obtain ⟨rfl, rfl⟩ := h
    rfl
  | nx => exact h.elim
  | bk => exact h.elim
  | ct => exact h.elim
  | ex => exact h.elim
  | bad => exact h.elim
theorem eq_nx {r : RS} {L : Lc} {s : S} (h : @WS r ⟨fun L' s' => L' = L ∧ s' = s, fun _ _ => False, fun _ _ => False, fun _ _ => False, fun _ _ _ _ _ => False⟩) : r = .nx L s := by
  cases r with
  | nx d' s' =>
    obtain ⟨rfl, rfl⟩ := h
    rfl
  | rt => exact h.elim
  | bk => exact h.elim
  | ct => exact h.elim
  | ex => exact h.elim
  | bad => exact h.elim
/-- the suite returns d -/
theorem hAll_rt {g : Addr → Option Addr → RS} (d : D) (s : S) (h : ∀ a od, @WS (g a od) ⟨fun _ _ => False, fun d' s' => d' = d ∧ s' = s, fun _ _ => False, fun _ _ => False, fun _ _ _ _ _ => False⟩) (w : B.rt d s) : @WS (hAll g) B := w_hAll (.rt d s) (fun a od => eq_rt (h a od)) w
theorem hAll_nx {g : Addr → Option Addr → RS} (L : Lc) (s : S) (h : ∀ a od, @WS (g a od) ⟨fun L' s' => L' = L ∧ s' = s, fun _ _ => False, fun _ _ => False, fun _ _ => False, fun _ _ _ _ _ => False⟩) (w : B.nx L s) : @WS (hAll g) B := w_hAll (.nx L s) (fun a od => eq_nx (h a od)) w
def xfOf (a0 C0 : Addr) (d0 : Option Addr) (cs : List Addr) (n : Str) (d : D) : Option D := match d with
  | .exc a C od fs vs => if a = a0 ∧ C = C0 ∧ od = d0 ∧ C ∈ cs then (fs.zip vs).lookup n else none
  | _ => none
theorem w_xf (a0 C0 : Addr) (d0 : Option Addr) (cs : List Addr) (n : Str) (f : F D) : @WR _ (fXf a0 C0 d0 cs n f L s) Q E = @WR _ (f L s) ⟨fun d s1 => @WO _ (xfOf a0 C0 d0 cs n d) ⟨fun r => Q r s1⟩⟩ E := by
  refine (w_bind ..).trans (congrArg (fun z => @WR _ (f L s) ⟨z⟩ _) ?_)
  funext d s1
  cases d <;> try rfl
  rename_i a C od fs vs
  unfold xfOf
  dsimp only
  by_cases h : a = a0 ∧ C = C0 ∧ od = d0 ∧ C ∈ cs
  · rw [if_pos h, if_pos h]
    cases List.lookup n (fs.zip vs) <;> rfl
  · rw [if_neg h, if_neg h]
    rfl
theorem xf_1 {a0 C0 : Addr} {d0 : Option Addr} {cs : List Addr} {n : Str} {d : D} (h : C0 ∈ cs) : xfOf a0 C0 d0 cs n (.exc a0 C0 d0 [n] [d]) = some d := by
  unfold xfOf
  simp only [h, and_self, if_true]
  simp
theorem w_tryAs (i : Nat) (sel : List (Addr × Bool)) (b : FS) (h : Addr → Addr → Option Addr → FS) : @WS (sTryAs i sel b h L s) B = @WS (b L s) { B with ex := fun C fs vs L1 s1 => @WO _ (selOf sel C) ⟨fun z => @WB z ⟨@WS (hAll fun a od => (h a C od (L1.set i (some (.exc a C od fs vs))) s1).drop i) B⟩ ⟨B.ex C fs vs L1 s1⟩⟩ } := by
  unfold sTryAs
  cases b L s with
  | ex C fs vs L1 s1 =>
    show @WS (match selOf sel C with
      | some true => hAll fun a od => (h a C od (L1.set i (some (.exc a C od fs vs))) s1).drop i
      | some false => RS.ex C fs vs L1 s1
      | none => .bad) B = @WO _ (selOf sel C) _
    cases selOf sel C with
    | none => rfl
    | some z => cases z <;> rfl
  | nx => rfl
  | rt => rfl
  | bk => rfl
  | ct => rfl
  | bad => rfl
/-! expressions -/
theorem w_var (i : Nat) : @WR _ (fVar i L s) Q E = @WV (L[i]?) ⟨fun d => Q d s⟩ := by
  unfold fVar
  cases L[i]? with
  | none => rfl
  | some z => cases z <;> rfl
theorem w_c (d : D) : @WR _ (fC d L s) Q E = Q d s := rfl
theorem w_op (o : S → D → D → Option D) (f g : F D) : @WR _ (fOp o f g L s) Q E = @WR _ (f L s) ⟨fun a s1 => @WR _ (g L s1) ⟨fun b s2 => @WO _ (o s2 a b) ⟨fun d => Q d s2⟩⟩ E⟩ E := by
  refine (w_bind ..).trans (congrArg (fun z => @WR _ (f L s) ⟨z⟩ _) ?_)
  funext a s1
  refine (w_bind ..).trans (congrArg (fun z => @WR _ (g L s1) ⟨z⟩ _) ?_)
  funext b s2
  cases o s2 a b <;> rfl
theorem w_chain (o o' : S → D → D → Option D) (f g h : F D) : @WR _ (fChain o o' f g h L s) Q E = @WR _ (f L s) ⟨fun a s1 => @WR _ (g L s1) ⟨fun b s2 => @WO _ (o s2 a b) ⟨fun d => @WT d ⟨fun z => @WB z ⟨@WR _ (h L s2) ⟨fun c s3 => @WO _ (o' s3 b c) ⟨fun d => Q d s3⟩⟩ E⟩ ⟨Q (.bl false) s2⟩⟩⟩⟩ E⟩ E := by
  refine (w_bind ..).trans (congrArg (fun z => @WR _ (f L s) ⟨z⟩ _) ?_)
  funext a s1
  refine (w_bind ..).trans (congrArg (fun z => @WR _ (g L s1) ⟨z⟩ _) ?_)
  funext b s2
  cases o s2 a b with
  | none => rfl
  | some d => cases d <;> try rfl
              rename_i z
              cases z with
              | false => rfl
              | true =>
                refine (w_bind ..).trans (congrArg (fun z => @WR _ (h L s2) ⟨z⟩ _) ?_)
                funext c s3
                cases o' s3 b c <;> rfl
theorem w_notV (f : F D) : @WR _ (fNotV f L s) Q E = @WR _ (f L s) ⟨fun a s1 => @WT a ⟨fun b => Q (.bl (!b)) s1⟩⟩ E := by
  refine (w_bind ..).trans (congrArg (fun z => @WR _ (f L s) ⟨z⟩ _) ?_)
  funext a s1
  cases a <;> rfl
theorem w_andV (f g : F D) : @WR _ (fAndV f g L s) Q E = @WR _ (f L s) ⟨fun a s1 => @WT a ⟨fun b => @WB b ⟨@WR _ (g L s1) Q E⟩ ⟨Q (.bl false) s1⟩⟩⟩ E := by
  refine (w_bind ..).trans (congrArg (fun z => @WR _ (f L s) ⟨z⟩ _) ?_)
  funext a s1
  cases a <;> try rfl
  rename_i b
  cases b <;> rfl
theorem w_orV (f g : F D) : @WR _ (fOrV f g L s) Q E = @WR _ (f L s) ⟨fun a s1 => @WT a ⟨fun b => @WB b ⟨Q (.bl true) s1⟩ ⟨@WR _ (g L s1) Q E⟩⟩⟩ E := by
  refine (w_bind ..).trans (congrArg (fun z => @WR _ (f L s) ⟨z⟩ _) ?_)
  funext a s1
  cases a <;> try rfl
  rename_i b
  cases b <;> rfl
theorem w_ifE (t : F Bool) (f g : F D) : @WR _ (fIf t f g L s) Q E = @WR _ (t L s) ⟨fun b s1 => @WB b ⟨@WR _ (f L s1) Q E⟩ ⟨@WR _ (g L s1) Q E⟩⟩ E := by
  refine (w_bind ..).trans (congrArg (fun z => @WR _ (t L s) ⟨z⟩ _) ?_)
  funext b s1
  cases b <;> rfl
theorem w_tst (f : F D) {Q : Cn (Bool → S → Prop)} : @WR _ (fTst f L s) Q E = @WR _ (f L s) ⟨fun a s1 => @WT a ⟨fun b => Q b s1⟩⟩ E := by
  refine (w_bind ..).trans (congrArg (fun z => @WR _ (f L s) ⟨z⟩ _) ?_)
  funext a s1
  cases a <;> rfl
theorem w_not (t : F Bool) {Q : Cn (Bool → S → Prop)} : @WR _ (fNot t L s) Q E = @WR _ (t L s) ⟨fun b s1 => Q (!b) s1⟩ E := w_bind ..
theorem w_and (t u : F Bool) {Q : Cn (Bool → S → Prop)} : @WR _ (fAnd t u L s) Q E = @WR _ (t L s) ⟨fun b s1 => @WB b ⟨@WR _ (u L s1) Q E⟩ ⟨Q false s1⟩⟩ E := by
  refine (w_bind ..).trans (congrArg (fun z => @WR _ (t L s) ⟨z⟩ _) ?_)
  funext b s1
  cases b <;> rfl
theorem w_or (t u : F Bool) {Q : Cn (Bool → S → Prop)} : @WR _ (fOr t u L s) Q E = @WR _ (t L s) ⟨fun b s1 => @WB b ⟨Q true s1⟩ ⟨@WR _ (u L s1) Q E⟩⟩ E := by
  refine (w_bind ..).trans (congrArg (fun z => @WR _ (t L s) ⟨z⟩ _) ?_)
  funext b s1
  cases b <;> rfl
theorem w_yes {Q : Cn (Bool → S → Prop)} : @WR _ (fYes L s) Q E = Q true s := rfl
theorem w_nil {Q : Cn (List D → S → Prop)} : @WR _ (fNil L s) Q E = Q [] s := rfl
theorem w_cons (f : F D) (r : F (List D)) {Q : Cn (List D → S → Prop)} : @WR _ (fCons f r L s) Q E = @WR _ (f L s) ⟨fun a s1 => @WR _ (r L s1) ⟨fun as s2 => Q (a :: as) s2⟩ E⟩ E := by
  refine (w_bind ..).trans (congrArg (fun z => @WR _ (f L s) ⟨z⟩ _) ?_)
  funext a s1
  exact w_bind ..
theorem w_tup (fa : F (List D)) : @WR _ (fTup fa L s) Q E = @WR _ (fa L s) ⟨fun ds s1 => ds.length ≤ big ∧ Q (.tup ds) s1⟩ E := by
  refine (w_bind ..).trans (congrArg (fun z => @WR _ (fa L s) ⟨z⟩ _) ?_)
  funext ds s1
  by_cases h : ds.length ≤ big
  · simp only [h, if_true, true_and]
    rfl
  · simp only [h, if_false, false_and]
    rfl
theorem w_lst (fa : F (List D)) : @WR _ (fLst fa L s) Q E = @WR _ (fa L s) ⟨fun ds s1 => ds.length ≤ big ∧ Q (.lst ds) s1⟩ E := by
  refine (w_bind ..).trans (congrArg (fun z => @WR _ (fa L s) ⟨z⟩ _) ?_)
  funext ds s1
  by_cases h : ds.length ≤ big
  · simp only [h, if_true, true_and]
    rfl
  · simp only [h, if_false, false_and]
    rfl
theorem w_lstT (fa : F (List D)) : @WR _ (fLstT fa L s) Q E = @WR _ (fa L s) ⟨fun ds s1 => ds.length ≤ big ∧ Q (.ref s1.length) (s1 ++ [.lst ds])⟩ E := by
  refine (w_bind ..).trans (congrArg (fun z => @WR _ (fa L s) ⟨z⟩ _) ?_)
  funext ds s1
  by_cases h : ds.length ≤ big
  · simp only [h, if_true, true_and]
    rfl
  · simp only [h, if_false, false_and]
    rfl
theorem w_cb (o : S → List D → Option D) (fa : F (List D)) : @WR _ (fCB o fa L s) Q E = @WR _ (fa L s) ⟨fun ds s1 => @WO _ (o s1 ds) ⟨fun d => Q d s1⟩⟩ E := by
  refine (w_bind ..).trans (congrArg (fun z => @WR _ (fa L s) ⟨z⟩ _) ?_)
  funext ds s1
  cases o s1 ds <;> rfl
theorem w_call (n : Nat) (G : List D → S → R D) (fa : F (List D)) : @WR _ (fCall n G fa L s) Q E = @WR _ (fa L s) ⟨fun ds s1 => ds.length = n ∧ @WR _ (G ds s1) Q E⟩ E := by
  refine (w_bind ..).trans (congrArg (fun z => @WR _ (fa L s) ⟨z⟩ _) ?_)
  funext ds s1
  by_cases h : ds.length = n
  · simp only [h, if_true, true_and]
  · simp only [h, if_false, false_and]
    rfl
theorem w_callK (n m : Nat) (pk : List Pk) (dds : List D) (G : List D → S → R D) (fa fk : F (List D)) : @WR _ (fCallK n m pk dds G fa fk L s) Q E = @WR _ (fa L s) ⟨fun ds s1 => @WR _ (fk L s1) ⟨fun zs s2 => (ds.length = n ∧ zs.length = m) ∧ @WR _ (G (arr pk ds zs dds) s2) Q E⟩ E⟩ E := by
  refine (w_bind ..).trans (congrArg (fun z => @WR _ (fa L s) ⟨z⟩ _) ?_)
  funext ds s1
  refine (w_bind ..).trans (congrArg (fun z => @WR _ (fk L s1) ⟨z⟩ _) ?_)
  funext zs s2
  by_cases h : ds.length = n ∧ zs.length = m
  · rw [if_pos h]
    simp only [h, and_self, true_and]
  · rw [if_neg h]
    simp only [h, false_and]
    rfl
theorem w_neg (f : F D) : @WR _ (fNeg f L s) Q E = @WR _ (f L s) ⟨fun d s1 => @WI d ⟨fun i => Q (.int (-i)) s1⟩⟩ E := by
  refine (w_bind ..).trans (congrArg (fun z => @WR _ (f L s) ⟨z⟩ _) ?_)
  funext a s1
  cases a <;> rfl
theorem w_no {Q : Cn (Option Int → S → Prop)} : @WR _ (fNo L s) Q E = Q none s := rfl
theorem w_pt (f : F D) {Q : Cn (Option Int → S → Prop)} : @WR _ (fPt f L s) Q E = @WR _ (f L s) ⟨fun d s1 => @WI d ⟨fun i => Q (some i) s1⟩⟩ E := by
  refine (w_bind ..).trans (congrArg (fun z => @WR _ (f L s) ⟨z⟩ _) ?_)
  funext a s1
  cases a <;> rfl
theorem w_sl (f : F D) (l h : F (Option Int)) : @WR _ (fSl f l h L s) Q E = @WR _ (f L s) ⟨fun d s1 => @WR _ (l L s1) ⟨fun lo s2 => @WR _ (h L s2) ⟨fun hi s3 => @WO _ (dSl s3 d lo hi) ⟨fun r => Q r s3⟩⟩ E⟩ E⟩ E := by
  refine (w_bind ..).trans (congrArg (fun z => @WR _ (f L s) ⟨z⟩ _) ?_)
  funext d s1
  refine (w_bind ..).trans (congrArg (fun z => @WR _ (l L s1) ⟨z⟩ _) ?_)
  funext lo s2
  refine (w_bind ..).trans (congrArg (fun z => @WR _ (h L s2) ⟨z⟩ _) ?_)
  funext hi s3
  cases dSl s3 d lo hi <;> rfl
def fldOf (s : S) (cs : List Addr) (n : Str) (d : D) : Option D := match insOf s d with
  | some (C, fs, vs) => if C ∈ cs then (fs.zip vs).lookup n else none
  | none => none
theorem w_fld (cs : List Addr) (n : Str) (f : F D) : @WR _ (fFld cs n f L s) Q E = @WR _ (f L s) ⟨fun d s1 => @WO _ (fldOf s1 cs n d) ⟨fun r => Q r s1⟩⟩ E := by
  refine (w_bind ..).trans (congrArg (fun z => @WR _ (f L s) ⟨z⟩ _) ?_)
  funext d s1
  unfold fldOf
  cases insOf s1 d with
  | none => rfl
  | some z =>
    obtain ⟨C, fs, vs⟩ := z
    dsimp only
    by_cases h : C ∈ cs
    · rw [if_pos h, if_pos h]
      cases List.lookup n (fs.zip vs) <;> rfl
    · rw [if_neg h, if_neg h]
      rfl
theorem w_src (f : F D) {Q : Cn (Src → S → Prop)} : @WR _ (fSrc f L s) Q E = @WR _ (f L s) ⟨fun d s1 => @WO _ (iSeq s1 d) ⟨fun r => Q r s1⟩⟩ E := by
  refine (w_bind ..).trans (congrArg (fun z => @WR _ (f L s) ⟨z⟩ _) ?_)
  funext d s1
  cases iSeq s1 d <;> rfl
theorem w_rng (o : List D → Option Src) (fa : F (List D)) {Q : Cn (Src → S → Prop)} : @WR _ (fRng o fa L s) Q E = @WR _ (fa L s) ⟨fun ds s1 => @WO _ (o ds) ⟨fun r => Q r s1⟩⟩ E := by
  refine (w_bind ..).trans (congrArg (fun z => @WR _ (fa L s) ⟨z⟩ _) ?_)
  funext ds s1
  cases o ds <;> rfl
theorem w_enu (f : F D) {Q : Cn (Src → S → Prop)} : @WR _ (fEnu (fCons f fNil) L s) Q E = @WR _ (f L s) ⟨fun d s1 => @WO _ (iEnu s1 d) ⟨fun r => Q r s1⟩⟩ E := by
  unfold fEnu fCons
  cases f L s with
  | ok d s1 =>
    show @WR _ (match iEnu s1 d with
      | some r => .ok r s1
      | none => .bad) Q E = @WO _ (_) _
    cases iEnu s1 d <;> rfl
  | ex => rfl
  | bad => rfl
theorem w_listT (f : F D) : @WR _ (fListT (fCons f fNil) L s) Q E = @WR _ (f L s) ⟨fun d s1 => @WO _ (seqOf s1 d) ⟨fun xs => Q (.ref s1.length) (s1 ++ [.lst xs])⟩⟩ E := by
  unfold fListT fCons
  cases f L s with
  | ok d s1 =>
    show @WR _ (match seqOf s1 d with
      | some xs => R.ok (.ref s1.length) (s1 ++ [.lst xs])
      | none => .bad) Q E = @WO _ (_) _
    cases seqOf s1 d <;> rfl
  | ex => rfl
  | bad => rfl
def appOf (n : Nat) (y : D) (s : S) : Option S := match s[n]? with
  | some (.lst xs) => if xs.length < big then some (s.set n (.lst (xs ++ [y]))) else none
  | _ => none
def isLst (n : Nat) (s : S) : Bool := match s[n]? with
  | some (.lst _) => true
  | _ => false
def WN (d : D) {Q : Cn (Nat → Prop)} : Prop := match d with
  | .ref n => Q n
  | _ => False
theorem w_tn (n : Nat) (Q : Cn (Nat → Prop)) : @WN (.ref n) Q = Q n := rfl
theorem w_app (fo f : F D) : @WR _ (fApp fo (fCons f fNil) L s) Q E = @WR _ (fo L s) ⟨fun d s1 => @WN d ⟨fun n => isLst n s1 = true ∧ @WR _ (f L s1) ⟨fun y s2 => @WO _ (appOf n y s2) ⟨fun s3 => Q .non s3⟩⟩ E⟩⟩ E := by
  refine (w_bind ..).trans (congrArg (fun z => @WR _ (fo L s) ⟨z⟩ _) ?_)
  funext d s1
  cases d <;> try rfl
  rename_i n
  show @WR _ (match s1[n]? with
    | some (.lst _) => _
    | _ => .bad) Q E = (isLst n s1 = true ∧ _)
  unfold isLst
  cases s1[n]? with
  | none => simp only [Bool.false_eq_true, false_and]; rfl
  | some o =>
    cases o <;> try (simp only [Bool.false_eq_true, false_and]; rfl)
    simp only [true_and]
    unfold fCons
    cases f L s1 with
    | ok y s2 =>
      show @WR _ (match s2[n]? with
        | some (.lst xs) => _
        | _ => .bad) Q E = @WO _ (appOf n y s2) _
      unfold appOf
      cases s2[n]? with
      | none => rfl
      | some o2 =>
        cases o2 <;> try rfl
        rename_i xs
        dsimp only
        by_cases h : xs.length < big
        · rw [if_pos h, if_pos h]
          rfl
        · rw [if_neg h, if_neg h]
          rfl
    | ex => rfl
    | bad => rfl
def fldPut (s : S) (cs : List Addr) (n : Str) (o d : D) : Option S := match o with
  | .ref k => match s[k]? with
    | some (.ins C fs vs) => if C ∈ cs ∧ fs.length < 1000 then some (s.set k (.ins C (putN n d fs vs).1 (putN n d fs vs).2)) else none
    | _ => none
  | _ => none
theorem w_fldT (cs : List Addr) (n : Str) (fo f : F D) : @WS (sFldT cs n fo f L s) B = @WR _ (f L s) ⟨fun d s1 => @WR _ (fo L s1) ⟨fun o s2 => @WO _ (fldPut s2 cs n o d) ⟨fun s' => B.nx L s'⟩⟩ ⟨fun C fs vs s => B.ex C fs vs L s⟩⟩ ⟨fun C fs vs s => B.ex C fs vs L s⟩ := by
  refine (w_bindS ..).trans (congrArg (fun z => @WR _ (f L s) ⟨z⟩ _) ?_)
  funext d s1
  refine (w_bindS ..).trans (congrArg (fun z => @WR _ (fo L s1) ⟨z⟩ _) ?_)
  funext o s2
  cases o <;> try rfl
  rename_i k
  unfold fldPut
  dsimp only
  cases s2[k]? with
  | none => rfl
  | some o =>
    cases o <;> try rfl
    rename_i C fs vs
    dsimp only
    by_cases h : C ∈ cs ∧ fs.length < 1000
    · rw [if_pos h, if_pos h]
      rfl
    · rw [if_neg h, if_neg h]
      rfl
theorem w_make (C : Addr) (n : Nat) (G : List D → S → R D) (fa : F (List D)) : @WR _ (fMake C n G fa L s) Q E = @WR _ (fa L s) ⟨fun ds s1 => @WR _ (mkD C n G ds s1) Q E⟩ E := w_bind ..
theorem w_makeL (i : Nat) (C : Addr) (n : Nat) (G : List D → S → R D) (fa : F (List D)) : @WR _ (fMakeL i C n G fa L s) Q E = @WV (L[i]?) ⟨fun d => d = .gl C ∧ @WR _ (fMake C n G fa L s) Q E⟩ := by
  unfold fMakeL
  cases L[i]? with
  | none => rfl
  | some z => cases z with
    | none => rfl
    | some d =>
      show _ = (d = .gl C ∧ _)
      cases d <;> try (simp only [reduceCtorEq, false_and]; rfl)
      rename_i C'
      by_cases h : C' = C
      · subst h
        simp only [if_true, true_and]
      · simp only [h, if_false, D.gl.injEq, false_and]
        rfl
theorem w_mk (C : Addr) (n : Nat) (G : List D → S → R D) (ds : List D) : @WR _ (mkD C n G ds s) Q E = (ds.length + 1 = n ∧ @WR _ (G (.ref s.length :: ds) (s ++ [.ins C [] []])) ⟨fun d s2 => @WO _ (insOf s2 (.ref s.length)) ⟨fun z => (d = .non ∧ z.1 = C ∧ s2.take s.length = s ∧ D.bels s.length z.2.2 = true) ∧ Q (.ins C z.2.1 z.2.2) s⟩⟩ ⟨fun C' fs vs s2 => (s2.take s.length = s ∧ D.bels s.length vs = true) ∧ E C' fs vs s⟩) := by
  unfold mkD
  by_cases h : ds.length + 1 = n
  · rw [if_pos h]
    simp only [h, true_and]
    cases G (.ref s.length :: ds) (s ++ [.ins C [] []]) with
    | ok d s2 =>
      show @WR _ (match s2[s.length]? with
        | some (.ins C' fs vs) => _
        | _ => .bad) Q E = @WO _ (insOf s2 (.ref s.length)) _
      unfold insOf
      dsimp only
      cases s2[s.length]? with
      | none => rfl
      | some o =>
        cases o <;> try rfl
        rename_i C' fs vs
        show @WR _ (if _ then _ else _) Q E = ((d = .non ∧ C' = C ∧ s2.take s.length = s ∧ D.bels s.length vs = true) ∧ _)
        by_cases h2 : d = .non ∧ C' = C ∧ s2.take s.length = s ∧ D.bels s.length vs = true
        · rw [if_pos h2]
          simp only [h2, true_and, and_self]
          rfl
        · rw [if_neg h2]
          simp only [h2, false_and]
          rfl
    | ex C' fs vs s2 =>
      show @WR _ (if _ then _ else _) Q E = (_ ∧ _)
      by_cases h2 : s2.take s.length = s ∧ D.bels s.length vs = true
      · rw [if_pos h2]
        simp only [h2, true_and, and_self]
        rfl
      · rw [if_neg h2]
        simp only [h2, false_and]
        rfl
    | bad => rfl
  · rw [if_neg h]
    simp only [h, false_and]
    rfl
theorem get_app (s : S) (o : O) : (s ++ [o])[s.length]? = some o := by simp
theorem set_app (s : S) (o o' : O) : (s ++ [o]).set s.length o' = s ++ [o'] := by simp
theorem fld_app {C : Addr} {cs : List Addr} {n : Str} {d : D} {fs : List Str} {vs : List D} (s : S) (h : C ∈ cs) (hl : fs.length < 1000) : fldPut (s ++ [.ins C fs vs]) cs n (.ref s.length) d = some (s ++ [.ins C (putN n d fs vs).1 (putN n d fs vs).2]) := by
  unfold fldPut
  simp only [get_app, set_app, h, hl, and_self, if_true]
/-- a comprehension behind its source -/
def lcE (q : Tg) (t : F Bool) (f : F D) (vs : List Nat) (L : Lc) (r : Src) (s1 : S) : R D := match lcL q t f r (wipeD L vs) s1.length r.items (s1 ++ [.lst []]) with
  | .ok _ s2 => match s2[s1.length]? with
    | some (.lst ys) => if (s2.take s1.length).all (O.bel s1.length) = true ∧ D.bels s1.length ys = true then .ok (.lst ys) (s2.take s1.length) else .bad
    | _ => .bad
  | _ => .bad
theorem w_lc (fi : F Src) (q : Tg) (t : F Bool) (f : F D) (vs : List Nat) : @WR _ (fLc fi q t f vs L s) Q E = @WR _ (fi L s) ⟨fun r s1 => @WR _ (lcE q t f vs L r s1) Q E⟩ E := w_bind ..
theorem w_run (N : Nat) (body : FS) (ds : List D) (s : S) : @WR _ (runF N body ds s) Q E = @WL (startD N ds) ⟨fun L => @WS (body L s) ⟨fun _ s => Q .non s, Q, fun _ _ => False, fun _ _ => False, fun C fs vs _ s => E C fs vs s⟩⟩ := by
  show @WR _ ((body (startD N ds) s).fin) Q E = @WS (body (startD N ds) s) _
  cases body (startD N ds) s <;> rfl
theorem w_cut (G : List D → S → R D) (ds : List D) (s : S) : @WR _ (cutF G ds s) Q E = @WR _ (G ds s) ⟨fun d s' => (s'.take s.length).all (O.bel s.length) = true ∧ @WO _ (fin2 s.length s' d) ⟨fun d' => Q d' (s'.take s.length)⟩⟩ ⟨fun C fs vs s' => ((s'.take s.length).all (O.bel s.length) = true ∧ D.bels s.length vs = true) ∧ E C fs vs (s'.take s.length)⟩ := by
  unfold cutF
  cases G ds s with
  | ok d s' =>
    show @WR _ (if _ then _ else _) Q E = (_ ∧ _)
    by_cases h : (s'.take s.length).all (O.bel s.length) = true
    · rw [if_pos h]
      simp only [h, true_and]
      cases fin2 s.length s' d <;> rfl
    · rw [if_neg h]
      simp only [h, Bool.false_eq_true, false_and]
      rfl
  | ex C fs vs s' =>
    show @WR _ (if _ then _ else _) Q E = (_ ∧ _)
    by_cases h : (s'.take s.length).all (O.bel s.length) = true ∧ D.bels s.length vs = true
    · rw [if_pos h]
      simp only [h, true_and]
      rfl
    · rw [if_neg h]
      simp only [h, false_and]
      rfl
  | bad => rfl
theorem w_pure (G : List D → S → R D) (ds : List D) (s : S) : @WR _ (pureF G ds s) Q E = @WR _ (G ds s) ⟨fun d s' => s'.take s.length = s ∧ @WO _ (fin2 s.length s' d) ⟨fun d' => Q d' s⟩⟩ ⟨fun C fs vs s' => (s'.take s.length = s ∧ D.bels s.length vs = true) ∧ E C fs vs s⟩ := by
  unfold pureF
  cases G ds s with
  | ok d s' =>
    show @WR _ (if _ then _ else _) Q E = (_ ∧ _)
    by_cases h : s'.take s.length = s
    · rw [if_pos h]
      simp only [h, true_and]
      cases fin2 s.length s' d <;> rfl
    · rw [if_neg h]
      simp only [h, false_and]
      rfl
  | ex C fs vs s' =>
    show @WR _ (if _ then _ else _) Q E = (_ ∧ _)
    by_cases h : s'.take s.length = s ∧ D.bels s.length vs = true
    · rw [if_pos h]
      simp only [h, true_and]
      rfl
    · rw [if_neg h]
      simp only [h, false_and]
      rfl
  | bad => rfl
end
/-! ### weakening, results -/
theorem WR.mono {α : Type} {r : R α} {Q Q' : Cn (α → S → Prop)} {E E' : Cn (Addr → List Str → List D → S → Prop)} (h : @WR _ r Q E) (hq : ∀ a s, Q a s → Q' a s) (he : ∀ C fs vs s, E C fs vs s → E' C fs vs s) : @WR _ r Q' E' := by
  cases r with
  | ok a s => exact hq _ _ h
  | ex C fs vs s => exact he _ _ _ _ h
  | bad => exact h
theorem WS.mono {r : RS} {B B' : Bs} (h : @WS r B) (h1 : ∀ L s, B.nx L s → B'.nx L s) (h2 : ∀ d s, B.rt d s → B'.rt d s) (h3 : ∀ L s, B.bk L s → B'.bk L s) (h4 : ∀ L s, B.ct L s → B'.ct L s) (h5 : ∀ C fs vs L s, B.ex C fs vs L s → B'.ex C fs vs L s) : @WS r B' := by
  cases r with
  | nx L s => exact h1 _ _ h
  | rt L s => exact h2 _ _ h
  | bk L s => exact h3 _ _ h
  | ct L s => exact h4 _ _ h
  | ex C fs vs L s => exact h5 _ _ _ _ _ h
  | bad => exact h
/-- from a wp of just one result to the equation -/
theorem eq_ok {α : Type} {r : R α} {a : α} {s : S} (h : @WR _ r ⟨fun a' s' => a' = a ∧ s' = s⟩ ⟨nE⟩) : r = .ok a s := by
  cases r with
  | ok b t =>
    obtain ⟨rfl, rfl⟩ := h
    rfl
  | ex => exact h.elim
  | bad => exact h.elim
theorem eq_ex {α : Type} {r : R α} {C : Addr} {fs : List Str} {vs : List D} {s : S} (h : @WR _ r ⟨fun _ _ => False⟩ ⟨fun C' fs' vs' s' => C' = C ∧ fs' = fs ∧ vs' = vs ∧ s' = s⟩) : r = .ex C fs vs s := by
  cases r with
  | ok b t => exact h.elim
  | ex =>
    obtain ⟨rfl, rfl, rfl, rfl⟩ := h
    rfl
  | bad => exact h.elim
theorem wr_ok {α : Type} {r : R α} {a : α} {s : S} {Q : Cn (α → S → Prop)} {E} (h : r = .ok a s) (q : Q a s) : @WR _ r Q E := by
  rw [h]
  exact q
theorem ex_ok {α : Type} {r : R α} {P : α → S → Prop} (h : @WR _ r ⟨P⟩ ⟨nE⟩) : ∃ a s, r = .ok a s ∧ P a s := by
  cases r with
  | ok b t => exact ⟨b, t, rfl, h⟩
  | ex => exact h.elim
  | bad => exact h.elim
theorem wb_intro {b : Bool} {P Q : Cn Prop} (h1 : b = true → P.f) (h2 : b = false → Q.f) : @WB b P Q := by
  cases b with
  | true => exact h1 rfl
  | false => exact h2 rfl
theorem wb_dec {p : Prop} [Decidable p] {P Q : Cn Prop} (h1 : p → P.f) (h2 : ¬ p → Q.f) : @WB (decide p) P Q := wb_intro (fun h => h1 (of_decide_eq_true h)) (fun h => h2 (of_decide_eq_false h))
theorem wb_not {b : Bool} {P Q : Cn Prop} : @WB (!b) P Q = @WB b Q P := by cases b <;> rfl
theorem ws_cut {u v : FS} {L : Lc} {s : S} {B : Bs} (M : Lc → S → Prop) (h1 : @WS (u L s) { B with nx := M }) (h2 : ∀ L s, M L s → @WS (v L s) B) : @WS (sSeq u v L s) B := by
  rw [w_seq]
  exact h1.mono h2 (fun _ _ h => h) (fun _ _ h => h) (fun _ _ h => h) (fun _ _ _ _ _ h => h)
/-! ### loops -/
theorem ws_for {q : Tg} {body : FS} {r : Src} {B : Bs} (I : Nat → Lc → S → Prop) : ∀ (ds : List D) (k : Nat) {L : Lc} {s : S}, I k L s →
    (∀ i d L s, ds[i]? = some d → I (k + i) L s → chk r s = true ∧ @WO _ (q d L) ⟨fun L1 => @WS (body L1 s) ⟨I (k + i + 1), B.rt, B.nx, I (k + i + 1), B.ex⟩⟩) →
    (∀ L s, I (k + ds.length) L s → chk r s = true ∧ B.nx L s) → @WS (forL q body r ds L s) B
  | [], k, L, s, h0, _, he => by
    have := he L s h0
    unfold forL
    rw [if_pos this.1]
    exact this.2
  | d :: ds, k, L, s, h0, hs, he => by
    have h1 := hs 0 d L s rfl h0
    unfold forL
    rw [if_pos h1.1]
    have h2 := h1.2
    cases eq : q d L with
    | none =>
      rw [eq] at h2
      exact h2.elim
    | some L1 =>
      rw [eq] at h2
      have h3 : @WS (body L1 s) ⟨I (k + 0 + 1), B.rt, B.nx, I (k + 0 + 1), B.ex⟩ := h2
      dsimp only
      have go : ∀ L2 s2, I (k + 0 + 1) L2 s2 → @WS (forL q body r ds L2 s2) B := fun L2 s2 h4 =>
        ws_for I ds (k + 1) h4 (fun i d L s e hi => by
          have z := hs (i + 1) d L s e
          rw [show k + (i + 1) = k + 1 + i by omega] at z
          exact z hi) (fun L s hi => by
          refine he L s ?_
          rw [List.length_cons, show k + (ds.length + 1) = k + 1 + ds.length by omega]
          exact hi)
      cases eb : body L1 s with
      | nx L2 s2 =>
        rw [eb] at h3
        exact go L2 s2 h3
      | ct L2 s2 =>
        rw [eb] at h3
        exact go L2 s2 h3
      | bk L2 s2 =>
        rw [eb] at h3
        exact h3
      | rt d s2 =>
        rw [eb] at h3
        exact h3
      | ex C fs ds L2 s2 =>
        rw [eb] at h3
        exact h3
      | bad =>
        rw [eb] at h3
        exact h3.elim
/-- for i in range: lo, lo + 1, .. -/
theorem ws_rng {q : Tg} {body : FS} {lo : Int} {n : Nat} {B : Bs} {L : Lc} {s : S} (I : Nat → Lc → S → Prop) (h0 : I 0 L s)
    (hs : ∀ i L s, i < n → I i L s → @WO _ (q (.int (lo + i)) L) ⟨fun L1 => @WS (body L1 s) ⟨I (i + 1), B.rt, B.nx, I (i + 1), B.ex⟩⟩)
    (he : ∀ L s, I n L s → B.nx L s) : @WS (forL q body ⟨rgItems lo n, none⟩ (rgItems lo n) L s) B := by
  have hl : (rgItems lo n).length = n := by simp [rgItems]
  refine ws_for I (rgItems lo n) 0 h0 (fun i d L s e hi => ⟨rfl, ?_⟩) (fun L s hi => ⟨rfl, he L s ?_⟩)
  · rw [Nat.zero_add] at hi ⊢
    unfold rgItems at e
    rw [List.getElem?_map] at e
    obtain ⟨j, ej, rfl⟩ := Option.map_eq_some_iff.mp e
    obtain ⟨hj, ej⟩ := List.getElem?_eq_some_iff.mp ej
    rw [List.getElem_range] at ej
    subst ej
    rw [List.length_range] at hj
    exact hs i L s hj hi
  · rw [Nat.zero_add, hl] at hi
    exact hi
/-- for x in a list that is not tracked -/
theorem ws_lst {α : Type} {f : α → D} {q : Tg} {body : FS} {B : Bs} {xs : List α} {on : List D} {L : Lc} {s : S} (I : Nat → Lc → S → Prop) (h0 : I 0 L s)
    (hs : ∀ i (hi : i < xs.length) L s, I i L s → @WO _ (q (f xs[i]) L) ⟨fun L1 => @WS (body L1 s) ⟨I (i + 1), B.rt, B.nx, I (i + 1), B.ex⟩⟩)
    (he : ∀ L s, I xs.length L s → B.nx L s) : @WS (forL q body ⟨on, none⟩ (xs.map f) L s) B := by
  refine ws_for I (xs.map f) 0 h0 (fun i d L s e hi => ⟨rfl, ?_⟩) (fun L s hi => ⟨rfl, he L s ?_⟩)
  · rw [Nat.zero_add] at hi ⊢
    rw [List.getElem?_map] at e
    obtain ⟨x, ex, rfl⟩ := Option.map_eq_some_iff.mp e
    obtain ⟨hj, ej⟩ := List.getElem?_eq_some_iff.mp ex
    subst ej
    exact hs i hj L s hi
  · rw [Nat.zero_add, List.length_map] at hi
    exact hi
/-- while, by a measure -/
theorem ws_while {t : F Bool} {body : FS} {B : Bs} (I : Nat → Lc → S → Prop) : ∀ (n k : Nat) {L : Lc} {s : S}, I k L s → k < n →
    (∀ k L s, I k L s → @WR _ (t L s) ⟨fun b s1 => @WB b ⟨@WS (body L s1) ⟨fun L s => ∃ j, j < k ∧ I j L s, B.rt, B.nx, fun L s => ∃ j, j < k ∧ I j L s, B.ex⟩⟩ ⟨B.nx L s1⟩⟩ ⟨fun C fs vs s => B.ex C fs vs L s⟩) → @WS (sWhile n t body L s) B
  | 0, k, L, s, _, hk, _ => absurd hk (Nat.not_lt_zero _)
  | n + 1, k, L, s, h0, hk, hs => by
    have h1 := hs k L s h0
    unfold sWhile whileL
    rw [w_bindS]
    refine h1.mono (fun b s1 h2 => ?_) (fun _ _ _ _ h => h)
    cases b with
    | false => exact h2
    | true =>
      have h3 : @WS (body L s1) ⟨fun L s => ∃ j, j < k ∧ I j L s, B.rt, B.nx, fun L s => ∃ j, j < k ∧ I j L s, B.ex⟩ := h2
      simp only [if_true]
      have go : ∀ L2 s2, (∃ j, j < k ∧ I j L2 s2) → @WS (whileL t body n L2 s2) B := fun L2 s2 ⟨j, hj, h4⟩ => ws_while I n j h4 (by omega) hs
      cases eb : body L s1 with
      | nx L2 s2 =>
        rw [eb] at h3
        exact go L2 s2 h3
      | ct L2 s2 =>
        rw [eb] at h3
        exact go L2 s2 h3
      | bk L2 s2 =>
        rw [eb] at h3
        exact h3
      | rt d s2 =>
        rw [eb] at h3
        exact h3
      | ex C fs ds L2 s2 =>
        rw [eb] at h3
        exact h3
      | bad =>
        rw [eb] at h3
        exact h3.elim
end SI

/-! keyword-only parameters with defaults -/
namespace SI
open PySem PySem.Spec PyProof.Rows L2
theorem kb_ofD {K : PySem.W.Frag} {x qual : Str} {ar : Arguments} {bd : List Stmt} {sc : Scope} {D : Addr} {doc pm : Value} {an : Option Addr} {cdv ct : Value} {ps ks : List Str} {n : Nat} {pk : List Pk} {dvs : List V} {ms : List (Str × Value)} (hq : ∀ q ∈ ms, PySem.W.nsIn K D q.1 = some (some q.2)) (rv : Vals dvs (ms.map (·.2)))
    (h : ∀ us ws : List Value, us.length = n → ws.length = ks.length → KwChain D ms (bindArgs (PySem.W.fnOf x qual ar bd sc .none (.ref D) doc pm an cdv ct) ⟨us, ks.zip ws⟩) (ps.zip (arr pk us ws (ms.map (·.2))))) : KB K (PySem.W.fnOf x qual ar bd sc .none (.ref D) doc pm an cdv ct) ps n ks pk dvs :=
  ⟨ms.map (·.2), rv, fun s us ws X l1 l2 => BindsTo.of_looks fun M => KwChain.looks X hq (h us ws l1 l2)⟩
theorem rel_ktup0 {K : PySem.W.Frag} {mu : Mu} {H : Hp} {a : Addr} {od : Option Addr} {t : Tok} {n : Nat} {sl : Array (Option Value)} (h : K.lookup a = some ⟨.type "tuple", od, .seq #[.int 0 t] n, sl⟩) : RelD K mu H (.tup [.int 0]) (.ref a) := by
  simp only [RelD]
  exact ⟨a, [.int 0], rfl, .inl ⟨_, _, _, h, rfl, rfl, (by show 1 ≤ sizeLine; decide), .cons ⟨t, rfl⟩ .nil⟩, .cons (rel_int.mpr rfl) .nil⟩
end SI

/-! comprehensions whose list is changed later -/
namespace SI
open PySem PySem.Spec PyProof.Rows L2
section
variable {X : Cx} {W : WX} {a b c e : Expr} {f g h : F D} {t : F Bool} {fa : F (List D)} {es : List Expr} {pos : Pos} {st : Stmt} {sts : List Stmt} {u v : FS}
/-- a comprehension's list, tracked -/
def fLcT (fi : F Src) (q : Tg) (t : F Bool) (f : F D) (vs : List Nat) : F D := fun L s => (fi L s).bind fun r s1 => match lcL q t f r (wipeD L vs) s1.length r.items (s1 ++ [.lst []]) with
  | .ok _ s2 => match s2[s1.length]? with
    | some (.lst _) => .ok (.ref s1.length) s2
    | _ => .bad
  | _ => .bad
theorem weak_lcT {fi : F Src} {q : Tg} {gt : TG} {tt : TT} {te : TE} {vs : List Nat} {σ : L2.St} {H : Hp} {Q : VK}
    (hg : ∀ v σ H (Q : L2.St → Hp → Prop), tG X.K q v (wipe σ vs) H Q → gt v (wipe σ vs) H fun σ2 H2 => wipe σ2 vs = wipe σ vs ∧ Q σ2 H2)
    (ht : ∀ σ H Q, tT X.K noW t σ H Q → tt σ H Q) (he : ∀ σ H Q, tE X.K noW f σ H Q → te σ H Q)
    (hq : tE X.K W (fLcT fi q t f vs) σ H Q) : tLc (tI X.K W fi) gt tt te vs σ H Q := by
  obtain ⟨mu, s, L, m, l, p⟩ := hq
  refine ⟨mu, s, L, m, l, Post.step p fun r s1 mu1 H1 J g1 m1 ir p1 => ?_⟩
  intro Dl hD
  have l1 := l.mono g1
  cases eL : lcL q t f r (wipeD L vs) s1.length r.items (s1 ++ [.lst []]) with
  | ex C fs ds s2 =>
    rw [eL] at p1
    exact p1.elim
  | bad =>
    rw [eL] at p1
    exact p1.elim
  | ok uu sF =>
    rw [eL] at p1
    dsimp only at p1
    cases eY : sF[s1.length]? with
    | none =>
      rw [eY] at p1
      exact p1.elim
    | some ob =>
      rw [eY] at p1
      cases ob <;> try exact p1.elim
      rename_i ysF
      dsimp only at p1
      have gT := Ge.track (u := .lst []) m1 hD
      have mT : Sim X.K (mu1 ++ [some Dl]) (s1 ++ [.lst []]) (upd H1 Dl (.lst [])) := m1.track hD ⟨[], upd_same, .nil⟩
      have hlast : (mu1 ++ [some Dl])[s1.length]? = some (some Dl) := by
        rw [← m1.len, List.getElem?_append_right (Nat.le_refl _), Nat.sub_self]
        rfl
      refine ⟨fun i n H' => n = r.items.length - i ∧ i ≤ r.items.length ∧ ∃ mu' s', Ge (mu1 ++ [some Dl]) (upd H1 Dl (.lst [])) mu' H' ∧ Sim X.K mu' s' H' ∧ lcL q t f r (wipeD L vs) s1.length (r.items.drop i) s' = .ok uu sF,
        ⟨_, rfl, Nat.zero_le _, _, _, Ge.refl _ _, mT, eL⟩, ?_⟩
      rintro i n H' ⟨rfl, hi, mu', s', g', m', p'⟩
      by_cases hlt : i < r.items.length
      · have hd : r.items.drop i = r.items[i] :: r.items.drop (i + 1) := List.drop_eq_getElem_cons hlt
        rw [hd] at p'
        unfold lcL at p'
        by_cases hk : chk r s' = true
        · rw [if_pos hk] at p'
          have hir := (ir mu' s' H' (gT.trans g') m' hk i).1 _ (List.getElem?_eq_getElem hlt)
          refine .inr ⟨hir.1, fun H2 => ∃ mu2 s2, Ge (mu1 ++ [some Dl]) (upd H1 Dl (.lst [])) mu2 H2 ∧ Sim X.K mu2 s2 H2 ∧ lcL q t f r (wipeD L vs) s1.length (r.items.drop (i + 1)) s2 = .ok uu sF,
            fun H2 n2 => ⟨_, ?_, rfl, hlt, n2⟩, fun x H2 hy => ?_⟩
          · omega
          · obtain ⟨g2, m2, r2⟩ := hir.2 x H2 hy
            cases eq : q r.items[i] (wipeD L vs) with
            | none =>
              rw [eq] at p'
              cases p'
            | some L1 =>
              rw [eq] at p'
              dsimp only at p'
              refine hg x σ H2 _ ⟨mu', s', wipeD L vs, _, L1, m2, wipe_lr (((l1.mono gT).mono g').mono g2) vs, r2, eq, fun σ2 l2 => ?_⟩
              refine ht σ2 H2 _ ⟨mu', s', L1, m2, l2, ?_⟩
              cases et : t L1 s' with
              | bad =>
                rw [et] at p'
                cases p'
              | ex C fs ds s3 =>
                rw [et] at p'
                cases p'
              | ok bb s3 =>
                rw [et] at p'
                simp only [R.bind] at p'
                intro mu3 H3 b3 g3 m3 e3
                subst e3
                cases bb with
                | false =>
                  rw [if_neg Bool.false_ne_true]
                  rw [if_neg Bool.false_ne_true] at p'
                  exact ⟨mu3, s3, (g'.trans g2).trans g3, m3, p'⟩
                | true =>
                  rw [if_pos rfl]
                  rw [if_pos rfl] at p'
                  refine he σ2 H3 _ ⟨mu3, s3, L1, m3, l2.mono g3, ?_⟩
                  cases ef : f L1 s3 with
                  | bad =>
                    rw [ef] at p'
                    cases p'
                  | ex C fs ds s4 =>
                    rw [ef] at p'
                    cases p'
                  | ok y s4 =>
                    rw [ef] at p'
                    simp only [R.bind] at p'
                    intro mu4 H4 vy g4 m4 ry
                    cases e4 : s4[s1.length]? with
                    | none =>
                      rw [e4] at p'
                      cases p'
                    | some ob =>
                      rw [e4] at p'
                      cases ob <;> try cases p'
                      rename_i acc
                      dsimp only at p'
                      split at p'
                      · rename_i hbig
                        have gA := ((g'.trans g2).trans g3).trans g4
                        have hDl := gA.rf s1.length Dl hlast
                        obtain ⟨b, vacc, e1, e2, e3, rs⟩ := sq_ref (v := .ref Dl) m4 (by simp only [RelD]; exact ⟨Dl, hDl, rfl⟩) e4
                        cases e1
                        refine ⟨vacc, e3, ?_, mu4, _, gA.trans (Ge.put hDl), m4.put (o := .lst (acc ++ [y])) hDl ⟨_, upd_same, (rs.append (.cons ry .nil)).mono (Ge.put hDl)⟩, p'⟩
                        rw [← rs.length, sizeLine_eq]
                        unfold big at hbig
                        omega
                      · cases p'
        · rw [if_neg hk] at p'
          cases p'
      · have hd : r.items.drop i = [] := List.drop_eq_nil_of_le (by omega)
        rw [hd] at p'
        unfold lcL at p'
        by_cases hk : chk r s' = true
        · rw [if_pos hk] at p'
          cases p'
          refine .inl ⟨(ir mu' _ H' (gT.trans g') m' hk i).2 (List.getElem?_eq_none (by omega)), ?_⟩
          have hDl := g'.rf s1.length Dl hlast
          obtain ⟨b, vacc, e1, e2, e3, rs⟩ := sq_ref (v := .ref Dl) m' (by simp only [RelD]; exact ⟨Dl, hDl, rfl⟩) eY
          cases e1
          refine p1 mu' H' _ (gT.trans g') m' ?_
          simp only [RelD]
          exact ⟨Dl, hDl, rfl⟩
        · rw [if_neg hk] at p'
          cases p'
/-- [elt for target in iter if ..], as a value -/
theorem pE_lcT {elt tg iter : Expr} {ifs : List Expr} {scope : Scope} {own : List (Str × Nat)} {fi : F Src} {q : Tg} {gt : TG} {vs : List Nat} (hc : X.calm = true) (hN : X.N.Nodup) (hi : PI X tg iter (tI X.K W fi)) (ok : BlkOk X.N X.env.scope scope own)
    (hk : KG X.K q gt vs) (mon : ∀ v σ H (Q Q' : L2.St → Hp → Prop), (∀ σ H, Q σ H → Q' σ H) → gt v σ H Q → gt v σ H Q')
    (hg : ∀ (s : Shared) (H : Hp) (C : Addr) (cl : List (Str × Addr)) (fp : List Addr), PG (X.blk s H scope (compEnvC scope cl C X.env) fp) tg gt) (ht : ∀ (s : Shared) (H : Hp) (C : Addr) (cl : List (Str × Addr)) (fp : List Addr), PTs (X.blk s H scope (compEnvC scope cl C X.env) fp) ifs (tT X.K noW t))
    (he : ∀ (s : Shared) (H : Hp) (C : Addr) (cl : List (Str × Addr)) (fp : List Addr), PE (X.blk s H scope (compEnvC scope cl C X.env) fp) elt (tE X.K noW f)) (hs : ∀ x, foldedSetIterable iter X.env x = pure x := by intro _; rfl) (hvs : own.map (·.2) = vs := by rfl) :
    PE X (.ListComp elt [⟨tg, iter, ifs, 0⟩] scope pos) (tE X.K W (fLcT fi q t f vs)) :=
  PE.weak (pe_lc hc hN hi ok hg ht he hs) fun σ H Q hq => by
    rw [hvs]
    exact weak_lcT (kg_wipe hk mon) (fun _ _ _ z => z) (fun _ _ _ z => z) hq
/-- y = [elt for ..] -/
theorem pS_setLcT {i : Nat} {y : Str} {py spos : Pos} {elt tg iter : Expr} {ifs : List Expr} {scope : Scope} {own : List (Str × Nat)} {fi : F Src} {q : Tg} {gt : TG} {vs : List Nat} (hc : X.calm = true) (hN : X.N.Nodup)
    (hsw : swapsWith (.ListComp elt [⟨tg, iter, ifs, 0⟩] scope pos) (some (.Name y py)) spos.line X.env = pure true) (hi : PI X tg iter (tI X.K W fi)) (ok : BlkOk X.N X.env.scope scope own)
    (hk : KG X.K q gt vs) (mon : ∀ v σ H (Q Q' : L2.St → Hp → Prop), (∀ σ H, Q σ H → Q' σ H) → gt v σ H Q → gt v σ H Q')
    (hg : ∀ (s : Shared) (H : Hp) (C : Addr) (cl : List (Str × Addr)) (fp : List Addr), PG (X.blk s H scope (compEnvC scope cl C X.env) fp) tg gt) (ht : ∀ (s : Shared) (H : Hp) (C : Addr) (cl : List (Str × Addr)) (fp : List Addr), PTs (X.blk s H scope (compEnvC scope cl C X.env) fp) ifs (tT X.K noW t))
    (he : ∀ (s : Shared) (H : Hp) (C : Addr) (cl : List (Str × Addr)) (fp : List Addr), PE (X.blk s H scope (compEnvC scope cl C X.env) fp) elt (tE X.K noW f)) (hy : X.N[i]? = some y := by rfl) (hyl : X.env.scope.names.lookup y = some .local := by rfl) (hs : ∀ x, foldedSetIterable iter X.env x = pure x := by intro _; rfl) (hvs : own.map (·.2) = vs := by rfl) :
    PS X (.Assign [.Name y py] (.ListComp elt [⟨tg, iter, ifs, 0⟩] scope pos) spos) (tS X.K W (sAsg i (fLcT fi q t f vs))) := by
  refine PS.weak (ps_setLc hc hN hy hyl hsw hi ok hg ht he hs) fun D σ H ⟨mu, s, L, m, l, p⟩ => ?_
  show tLc _ _ _ _ (own.map (·.2)) σ H _
  rw [hvs]
  refine weak_lcT (kg_wipe hk mon) (fun _ _ _ z => z) (fun _ _ _ z => z) ⟨mu, s, L, m, l, Post.stepS l p fun d s1 mu1 H1 v1 g1 m1 r1 p1 => ?_⟩
  exact p1 mu1 _ H1 (Ge.refl _ _) m1 ((l.mono g1).set i r1)
end
end SI

/-! methods of lists -/
namespace SI
open PySem PySem.Spec PyProof.Rows L2
section
variable {X : Cx} {W : WX} {o e : Expr} {es : List Expr} {fo : F D} {fa : F (List D)} {pos : Pos}
def fMth (m : S → D → List D → Option (D × S)) (fo : F D) (fa : F (List D)) : F D := fun L s => (fo L s).bind fun d s1 => match lstOf s1 d with
  | some _ => (fa L s1).bind fun ds s2 => match m s2 d ds with
    | some z => .ok z.1 z.2
    | none => .bad
  | none => .bad
def MthL (K : PySem.W.Frag) (r : V → List V → Hp → VK → Prop) (m : S → D → List D → Option (D × S)) : Prop :=
  ∀ (mu : Mu) (s : S) (H : Hp) (d : D) (ds : List D) (v : V) (vs : List V) (Q : VK) (z : D × S), Sim K mu s H → RelD K mu H d v → RelDs K mu H ds vs → m s d ds = some z → (∀ mu' H' u, Ge mu H mu' H' → Sim K mu' z.2 H' → RelD K mu' H' z.1 u → Q u H') → r v vs H Q
theorem pE_mth {name : Str} {id : String} {r : V → List V → Hp → VK → Prop} {m : S → D → List D → Option (D × S)} {apos : Pos} (slot : Slot "list" name id) (hty : typeOf (.builtin id) = pure (.type "method_descriptor")) (hm : MtR X id r) (hl : MthL X.K r m)
    (ho : PE X o (tE X.K W fo)) (ha : PA X (e :: es) (tA X.K W fa)) (hbase : attributeBase o name X.env (eval o X.env) = eval o X.env := by rfl)
    (hfew : ((backTo pos (starEach (e :: es) X.env)).all (fun x => !x.1) && (backToKw pos (keywordEach [] X.env)).all (fun x => x.1.isSome)
      && decide ((e :: es).length + ([] : List Keyword).length + (if ([] : List Keyword).isEmpty then 0 else 1) < 30)) = true := by rfl)
    (hline : (apos.endLine == pos.line) = true := by rfl) (hs : starEach (e :: es) X.env = (false, eval e X.env) :: starEach es X.env := by rfl) (hplain : (backTo pos (starEach es X.env)).any (·.1) = false := by rfl) :
    PE X (.Call (.Attribute o name apos) (e :: es) [] pos) (tE X.K W (fMth m fo fa)) := by
  refine PE.weak (pe_bm PySem.F.plainAttrs_list slot hty hm ho ha hbase hfew hline hs hplain) fun σ H Q ⟨mu, s, L, m0, l, q⟩ => ?_
  refine ⟨mu, s, L, m0, l, Post.step q fun d s1 mu1 H1 v1 g1 m1 r1 p1 => ?_⟩
  cases en : lstOf s1 d with
  | none =>
    rw [en] at p1
    exact p1.elim
  | some ys =>
    rw [en] at p1
    obtain ⟨a, vs, rfl, sq, rs⟩ := sq_lstOf m1 r1 en
    refine ⟨.inl ⟨rfl, _, sq⟩, mu1, s1, L, m1, l.mono g1, Post.step p1 fun ds s2 mu2 H2 ws g2 m2 r2 p2 => ?_⟩
    cases em : m s2 d ds with
    | none =>
      rw [em] at p2
      exact p2.elim
    | some z =>
      rw [em] at p2
      exact hl mu2 s2 H2 d ds _ ws Q z m2 (r1.mono g2) r2 em fun mu' H' u g3 m3 r3 => p2 mu' H' u g3 m3 r3
theorem ints_map {K : PySem.W.Frag} {mu : Mu} {H : Hp} {xs : List D} {vs : List V} {ns : List Int} (r : RelDs K mu H xs vs) (e : intsOf xs = some ns) : vs = ns.map V.int := ints_rel r e
def mCount (s : S) (d : D) : List D → Option (D × S)
  | [.int k] => ((lstOf s d).bind intsOf).map fun ns => (.int (ns.count k : Nat), s)
  | _ => none
theorem ml_count {K : PySem.W.Frag} : MthL K (rCntI K) mCount := by
  intro mu s H d ds v vs Q z m r rs e q
  unfold mCount at e
  split at e
  · obtain ⟨ns, e1, rfl⟩ := Option.map_eq_some_iff.mp e
    obtain ⟨xs, e2, e3⟩ := Option.bind_eq_some_iff.mp e1
    obtain ⟨a, us, rfl, sq, rr⟩ := sq_lstOf m r e2
    have := ints_rel rr e3
    subst this
    obtain ⟨w, rfl, rw⟩ := rel1 rs
    have ew := rel_int.mp rw
    subst ew
    exact ⟨a, ns, _, rfl, rfl, sq, q mu H _ (Ge.refl _ _) m (rel_int.mpr rfl)⟩
  · cases e
theorem pE_count {apos : Pos} (ho : PE X o (tE X.K W fo)) (ha : PA X [e] (tA X.K W fa)) (hbase : attributeBase o "count" X.env (eval o X.env) = eval o X.env := by rfl)
    (hfew : ((backTo pos (starEach [e] X.env)).all (fun x => !x.1) && (backToKw pos (keywordEach [] X.env)).all (fun x => x.1.isSome)
      && decide ([e].length + ([] : List Keyword).length + (if ([] : List Keyword).isEmpty then 0 else 1) < 30)) = true := by rfl)
    (hline : (apos.endLine == pos.line) = true := by rfl) (hs : starEach [e] X.env = (false, eval e X.env) :: starEach [] X.env := by rfl) :
    PE X (.Call (.Attribute o "count" apos) [e] [] pos) (tE X.K W (fMth mCount fo fa)) := pE_mth PySem.F.slot_list_count PySem.F.type_list_count mt_lcount ml_count ho ha hbase hfew hline hs rfl
def mInsert (s : S) (d : D) : List D → Option (D × S)
  | [.int i, y] => match d with
    | .ref n => match s[n]? with
      | some (.lst xs) => if xs.length < big ∧ 0 ≤ i ∧ i < 2 ^ 60 then some (.non, s.set n (.lst (xs.take i.toNat ++ [y] ++ xs.drop i.toNat))) else none
      | _ => none
    | _ => none
  | _ => none
theorem ml_insert {K : PySem.W.Frag} : MthL K (fun x vs H Q => ∃ (l : Addr) (xs : List V) (i : Int) (y : V), x = .ref l ∧ vs = [.int i, y] ∧ H l = some (.lst xs) ∧ xs.length < sizeLine ∧ 0 ≤ i ∧ i < 2 ^ 63 ∧ Q .non (upd H l (.lst (xs.take i.toNat ++ [y] ++ xs.drop i.toNat)))) mInsert := by
  intro mu s H d ds v vs Q z m r rs e q
  unfold mInsert at e
  split at e
  · rename_i i y
    split at e
    · rename_i n
      split at e
      · rename_i xs en
        split at e
        · rename_i hc
          cases e
          obtain ⟨a, us, rfl, ea, eh, rr⟩ := sq_ref m r en
          simp only [RelDs] at rs
          obtain ⟨w1, rs1, rfl, h1, w2, rs2, rfl, h2, rfl⟩ := rs
          have ew := rel_int.mp h1
          subst ew
          refine ⟨a, us, i, w2, rfl, rfl, eh, ?_, hc.2.1, Int.lt_trans hc.2.2 (by decide +kernel), ?_⟩
          · rw [← rr.length]
            exact Nat.lt_of_lt_of_le hc.1 (big_le (Nat.le_refl _))
          · refine q mu _ _ (Ge.put ea) (m.put ea ?_) (rel_non.mpr rfl)
            have rr2 := rr.mono (Ge.put (u := .lst (us.take i.toNat ++ [w2] ++ us.drop i.toNat)) ea)
            exact ⟨_, upd_same, ((rr2.take _).append (.cons (h2.mono (Ge.put ea)) .nil)).append (rr2.drop _)⟩
        · cases e
      · cases e
    · cases e
  · cases e
theorem pE_insert {e' : Expr} {apos : Pos} (ho : PE X o (tE X.K W fo)) (ha : PA X [e, e'] (tA X.K W fa)) (hbase : attributeBase o "insert" X.env (eval o X.env) = eval o X.env := by rfl)
    (hfew : ((backTo pos (starEach [e, e'] X.env)).all (fun x => !x.1) && (backToKw pos (keywordEach [] X.env)).all (fun x => x.1.isSome)
      && decide ([e, e'].length + ([] : List Keyword).length + (if ([] : List Keyword).isEmpty then 0 else 1) < 30)) = true := by rfl)
    (hline : (apos.endLine == pos.line) = true := by rfl) (hs : starEach [e, e'] X.env = (false, eval e X.env) :: starEach [e'] X.env := by rfl) (hplain : (backTo pos (starEach [e'] X.env)).any (·.1) = false := by rfl) :
    PE X (.Call (.Attribute o "insert" apos) [e, e'] [] pos) (tE X.K W (fMth mInsert fo fa)) := pE_mth PySem.F.slot_list_insert PySem.F.type_list_insert mt_insert ml_insert ho ha hbase hfew hline hs hplain
def mPopAt (s : S) (d : D) : List D → Option (D × S)
  | [.int i] => match d with
    | .ref n => match s[n]? with
      | some (.lst xs) => if 0 ≤ i ∧ i < 2 ^ 60 then (xs[i.toNat]?).map fun y => (y, s.set n (.lst (xs.eraseIdx i.toNat))) else none
      | _ => none
    | _ => none
  | _ => none
theorem RelDs.eraseIdx {K : PySem.W.Frag} {mu : Mu} {H : Hp} : ∀ {ds : List D} {vs : List V} (i : Nat), RelDs K mu H ds vs → RelDs K mu H (ds.eraseIdx i) (vs.eraseIdx i)
  | [], vs, i, h => by
    simp only [RelDs] at h
    subst h
    exact .nil
  | x :: xs, vs, 0, h => by
    simp only [RelDs] at h
    obtain ⟨w, r, rfl, h1, h2⟩ := h
    exact h2
  | x :: xs, vs, i + 1, h => by
    simp only [RelDs] at h
    obtain ⟨w, r, rfl, h1, h2⟩ := h
    exact .cons h1 (RelDs.eraseIdx i h2)
theorem ml_popAt {K : PySem.W.Frag} : MthL K rPopAt mPopAt := by
  intro mu s H d ds v vs Q z m r rs e q
  unfold mPopAt at e
  split at e
  · rename_i i
    split at e
    · rename_i n
      split at e
      · rename_i xs en
        split at e
        · rename_i hc
          obtain ⟨y, ey, rfl⟩ := Option.map_eq_some_iff.mp e
          obtain ⟨a, us, rfl, ea, eh, rr⟩ := sq_ref m r en
          obtain ⟨w, rfl, rw⟩ := rel1 rs
          have ew := rel_int.mp rw
          subst ew
          obtain ⟨u, eu, ru⟩ := rr.get ey
          have hlt := (List.getElem?_eq_some_iff.mp eu).1
          refine ⟨a, us, i, i.toNat, u, rfl, rfl, eh, Int.le_trans (by decide +kernel) hc.1, Int.lt_trans hc.2 (by decide +kernel), ?_, eu, ?_⟩
          · unfold seqIndex?
            split
            · omega
            · simp
              omega
          · refine q mu _ _ (Ge.put ea) (m.put ea ⟨_, upd_same, (RelDs.eraseIdx _ rr).mono (Ge.put ea)⟩) (ru.mono (Ge.put ea))
        · cases e
      · cases e
    · cases e
  · cases e
theorem pE_popAt {apos : Pos} (ho : PE X o (tE X.K W fo)) (ha : PA X [e] (tA X.K W fa)) (hbase : attributeBase o "pop" X.env (eval o X.env) = eval o X.env := by rfl)
    (hfew : ((backTo pos (starEach [e] X.env)).all (fun x => !x.1) && (backToKw pos (keywordEach [] X.env)).all (fun x => x.1.isSome)
      && decide ([e].length + ([] : List Keyword).length + (if ([] : List Keyword).isEmpty then 0 else 1) < 30)) = true := by rfl)
    (hline : (apos.endLine == pos.line) = true := by rfl) (hs : starEach [e] X.env = (false, eval e X.env) :: starEach [] X.env := by rfl) :
    PE X (.Call (.Attribute o "pop" apos) [e] [] pos) (tE X.K W (fMth mPopAt fo fa)) := pE_mth PySem.F.slot_list_pop PySem.F.type_list_pop mt_popAt ml_popAt ho ha hbase hfew hline hs rfl
end
end SI

/-! several except clauses, with and without a name -/
namespace SI
open PySem PySem.Spec PyProof.Rows L2
/-- a clause: the class, the place of its name, its suite -/
abbrev Cla := Value × Option Nat × (Addr → Value → Option Addr → TS)
def endsAt (i : Option Nat) (D : Ends) : Ends := match i with
  | none => D
  | some i => { nx := fun σ H => D.nx (σ.set i none) H, rt := D.rt, bk := fun σ H => D.bk (σ.set i none) H, ct := fun σ H => D.ct (σ.set i none) H }
def stAt (i : Option Nat) (a : Addr) (σ : L2.St) : L2.St := match i with
  | none => σ
  | some i => σ.set i (some (.ref a))
def wX (K : PySem.W.Frag) (Wo : WX) (D : Ends) : List Cla → WX
  | [] => Wo
  | (c, i, ts) :: r => fun cls d σ H => ∃ b, PySem.W.exmOne K cls c = some b ∧ (b = true → ∀ a, H a = none → ts a cls d (endsAt i D) (stAt i a σ) H) ∧ (b = false → wX K Wo D r cls d σ H)
inductive HdX (X : Cx) : List ExceptHandler → List Cla → Prop
  | nil : HdX X [] []
  | cons {x : Str} {c : Value} {ts : Addr → Value → Option Addr → TS} {b0 : Stmt} {su : List Stmt} {q1 q2 : Pos} {hs : List ExceptHandler} {l : List Cla} (nm : Names X x c)
      (go : ∀ (a : Addr) (oe : Obj) (k : Value) (d : Option Addr) (pn : List (Addr × Obj)), Zc k d oe → (∃ vs, oe.data = .fields vs) → PSs (X.suite a ((a, oe) :: pn)) (b0 :: su) (ts a k d)) (r : HdX X hs l) :
      HdX X (.ExceptHandler (some (.Name x q1)) none (b0 :: su) q2 :: hs) ((c, none, ts) :: l)
  | consAs {x n : Str} {i : Nat} {c : Value} {ts : Addr → Value → Option Addr → TS} {b0 : Stmt} {su : List Stmt} {q1 q2 : Pos} {hs : List ExceptHandler} {l : List Cla} (nm : Names X x c) (nd : X.N.Nodup) (hi : X.N[i]? = some n) (hk : X.env.kindOf n = some .local)
      (go : ∀ (a : Addr) (oe : Obj) (k : Value) (d : Option Addr) (pn : List (Addr × Obj)), Zc k d oe → (∃ vs, oe.data = .fields vs) → PSs (X.suite a ((a, oe) :: pn)) (b0 :: su) (ts a k d)) (r : HdX X hs l) :
      HdX X (.ExceptHandler (some (.Name x q1)) (some n) (b0 :: su) q2 :: hs) ((c, some i, ts) :: l)
section
variable {X : Cx} {body : List Stmt} {hd0 : ExceptHandler} {hds : List ExceptHandler} {l : List Cla} {pos : Pos} {tb : WX → TS} {Wo : WX}
theorem ps_tryX (st : X.stack = X.env :: X.outer) (fr : X.env.frame = some X.env.locals) (tk : Takes X Wo)
    (hb : ∀ (W : WX) (pn : List (Addr × Obj)) (xe : Value → Shared → Prop), Takes (X.tr pn xe) W → PassesOwn (model X.prog X.w) X.A X.env xe → PSs (X.tr pn xe) body (tb W))
    (hh : HdX X (hd0 :: hds) l) : PS X (.Try body (hd0 :: hds) [] [] pos) (fun D σ H => tb (wX X.K Wo D l) D σ H) := by
  refine ⟨fun pins s σ H D I h => ?_⟩
  have iok := I.ok
  have frs' : X.A.frames = some (X.env :: X.outer) := by rw [iok.frames, st]
  refine wpAny_Try_except (wpAny_mono ((hb (wX X.K Wo D l) (X.pn ++ pins) (fun e t1 => wpAny (model X.prog X.w) X.A (noteFrame e X.env) (fun _ t2 => wpAny (model X.prog X.w) X.A (setFlight e none) (fun _ t3 => wpAny (model X.prog X.w) X.A (handleBy e X.env (hd0 :: hds)) (SP X pins D) X.xe t3) X.xe t2) X.xe t1) (fun u t xx => ?_) PassesOwn.looking).run [] s σ H D (I.toTry _) h) (fun f t1 hsp => ?_) (fun e t1 he => he))
  · obtain ⟨a, B, t0, pins', σ1, H1, cls, d, rfl, Jt, nb, up, sky, na, os, ag, w⟩ := xx
    have J : Inv X pins σ1 H1 t0 := Jt.ofTry iok
    have sk : Sky B (X.env :: X.outer) a (Zc cls d) X.env.locals t.heap := by rw [← st]; exact sky
    show wpAny (model X.prog X.w) X.A (noteFrame (.ref a) X.env) _ _ _
    refine Sky.land Zc.steady frs' fr sk fun hp fl upp => ?_
    have Jp : Inv X pins σ1 H1 { t with heap := hp } := J.landed nb fl.1 (up.trans upp) os ag
    obtain ⟨ob, vb, hob, hzb, hdb⟩ := fl.there
    have off : a ∉ frs (X.env :: X.outer) := fun hm => by
      obtain ⟨_, ob', hob', hnf⟩ := fl.2.2.1.mem hm
      rw [hob] at hob'
      cases hob'
      exact hnf _ hdb
    have off1 : a ≠ X.env.locals := fun z => off (List.mem_filterMap.mpr ⟨X.env, List.mem_cons_self, by rw [fr, z]⟩)
    have off2 : a ∉ X.fs := fun hm => by
      obtain ⟨ev, hev, qe⟩ := List.mem_filterMap.mp hm
      exact off (List.mem_filterMap.mpr ⟨ev, List.mem_cons_of_mem _ hev, qe⟩)
    have Su := Jp.suite hob hdb na off1 off2
    have ty : PySem.W.Looks (model X.prog X.w) hp (typeOf (.ref a)) cls := fun A Q E s k q => wpAny_typeOf_ref (k _ _ hob) (by rw [hzb.1]; exact q)
    have tst : ∀ {x : Str} {c : Value} {np : Pos} (nm : Names X x c) {Q : Value → Shared → Prop} {E : Value → Shared → Prop}, Q c { t with heap := hp } → wpAny (model X.prog X.w) (X.A.mark (some (.ref a))) (eval (.Name x np) X.env) Q E { t with heap := hp } := fun {x c np} nm {Q E} q => by
      obtain ⟨ng, nb', nm1 | ⟨nm1, nv, nn⟩⟩ := nm
      · exact ld_glob (X := X.suite a ((a, ob) :: (X.pn ++ pins))) Su ng nm1 q nb'
      · exact ld_blt (X := X.suite a ((a, ob) :: (X.pn ++ pins))) Su ng nm1 nv q nn nb'
    have all : ∀ {hs' : List ExceptHandler} {l' : List Cla}, HdX X hs' l' → wX X.K Wo D l' cls d σ1 H1 → wpAny (model X.prog X.w) X.A (handleBy (.ref a) X.env hs') (SP X pins D) X.xe { t with heap := hp } := by
      intro hs' l' hk
      induction hk with
      | nil =>
        intro w
        refine wpAny_handleBy_nil ?_
        obtain ⟨k1, k2, k3, o1, v1, T1, oT1, ts1, e1, z1, d1, f1, r1⟩ := id fl
        unfold PySem.passOn
        refine wpAny_bind (wpAny_field e1 d1 f1 ?_)
        rw [if_neg (show ¬ ((Value.ref T1 == Value.none) = true) from by simp)]
        have last : wpAny (model X.prog X.w) X.A (setFlight (.ref a) X.env.frame) (fun _ t4 => wpAny (model X.prog X.w) X.A (throw (.ref a) : Sem Flow) (SP X pins D) X.xe t4) X.xe { t with heap := hp } := by
          rw [fr]
          refine HandSPX.setFlight_upZ fl fun h4 hh4 up4 => wpAny_throw (tk _ _ ?_)
          exact ⟨a, B, t0, pins, σ1, H1, cls, d, rfl, J, nb, (up.trans upp).trans up4, .inr (.inr (by rw [st]; exact hh4)), na, os, ag, w⟩
        first
          | exact wpAny_bind (wpAny_pure (wpAny_bind last))
          | exact wpAny_bind last
      | @cons x c ts b0 su q1 q2 hs2 l2 nm go r ih =>
        intro w
        obtain ⟨b, w1, w2, w3⟩ := w
        refine wpAny_handleBy_cons (codeAny_handlers_test (tst nm ((PySem.W.exm_one (M := model X.prog X.w) Jp.kIn ty w1).here ?_))) (by intro q; cases q)
        cases b with
        | true =>
          refine codeAny_handlers_suite (HandSPX.lands_againZ fl fun h4 fl4 up4 => ?_)
          have J4 : Inv X pins σ1 H1 { t with heap := h4 } := J.landed nb fl4.1 ((up.trans upp).trans up4) os ag
          obtain ⟨o4, v4, ho4, hz4, hd4⟩ := fl4.there
          refine wpAny_mono ((go a o4 cls d (X.pn ++ pins) hz4 ⟨_, hd4⟩).run [] _ _ H1 _ (J4.suite ho4 hd4 na off1 off2) (w2 rfl a na)) (fun f t6 hsp => ?_) (fun _ _ z => False.elim z)
          cases f with
          | next => exact (fun ⟨x1, x2, x3, x4⟩ => ⟨x1, x2, x3.unsuite iok, x4⟩) hsp
          | brk => exact (fun ⟨x1, x2, x3, x4⟩ => ⟨x1, x2, x3.unsuite iok, x4⟩) hsp
          | cont => exact (fun ⟨x1, x2, x3, x4⟩ => ⟨x1, x2, x3.unsuite iok, x4⟩) hsp
          | ret u => exact (fun ⟨x0, x1, x2, x3, x4, x5⟩ => ⟨x0, x1, x2, x3.unsuite iok, x4, x5⟩) hsp
        | false =>
          show wpAny _ X.A (handleBy (.ref a) X.env hs2) _ _ _
          exact ih (w3 rfl)
      | @consAs x n i c ts b0 su q1 q2 hs2 l2 nm nd hi hk go r ih =>
        intro w
        obtain ⟨b, w1, w2, w3⟩ := w
        refine wpAny_handleBy_cons (codeAny_handlers_test (tst nm ((PySem.W.exm_one (M := model X.prog X.w) Jp.kIn ty w1).here ?_))) (by intro q; cases q)
        cases b with
        | true =>
          refine codeAny_handlers_suite_as (HandSPX.lands_againZ fl fun h4 fl4 up4 => ?_)
          have J4 : Inv X pins σ1 H1 { t with heap := h4 } := J.landed nb fl4.1 ((up.trans upp).trans up4) os ag
          obtain ⟨o4, v4, ho4, hz4, hd4⟩ := fl4.there
          refine store_ok (X := X.suite a ((a, o4) :: (X.pn ++ pins))) (v := .ref a) (J4.suite ho4 hd4 na off1 off2) nd hi (.inl hk) rfl (fun t5 S5 => ?_) (.inr hk)
          refine wpAny_mono ((go a o4 cls d (X.pn ++ pins) hz4 ⟨_, hd4⟩).run [] t5 _ H1 _ S5 (w2 rfl a na)) (fun f t6 hsp => ?_) (fun _ _ z => False.elim z)
          have done : ∀ {σ6 : L2.St} {H6 : Hp} {Q : Shared → Prop}, Inv (X.suite a ((a, o4) :: (X.pn ++ pins))) [] σ6 H6 t6 → (∀ t7, Inv X pins (σ6.set i none) H6 t7 → Q t7) →
              wpAny (model X.prog X.w) X.A (do bindName X.env n .none; unbindBehindTheSuite X.env n q2) (fun _ t7 => Q t7) X.xe t6 := fun {σ6 H6 Q} S6 hq => gone_ok (S6.unsuite iok) nd hi hk hq
          cases f with
          | next => exact (fun ⟨x1, x2, x3, x4⟩ => done x3 fun _ J7 => ⟨_, _, J7, x4⟩) hsp
          | brk => exact (fun ⟨x1, x2, x3, x4⟩ => done x3 fun _ J7 => ⟨_, _, J7, x4⟩) hsp
          | cont => exact (fun ⟨x1, x2, x3, x4⟩ => done x3 fun _ J7 => ⟨_, _, J7, x4⟩) hsp
          | ret u => exact (fun ⟨x0, x1, x2, x3, x4, x5⟩ => done x3 fun _ J7 => ⟨_, _, _, J7, x4, x5⟩) hsp
        | false =>
          show wpAny _ X.A (handleBy (.ref a) X.env hs2) _ _ _
          exact ih (w3 rfl)
    exact all hh w
  · cases f with
    | next => exact (fun ⟨x1, x2, x3, x4⟩ => wpAny_execs_nil ⟨x1, x2, x3.ofTry iok, x4⟩) hsp
    | brk => exact (fun ⟨x1, x2, x3, x4⟩ => ⟨x1, x2, x3.ofTry iok, x4⟩) hsp
    | cont => exact (fun ⟨x1, x2, x3, x4⟩ => ⟨x1, x2, x3.ofTry iok, x4⟩) hsp
    | ret u => exact (fun ⟨x0, x1, x2, x3, x4, x5⟩ => ⟨x0, x1, x2, x3.ofTry iok, x4, x5⟩) hsp
end
theorem ne_ex {K : PySem.W.Frag} {A N : Addr} (h1 : PySem.W.exmOne K (.ref A) (.ref N) = some false) (h2 : PySem.W.exmOne K (.ref N) (.ref N) = some true) : A ≠ N := fun e => by
  subst e
  rw [h1] at h2
  cases h2
/-! ### at the data level -/
abbrev Cld := List (Addr × Bool) × Option Nat × (Addr → Addr → Option Addr → FS)
noncomputable def tryM : List Cld → Addr → List Str → List D → Lc → S → RS
  | [], C, fs, vs, L, s => .ex C fs vs L s
  | (sel, none, h) :: r, C, fs, vs, L, s => match selOf sel C with
    | some true => hAll fun a od => (h a C od L s).calm
    | some false => tryM r C fs vs L s
    | none => .bad
  | (sel, some i, h) :: r, C, fs, vs, L, s => match selOf sel C with
    | some true => hAll fun a od => (h a C od (L.set i (some (.exc a C od fs vs))) s).drop i
    | some false => tryM r C fs vs L s
    | none => .bad
noncomputable def sTryM (hs : List Cld) (b : FS) : FS := fun L s => match b L s with
  | .ex C fs vs L1 s1 => tryM hs C fs vs L1 s1
  | r => r
section
variable {X : Cx} {W : WX} {pos : Pos}
inductive HdD (X : Cx) : List ExceptHandler → List Cld → Prop
  | nil : HdD X [] []
  | cons {x : Str} {Ca : Addr} {sel : List (Addr × Bool)} {fh : Addr → Addr → Option Addr → FS} {b0 : Stmt} {su : List Stmt} {q1 q2 : Pos} {hs : List ExceptHandler} {l : List Cld} (hm : X.mg x = some (.ref Ca)) (hsel : ∀ p ∈ sel, PySem.W.exmOne X.K (.ref p.1) (.ref Ca) = some p.2)
      (go : ∀ (a : Addr) (oe : Obj) (C : Addr) (d : Option Addr) (pn : List (Addr × Obj)), Zc (.ref C) d oe → (∃ vs, oe.data = .fields vs) → PSs (X.suite a ((a, oe) :: pn)) (b0 :: su) (tS X.K (fun _ _ _ _ => False) (fh a C d))) (r : HdD X hs l)
      (hg : Gl X x := by rfl) (hdb : (x == ("__debug__" : Str)) = false := by decide) :
      HdD X (.ExceptHandler (some (.Name x q1)) none (b0 :: su) q2 :: hs) ((sel, none, fh) :: l)
  | consAs {x n : Str} {i : Nat} {Ca : Addr} {sel : List (Addr × Bool)} {fh : Addr → Addr → Option Addr → FS} {b0 : Stmt} {su : List Stmt} {q1 q2 : Pos} {hs : List ExceptHandler} {l : List Cld} (nd : X.N.Nodup) (hm : X.mg x = some (.ref Ca)) (hsel : ∀ p ∈ sel, PySem.W.exmOne X.K (.ref p.1) (.ref Ca) = some p.2)
      (go : ∀ (a : Addr) (oe : Obj) (C : Addr) (d : Option Addr) (pn : List (Addr × Obj)), Zc (.ref C) d oe → (∃ vs, oe.data = .fields vs) → PSs (X.suite a ((a, oe) :: pn)) (b0 :: su) (tS X.K (fun _ _ _ _ => False) (fh a C d))) (r : HdD X hs l)
      (hi : X.N[i]? = some n := by rfl) (hk : X.env.kindOf n = some .local := by rfl) (hg : Gl X x := by rfl) (hdb : (x == ("__debug__" : Str)) = false := by decide) :
      HdD X (.ExceptHandler (some (.Name x q1)) (some n) (b0 :: su) q2 :: hs) ((sel, some i, fh) :: l)
abbrev suT (K : PySem.W.Frag) (fh : Addr → Addr → Option Addr → FS) : Addr → Value → Option Addr → TS := fun a k d D σ H => ∃ C, k = .ref C ∧ tS K (fun _ _ _ _ => False) (fh a C d) D σ H
theorem hdD_to {hds : List ExceptHandler} {hs : List Cld} (h : HdD X hds hs) : ∃ l, HdX X hds l ∧ ∀ (D : Ends) (mu : Mu) (s : S) (L : Lc) (σ : L2.St) (H : Hp) (C : Addr) (fs : List Str) (vs : List SI.D) (od : Option Addr), Sim X.K mu s H → LR X.K mu H L σ → XR X.K mu H fs vs od → PostS X.K W D mu H (tryM hs C fs vs L s) → wX X.K W D l (.ref C) od σ H := by
  induction h with
  | nil => exact ⟨[], .nil, fun D mu s L σ H C fs vs od m l xr q => q mu σ H od (Ge.refl _ _) m l xr⟩
  | @cons x Ca sel fh b0 su q1 q2 hs' l' hm hsel go r hg hdb ih =>
    obtain ⟨l, hl, ih⟩ := ih
    refine ⟨(.ref Ca, none, suT X.K fh) :: l, .cons ⟨hg, hdb, .inl hm⟩ (fun a oe k d pn hz hv => ⟨fun pins s σ H D I h => ?_⟩) hl, fun D mu s L σ H C fs vs od m lr xr q => ?_⟩
    · obtain ⟨C, rfl, h⟩ := h
      exact (go a oe C d pn hz hv).run pins s σ H D I h
    · unfold tryM at q
      cases es : selOf sel C with
      | none =>
        rw [es] at q
        exact q.elim
      | some bb =>
        rw [es] at q
        refine ⟨bb, hsel _ (selOf_mem es), fun hbt a na => ?_, fun hbf => ?_⟩
        · subst hbt
          refine ⟨C, rfl, mu, s, L, m, lr, ?_⟩
          dsimp only at q
          rcases hAll_at (g := fun a od => (fh a C od L s).calm) a od with z | z
          · rw [z] at q
            exact q.elim
          · rw [← z] at q
            exact PostS.calm q
        · subst hbf
          exact ih D mu s L σ H C fs vs od m lr xr q
  | @consAs x n i Ca sel fh b0 su q1 q2 hs' l' nd hm hsel go r hi hk hg hdb ih =>
    obtain ⟨l, hl, ih⟩ := ih
    refine ⟨(.ref Ca, some i, suT X.K fh) :: l, .consAs ⟨hg, hdb, .inl hm⟩ nd hi hk (fun a oe k d pn hz hv => ⟨fun pins s σ H D I h => ?_⟩) hl, fun D mu s L σ H C fs vs od m lr xr q => ?_⟩
    · obtain ⟨C, rfl, h⟩ := h
      exact (go a oe C d pn hz hv).run pins s σ H D I h
    · unfold tryM at q
      cases es : selOf sel C with
      | none =>
        rw [es] at q
        exact q.elim
      | some bb =>
        rw [es] at q
        refine ⟨bb, hsel _ (selOf_mem es), fun hbt a na => ?_, fun hbf => ?_⟩
        · subst hbt
          dsimp only at q
          refine ⟨C, rfl, mu, s, L.set i (some (.exc a C od fs vs)), m, lr.set i ?_, ?_⟩
          · simp only [RelD]
            rcases xr with ⟨rfl, rfl, rfl⟩ | ⟨dx, ws, rfl, h1, h2, h3, h4⟩
            · exact ⟨trivial, [], .inl ⟨rfl, rfl⟩, rfl, .nil⟩
            · exact ⟨trivial, ws, .inr ⟨dx, rfl, h1, h2⟩, h3, h4⟩
          · rcases hAll_at (g := fun a od => (fh a C od (L.set i (some (.exc a C od fs vs))) s).drop i) a od with z | z
            · rw [z] at q
              exact q.elim
            · rw [← z] at q
              exact PostS.drop q
        · subst hbf
          exact ih D mu s L σ H C fs vs od m lr xr q
theorem pS_tryM {body : List Stmt} {hd0 : ExceptHandler} {hds : List ExceptHandler} {hs : List Cld} {fb : FS} (st : X.stack = X.env :: X.outer) (fr : X.env.frame = some X.env.locals) (tk : Takes X W)
    (hb : ∀ (W' : WX) (pn : List (Addr × Obj)) (xe : Value → Shared → Prop), Takes (X.tr pn xe) W' → PassesOwn (model X.prog X.w) X.A X.env xe → PSs (X.tr pn xe) body (tS X.K W' fb))
    (hh : HdD X (hd0 :: hds) hs) : PS X (.Try body (hd0 :: hds) [] [] pos) (tS X.K W (sTryM hs fb)) := by
  obtain ⟨l, hl, go⟩ := hdD_to (W := W) hh
  refine PS.weak (ps_tryX (tb := fun W' => tS X.K W' fb) st fr tk hb hl) fun D σ H ⟨mu, s, L, m, lr, q⟩ => ⟨mu, s, L, m, lr, ?_⟩
  unfold sTryM at q
  cases eb : fb L s with
  | nx L' s' => rw [eb] at q; exact q
  | rt d s' => rw [eb] at q; exact q
  | bk L' s' => rw [eb] at q; exact q
  | ct L' s' => rw [eb] at q; exact q
  | bad => rw [eb] at q; exact q
  | ex C fs vs L' s' =>
    rw [eb] at q
    intro mu' σ' H' od g' m' l' xr
    exact go D mu' s' L' σ' H' C fs vs od m' l' xr (PostS.ge g' q)
end
end SI

/-! range(i, j, -1) -/
namespace SI
open PySem PySem.Spec PyProof.Rows L2
section
variable {X : Cx} {W : WX} {fa : F (List D)} {pos : Pos}
def dnItems (hi : Int) (n : Nat) : List D := (List.range n).map fun (k : Nat) => .int (hi - (k : Int))
def dRngD : List D → Option Src
  | [.int i, .int j, .int k] => if k = -1 ∧ rgOk i = true ∧ rgOk j = true then some ⟨dnItems i (i - j).toNat, none⟩ else none
  | _ => none
theorem itr_dn {K : PySem.W.Frag} {mu : Mu} {H : Hp} {hi0 : Int} {n : Nat} : ItR K mu H (Itc hi0 (-1) n) ⟨dnItems hi0 n, none⟩ := by
  intro mu' s' H' g m _ i
  have hl : (dnItems hi0 n).length = n := by simp [dnItems]
  refine ⟨fun d e => ?_, fun e => ?_⟩
  · have hi := (List.getElem?_eq_some_iff.mp e).1
    have hi' : i < n := by rw [← hl]; exact hi
    refine ⟨hi', fun x H2 hy => ?_⟩
    obtain ⟨rfl, rfl⟩ := hy
    have e2 : (dnItems hi0 n)[i]? = some (.int (hi0 - (i : Int))) := by
      unfold dnItems
      rw [List.getElem?_map, List.getElem?_range hi']
      rfl
    have e3 : some (D.int (hi0 - (i : Int))) = some d := e2.symm.trans e
    cases e3
    refine ⟨Ge.refl _ _, m, rel_int.mpr ?_⟩
    congr 1
    omega
  · have := List.getElem?_eq_none_iff.mp e
    show n ≤ i
    rw [← hl]
    exact this
theorem pI_rngD {tg a b c : Expr} {p : Pos} (hm : X.mg "range" = none) (ha : PA X [a, b, c] (tA X.K W fa)) (hg : Gl X "range" := by rfl)
    (hs : starEach [a, b, c] X.env = (false, eval a X.env) :: starEach [b, c] X.env := by rfl) (hpl : (backTo pos (starEach [b, c] X.env)).any (·.1) = false := by rfl) :
    PI X tg (.Call (.Name "range" p) [a, b, c] [] pos) (tI X.K W (fRng dRngD fa)) := by
  refine PI.weak (pi_range3 hg hm ha hs hpl) fun σ H Rr ⟨mu, s, L, m, l, p⟩ => ⟨mu, s, L, m, l, Post.step p fun ds s1 mu1 H1 vs g1 m1 r1 p1 => ?_⟩
  cases e : dRngD ds with
  | none =>
    rw [e] at p1
    exact p1.elim
  | some r =>
    rw [e] at p1
    unfold dRngD at e
    split at e
    · rename_i i j k
      split at e
      · rename_i h
        obtain ⟨rfl, h1, h2⟩ := h
        cases e
        simp only [RelDs] at r1
        obtain ⟨v1, r, rfl, q1, v2, r', rfl, q2, v3, r'', rfl, q3, rfl⟩ := r1
        rw [rel_int.mp q1, rel_int.mp q2, rel_int.mp q3]
        have hb : -(2 ^ 62) ≤ i ∧ i < 2 ^ 62 := of_decide_eq_true h1
        have hb2 : -(2 ^ 62) ≤ j ∧ j < 2 ^ 62 := of_decide_eq_true h2
        exact ⟨i, j, -1, (i - j).toNat, rfl, RgC.neg hb.1 hb.2 hb2.1 hb2.2, p1 mu1 H1 _ (Ge.refl _ _) m1 itr_dn⟩
      · cases e
    · cases e
end
end SI

/-! min, max, sorted of one list of ints; index; in -/
namespace SI
open PySem PySem.Spec PyProof.Rows L2
section
variable {X : Cx} {W : WX} {o e : Expr} {es : List Expr} {fo : F D} {fa : F (List D)} {pos : Pos}
/-- the least -/
def lsI : List Int → Option Int
  | [] => none
  | n :: ns => some (ns.foldl min n)
def gsI : List Int → Option Int
  | [] => none
  | n :: ns => some (ns.foldl max n)
theorem fold_min : ∀ (ns : List Int) (n : Int), (ns.foldl min n = n ∨ ns.foldl min n ∈ ns) ∧ ns.foldl min n ≤ n ∧ ∀ y ∈ ns, ns.foldl min n ≤ y
  | [], n => ⟨.inl rfl, Int.le_refl _, fun y h => by cases h⟩
  | m :: ns, n => by
    obtain ⟨h1, h2, h3⟩ := fold_min ns (min n m)
    rw [List.foldl_cons]
    refine ⟨?_, by omega, fun y hy => ?_⟩
    · rcases h1 with h1 | h1
      · rcases Int.le_total n m with z | z
        · exact .inl (by rw [h1]; omega)
        · exact .inr (by rw [h1, Int.min_eq_right z]; simp)
      · exact .inr (List.mem_cons_of_mem _ h1)
    · rcases List.mem_cons.mp hy with rfl | e
      · omega
      · exact h3 y e
theorem fold_max : ∀ (ns : List Int) (n : Int), (ns.foldl max n = n ∨ ns.foldl max n ∈ ns) ∧ n ≤ ns.foldl max n ∧ ∀ y ∈ ns, y ≤ ns.foldl max n
  | [], n => ⟨.inl rfl, Int.le_refl _, fun y h => by cases h⟩
  | m :: ns, n => by
    obtain ⟨h1, h2, h3⟩ := fold_max ns (max n m)
    rw [List.foldl_cons]
    refine ⟨?_, by omega, fun y hy => ?_⟩
    · rcases h1 with h1 | h1
      · rcases Int.le_total m n with z | z
        · exact .inl (by rw [h1]; omega)
        · exact .inr (by rw [h1, Int.max_eq_right z]; simp)
      · exact .inr (List.mem_cons_of_mem _ h1)
    · rcases List.mem_cons.mp hy with rfl | e
      · omega
      · exact h3 y e
theorem lsI_mem {ns : List Int} {m : Int} (h : lsI ns = some m) : m ∈ ns ∧ ∀ y ∈ ns, m ≤ y := by
  cases ns with
  | nil => cases h
  | cons n ns =>
    cases h
    obtain ⟨h1, h2, h3⟩ := fold_min ns n
    refine ⟨?_, fun y hy => ?_⟩
    · rcases h1 with h1 | h1
      · rw [h1]; simp
      · exact List.mem_cons_of_mem _ h1
    · rcases List.mem_cons.mp hy with rfl | e
      · exact h2
      · exact h3 y e
theorem gsI_mem {ns : List Int} {m : Int} (h : gsI ns = some m) : m ∈ ns ∧ ∀ y ∈ ns, y ≤ m := by
  cases ns with
  | nil => cases h
  | cons n ns =>
    cases h
    obtain ⟨h1, h2, h3⟩ := fold_max ns n
    refine ⟨?_, fun y hy => ?_⟩
    · rcases h1 with h1 | h1
      · rw [h1]; simp
      · exact List.mem_cons_of_mem _ h1
    · rcases List.mem_cons.mp hy with rfl | e
      · exact h2
      · exact h3 y e
theorem lsI_eq {ns : List Int} {m : Int} (h : m ∈ ns) (hl : ∀ y ∈ ns, m ≤ y) : lsI ns = some m := by
  cases e : lsI ns with
  | none =>
    cases ns with
    | nil => cases h
    | cons => cases e
  | some k =>
    obtain ⟨h1, h2⟩ := lsI_mem e
    rw [Int.le_antisymm (h2 m h) (hl k h1)]
theorem gsI_eq {ns : List Int} {m : Int} (h : m ∈ ns) (hl : ∀ y ∈ ns, y ≤ m) : gsI ns = some m := by
  cases e : gsI ns with
  | none =>
    cases ns with
    | nil => cases h
    | cons => cases e
  | some k =>
    obtain ⟨h1, h2⟩ := gsI_mem e
    rw [Int.le_antisymm (hl k h1) (h2 m h)]
def bMin1 (s : S) : List D → Option D
  | [d] => ((lstOf s d).bind intsOf).bind fun ns => (lsI ns).map .int
  | _ => none
def bMax1 (s : S) : List D → Option D
  | [d] => ((lstOf s d).bind intsOf).bind fun ns => (gsI ns).map .int
  | _ => none
theorem cbl_min1 {K : PySem.W.Frag} : CbL K (rMin K) bMin1 := by
  intro mu s H ds d vs Q m r e q
  rcases ds with _ | ⟨d1, _ | ⟨d2, ds⟩⟩
  · cases e
  · obtain ⟨v, rfl, r1⟩ := rel1 r
    obtain ⟨ns, e1, e4⟩ := Option.bind_eq_some_iff.mp e
    obtain ⟨k, e5, rfl⟩ := Option.map_eq_some_iff.mp e4
    obtain ⟨xs, e2, e3⟩ := Option.bind_eq_some_iff.mp e1
    obtain ⟨a, vs, rfl, h2, h3⟩ := sq_lstOf m r1 e2
    have h5 := lsI_mem e5
    refine ⟨a, ns, rfl, by rw [← ints_rel h3 e3]; exact h2, List.length_pos_of_mem h5.1, fun z hz hl => ?_⟩
    have : z = k := Int.le_antisymm (hl k h5.1) (h5.2 z hz)
    subst this
    exact q mu H _ (Ge.refl _ _) m (rel_int.mpr rfl)
  · cases e
theorem cbl_max1 {K : PySem.W.Frag} : CbL K (rMax K) bMax1 := by
  intro mu s H ds d vs Q m r e q
  rcases ds with _ | ⟨d1, _ | ⟨d2, ds⟩⟩
  · cases e
  · obtain ⟨v, rfl, r1⟩ := rel1 r
    obtain ⟨ns, e1, e4⟩ := Option.bind_eq_some_iff.mp e
    obtain ⟨k, e5, rfl⟩ := Option.map_eq_some_iff.mp e4
    obtain ⟨xs, e2, e3⟩ := Option.bind_eq_some_iff.mp e1
    obtain ⟨a, vs, rfl, h2, h3⟩ := sq_lstOf m r1 e2
    have h5 := gsI_mem e5
    refine ⟨a, ns, rfl, by rw [← ints_rel h3 e3]; exact h2, List.length_pos_of_mem h5.1, fun z hz hl => ?_⟩
    have : z = k := Int.le_antisymm (h5.2 z hz) (hl k h5.1)
    subst this
    exact q mu H _ (Ge.refl _ _) m (rel_int.mpr rfl)
  · cases e
theorem pE_min1 {p : Pos} (hc : X.calm = true) (hm : X.mg "min" = none) (ha : PA X [e] (tA X.K W fa)) (hg : Gl X "min" := by rfl) (he : starEach [e] X.env = (false, eval e X.env) :: starEach [] X.env := by rfl) :
    PE X (.Call (.Name "min" p) [e] [] pos) (tE X.K W (fCB bMin1 fa)) := pE_cb (cr_min hc) cbl_min1 hm (by decide +kernel) ha hg (by decide) (by decide) he rfl
theorem pE_max1 {p : Pos} (hc : X.calm = true) (hm : X.mg "max" = none) (ha : PA X [e] (tA X.K W fa)) (hg : Gl X "max" := by rfl) (he : starEach [e] X.env = (false, eval e X.env) :: starEach [] X.env := by rfl) :
    PE X (.Call (.Name "max" p) [e] [] pos) (tE X.K W (fCB bMax1 fa)) := pE_cb (cr_max hc) cbl_max1 hm (by decide +kernel) ha hg (by decide) (by decide) he rfl
/-! index -/
def ixI (k : Int) : List Int → Option Nat
  | [] => none
  | n :: ns => if n = k then some 0 else (ixI k ns).map (· + 1)
theorem ixI_at {k : Int} : ∀ {ns : List Int} {j : Nat}, ixI k ns = some j → ns[j]? = some k ∧ ∀ m, m < j → ∀ z, ns[m]? = some z → z ≠ k
  | [], j, h => by cases h
  | n :: ns, j, h => by
    unfold ixI at h
    split at h
    · rename_i e
      cases h
      exact ⟨by simp [e], fun m hm => by omega⟩
    · rename_i e
      obtain ⟨i, e1, rfl⟩ := Option.map_eq_some_iff.mp h
      obtain ⟨h1, h2⟩ := ixI_at e1
      refine ⟨by simpa using h1, fun m hm z hz => ?_⟩
      cases m with
      | zero => simp at hz; omega
      | succ m => exact h2 m (by omega) z (by simpa using hz)
theorem ixI_eq {k : Int} : ∀ {ns : List Int} {j : Nat}, ns[j]? = some k → (∀ m, m < j → ∀ z, ns[m]? = some z → z ≠ k) → ixI k ns = some j
  | [], j, h, _ => by simp at h
  | n :: ns, 0, h, _ => by
    unfold ixI
    simp at h
    rw [if_pos h]
  | n :: ns, j + 1, h, h2 => by
    unfold ixI
    rw [if_neg (h2 0 (by omega) n (by simp)), ixI_eq (by simpa using h) fun m hm z hz => h2 (m + 1) (by omega) z (by simpa using hz)]
    rfl
theorem ixI_mem {k : Int} {ns : List Int} (h : k ∈ ns) : ∃ j, ixI k ns = some j := by
  induction ns with
  | nil => cases h
  | cons n ns ih =>
    unfold ixI
    by_cases e : n = k
    · exact ⟨0, by rw [if_pos e]⟩
    · obtain ⟨j, hj⟩ := ih (by rcases List.mem_cons.mp h with z | z; exact absurd z.symm e; exact z)
      exact ⟨j + 1, by rw [if_neg e, hj]; rfl⟩
def mIndex (s : S) (d : D) : List D → Option (D × S)
  | [.int k] => ((lstOf s d).bind intsOf).bind fun ns => (ixI k ns).map fun j => (.int (j : Nat), s)
  | _ => none
theorem ml_index {K : PySem.W.Frag} : MthL K (rIndex K) mIndex := by
  intro mu s H d ds v vs Q z m r rs e q
  unfold mIndex at e
  split at e
  · rename_i k
    obtain ⟨ns, e1, e4⟩ := Option.bind_eq_some_iff.mp e
    obtain ⟨j, e5, rfl⟩ := Option.map_eq_some_iff.mp e4
    obtain ⟨xs, e2, e3⟩ := Option.bind_eq_some_iff.mp e1
    obtain ⟨a, us, rfl, sq, rr⟩ := sq_lstOf m r e2
    have := ints_rel rr e3
    subst this
    obtain ⟨w, rfl, rw⟩ := rel1 rs
    have ew := rel_int.mp rw
    subst ew
    obtain ⟨h1, h2⟩ := ixI_at e5
    refine ⟨a, ns.map V.int, .int k, j, .int k, rfl, rfl, sq, rfl, ?_, ?_, ?_, fun i z' hi hz => ?_, q mu H _ (Ge.refl _ _) m (rel_int.mpr rfl)⟩
    · rw [List.all_eq_true]
      intro x hx
      obtain ⟨n, _, rfl⟩ := List.mem_map.mp hx
      rfl
    · rw [List.getElem?_map, h1]
      rfl
    · simp [eqV]
    · rw [List.getElem?_map] at hz
      obtain ⟨n, hn, rfl⟩ := Option.map_eq_some_iff.mp hz
      have := h2 i hi n hn
      simp [eqV, this]
  · cases e
theorem pE_index {apos : Pos} (ho : PE X o (tE X.K W fo)) (ha : PA X [e] (tA X.K W fa)) (hbase : attributeBase o "index" X.env (eval o X.env) = eval o X.env := by rfl)
    (hfew : ((backTo pos (starEach [e] X.env)).all (fun x => !x.1) && (backToKw pos (keywordEach [] X.env)).all (fun x => x.1.isSome)
      && decide ([e].length + ([] : List Keyword).length + (if ([] : List Keyword).isEmpty then 0 else 1) < 30)) = true := by rfl)
    (hline : (apos.endLine == pos.line) = true := by rfl) (hs : starEach [e] X.env = (false, eval e X.env) :: starEach [] X.env := by rfl) :
    PE X (.Call (.Attribute o "index" apos) [e] [] pos) (tE X.K W (fMth mIndex fo fa)) := pE_mth PySem.F.slot_list_index PySem.F.type_list_index mt_index ml_index ho ha hbase hfew hline hs rfl
/-! sorted -/
def srI (ns : List Int) : List Int := ns.mergeSort (fun a b => decide (a ≤ b))
theorem srI_perm (ns : List Int) : (srI ns).Perm ns := List.mergeSort_perm ..
theorem srI_pw (ns : List Int) : (srI ns).Pairwise (· ≤ ·) := by
  have := List.pairwise_mergeSort (le := fun a b : Int => decide (a ≤ b)) (fun a b c h1 h2 => by simp at *; omega) (fun a b => by simp; omega) ns
  exact this.imp fun h => by simpa using h
theorem srI_eq {ns ms : List Int} (h : ms.Perm ns) (hp : ms.Pairwise (· ≤ ·)) : ms = srI ns :=
  (h.trans (srI_perm ns).symm).eq_of_pairwise (fun a b _ _ h1 h2 => Int.le_antisymm h1 h2) hp (srI_pw ns)
def bSorted (s : S) : List D → Option D
  | [d] => ((lstOf s d).bind intsOf).map fun ns => .lst ((srI ns).map .int)
  | _ => none
theorem cbl_sorted {K : PySem.W.Frag} : CbL K (rSortedI K) bSorted := by
  intro mu s H ds d vs Q m r e q
  rcases ds with _ | ⟨d1, _ | ⟨d2, ds⟩⟩
  · cases e
  · obtain ⟨v, rfl, r1⟩ := rel1 r
    obtain ⟨ns, e1, rfl⟩ := Option.map_eq_some_iff.mp e
    obtain ⟨xs, e2, e3⟩ := Option.bind_eq_some_iff.mp e1
    obtain ⟨a, vs, rfl, h2, h3⟩ := sq_lstOf m r1 e2
    refine ⟨a, ns, rfl, by rw [← ints_rel h3 e3]; exact h2, fun ms p hp hs hn => ?_⟩
    have := srI_eq hp hs
    subst this
    exact q mu _ _ (Ge.pure m hn) (m.pure hn) (rel_lst m hn (RelDs.ints _))
  · cases e
theorem pE_sorted {p : Pos} (hm : X.mg "sorted" = none) (ha : PA X [e] (tA X.K W fa)) (hg : Gl X "sorted" := by rfl) (he : starEach [e] X.env = (false, eval e X.env) :: starEach [] X.env := by rfl) :
    PE X (.Call (.Name "sorted" p) [e] [] pos) (tE X.K W (fCB bSorted fa)) := pE_cb cr_sortedI cbl_sorted hm (by decide +kernel) ha hg (by decide) (by decide) he rfl
end
end SI

namespace Pg
open PySem L2 SI
structure Cl where
  Machine : Addr
  Desk : Addr
  Reader : Addr
  TellError : Addr
  InvalidMachine : Addr
  InvalidCount : Addr
  InvalidTime : Addr
  InvalidTurns : Addr
  InvalidRoots : Addr
  InvalidName : Addr
  InvalidNames : Addr
  InvalidPlan : Addr
  InvalidRows : Addr
  InvalidText : Addr
  LimitExceeded : Addr
  NothingLeft : Addr
  cs : List Addr
def G_is_integer (c : Cl) : List D → S → R D := runF 1
  ((sRet (fAndV (fCB (bIsi c.cs) (fCons (fVar 0) (fCons (fC (.ty "int")) fNil))) (fNotV (fCB (bIsi c.cs) (fCons (fVar 0) (fCons (fC (.ty "bool")) fNil)))))))
def G_between (c : Cl) : List D → S → R D := runF 3
  ((sRet (fAndV (fCall 1 (G_is_integer c) (fCons (fVar 0) fNil)) (fChain dLe dLe (fVar 1) (fVar 0) (fVar 2)))))
def G_Machine___init__ (c : Cl) : List D → S → R D := runF 4
  ((sSeq (sIf (fNot (fTst (fCall 3 (G_between c) (fCons (fVar 1) (fCons (fC (.int 0)) (fCons (fC (.int 1000000000)) fNil)))))) (sRaise1 c.InvalidMachine "part" (fCons (fC (.str "o")) fNil)) sNext)
    (sSeq (sIf (fNot (fTst (fCall 3 (G_between c) (fCons (fVar 2) (fCons (fC (.int 0)) (fCons (fC (.int 1000000000)) fNil)))))) (sRaise1 c.InvalidMachine "part" (fCons (fC (.str "l")) fNil)) sNext)
    (sSeq (sIf (fNot (fTst (fCall 3 (G_between c) (fCons (fVar 3) (fCons (fC (.int 1)) (fCons (fC (.int 1000000000)) fNil)))))) (sRaise1 c.InvalidMachine "part" (fCons (fC (.str "g")) fNil)) sNext)
    (sSeq (sIf (fTst (fOp (dEqD false) (fOp dAdd (fOp dMul (fC (.int 2)) (fVar 1)) (fVar 2)) (fC (.int 0)))) (sRaise1 c.InvalidMachine "part" (fCons (fC (.str "letter")) fNil)) sNext)
    (sSeq (sFldT [c.Machine] "o" (fVar 0) (fVar 1))
    (sSeq (sFldT [c.Machine] "l" (fVar 0) (fVar 2))
    (sSeq (sFldT [c.Machine] "g" (fVar 0) (fVar 3))
    (sSeq (sFldT [c.Machine] "letter" (fVar 0) (fOp dAdd (fOp dMul (fC (.int 2)) (fVar 1)) (fVar 2)))
    (sFldT [c.Machine] "gap" (fVar 0) (fCB bMax (fCons (fVar 1) (fCons (fVar 3) fNil)))))))))))))
def G_Machine_of (c : Cl) : List D → S → R D := runF 3
  ((sSeq (sIf (fNot (fTst (fCall 3 (G_between c) (fCons (fVar 1) (fCons (fC (.int 1)) (fCons (fC (.int 1000000000)) fNil)))))) (sRaise1 c.InvalidMachine "part" (fCons (fC (.str "letter")) fNil)) sNext)
    (sSeq (sIf (fNot (fTst (fCall 3 (G_between c) (fCons (fVar 2) (fCons (fC (.int 1)) (fCons (fC (.int 1000000000)) fNil)))))) (sRaise1 c.InvalidMachine "part" (fCons (fC (.str "gap")) fNil)) sNext)
    (sRet (fMakeL 0 c.Machine 4 (G_Machine___init__ c) (fCons (fC (.int 0)) (fCons (fVar 1) (fCons (fVar 2) fNil))))))))
def G_Machine___eq__ (c : Cl) : List D → S → R D := runF 2
  ((sRet (fAndV (fCB (bIsi c.cs) (fCons (fVar 1) (fCons (fC (.gl c.Machine)) fNil))) (fAndV (fOp (dEqD false) (fFld [c.Machine] "o" (fVar 0)) (fFld [c.Machine] "o" (fVar 1))) (fAndV (fOp (dEqD false) (fFld [c.Machine] "l" (fVar 0)) (fFld [c.Machine] "l" (fVar 1))) (fOp (dEqD false) (fFld [c.Machine] "g" (fVar 0)) (fFld [c.Machine] "g" (fVar 1))))))))
def G_Machine___mul__ (c : Cl) : List D → S → R D := runF 2
  ((sSeq (sIf (fOr (fNot (fTst (fCall 1 (G_is_integer c) (fCons (fVar 1) fNil)))) (fTst (fOp dLt (fVar 1) (fC (.int 1))))) (sRaise1 c.InvalidMachine "part" (fCons (fC (.str "factor")) fNil)) sNext)
    (sRet (fMake c.Machine 4 (G_Machine___init__ c) (fCons (fOp dMul (fFld [c.Machine] "o" (fVar 0)) (fVar 1)) (fCons (fOp dMul (fFld [c.Machine] "l" (fVar 0)) (fVar 1)) (fCons (fOp dMul (fFld [c.Machine] "g" (fVar 0)) (fVar 1)) fNil)))))))
def G_checked_count (c : Cl) : List D → S → R D := runF 3
  ((sSeq (sIf (fNot (fTst (fCall 3 (G_between c) (fCons (fVar 0) (fCons (fVar 1) (fCons (fVar 2) fNil)))))) (sRaise0 c.InvalidCount) sNext)
    (sRet (fVar 0))))
def G_checked_turns (c : Cl) : List D → S → R D := runF 1
  ((sSeq (sIf (fAnd (fTst (fOp (dIs true) (fVar 0) (fC .non))) (fNot (fTst (fCall 3 (G_between c) (fCons (fVar 0) (fCons (fC (.int 1)) (fCons (fC (.int 1000000000000)) fNil))))))) (sRaise0 c.InvalidTurns) sNext)
    (sRet (fVar 0))))
def G_checked_roots (c : Cl) : List D → S → R D := runF 4
  ((sSeq (sIf (fOr (fNot (fTst (fCB (bIsiT c.cs) (fCons (fVar 0) (fCons (fTup (fCons (fC (.ty "list")) (fCons (fC (.ty "tuple")) fNil))) fNil))))) (fNot (fTst (fChain dLe dLe (fC (.int 1)) (fCB bLen (fCons (fVar 0) fNil)) (fC (.int 6)))))) (sRaise1 c.InvalidRoots "at" (fCons (fNeg (fC (.int 1))) fNil)) sNext)
    (sSeq (sAsg 1 (fC (.int 0)))
    (sSeq (sFor (fEnu (fCons (fVar 0) fNil)) (gTp (gCn (gN 2) (gCn (gN 3) gNl))) (sSeq (sIf (fNot (fTst (fCall 3 (G_between c) (fCons (fVar 3) (fCons (fVar 1) (fCons (fC (.int 1000000000000)) fNil)))))) (sRaise1 c.InvalidRoots "at" (fCons (fVar 2) fNil)) sNext)
    (sAsg 1 (fVar 3))))
    (sRet (fCB bList (fCons (fVar 0) fNil)))))))
def G_choose (c : Cl) : List D → S → R D := runF 4
  ((sSeq (sAsg 1 (fCB bMin (fCons (fVar 1) (fCons (fOp dSub (fVar 0) (fVar 1)) fNil))))
    (sSeq (sAsg 2 (fC (.int 1)))
    (sSeq (sFor (fRng dRng2 (fCons (fC (.int 1)) (fCons (fOp dAdd (fVar 1) (fC (.int 1))) fNil))) (gN 3) (sAsg 2 (fOp dDiv (fOp dMul (fVar 2) (fOp dAdd (fOp dSub (fVar 0) (fVar 1)) (fVar 3))) (fVar 3))))
    (sRet (fVar 2))))))
def G_power (c : Cl) : List D → S → R D := runF 4
  ((sSeq (sAsg 2 (fC (.int 1)))
    (sSeq (sFor (fRng dRng1 (fCons (fVar 1) fNil)) (gN 3) (sAsg 2 (fOp dMul (fVar 2) (fVar 0))))
    (sRet (fVar 2)))))
def G_tuples_up_to (c : Cl) : List D → S → R D := runF 6
  ((sSeq (sIf (fTst (fOp dLt (fVar 1) (fC (.int 0)))) (sRet (fC (.int 0))) sNext)
    (sSeq (sIf (fTst (fOp (dIs false) (fVar 2) (fC .non))) (sRet (fCall 2 (G_choose c) (fCons (fOp dAdd (fVar 1) (fVar 0)) (fCons (fVar 0) fNil)))) sNext)
    (sSeq (sIf (fTst (fOp dGe (fVar 1) (fOp dMul (fVar 0) (fOp dSub (fVar 2) (fC (.int 1)))))) (sRet (fCall 2 (G_power c) (fCons (fVar 2) (fCons (fVar 0) fNil)))) sNext)
    (sSeq (sAsg 3 (fC (.int 0)))
    (sSeq (sFor (fRng dRng1 (fCons (fOp dAdd (fCB bMin (fCons (fVar 0) (fCons (fOp dDiv (fVar 1) (fVar 2)) fNil))) (fC (.int 1))) fNil)) (gN 4) (sSeq (sAsg 5 (fOp dMul (fCall 2 (G_choose c) (fCons (fVar 0) (fCons (fVar 4) fNil))) (fCall 2 (G_choose c) (fCons (fOp dAdd (fOp dSub (fVar 1) (fOp dMul (fVar 4) (fVar 2))) (fVar 0)) (fCons (fVar 0) fNil)))))
    (sIf (fTst (fOp (dEqD false) (fOp dMod (fVar 4) (fC (.int 2))) (fC (.int 1)))) (sAug dSub 3 (fVar 5)) (sAug dAddI 3 (fVar 5)))))
    (sRet (fVar 3))))))))
def G_tuples_of (c : Cl) : List D → S → R D := runF 3
  ((sRet (fOp dSub (fCall 3 (G_tuples_up_to c) (fCons (fVar 0) (fCons (fVar 1) (fCons (fVar 2) fNil)))) (fCall 3 (G_tuples_up_to c) (fCons (fVar 0) (fCons (fOp dSub (fVar 1) (fC (.int 1))) (fCons (fVar 2) fNil)))))))
def G_horizon (c : Cl) : List D → S → R D := runF 2
  ((sSeq (sIf (fTst (fOp (dIs false) (fVar 1) (fC .non))) (sRet (fOp dMul (fC (.int 120)) (fFld [c.Machine] "letter" (fVar 0)))) sNext)
    (sRet (fOp dMul (fC (.int 40)) (fFld [c.Machine] "letter" (fVar 0))))))
def G_known_by (c : Cl) : List D → S → R D := runF 9
  ((sSeq (sAsg 5 (fC (.int 0)))
    (sSeq (sFor (fSrc (fVar 3)) (gN 6) (sFor (fRng dRng1 (fCons (fOp dAdd (fOp dDiv (fOp dSub (fVar 1) (fVar 6)) (fFld [c.Machine] "letter" (fVar 0))) (fC (.int 1))) fNil)) (gN 7) (sSeq (sAsg 8 (fOp dSub (fOp dSub (fVar 1) (fVar 6)) (fOp dMul (fVar 7) (fFld [c.Machine] "letter" (fVar 0)))))
    (sSeq (sAug dAddI 5 (fCall 3 (G_tuples_up_to c) (fCons (fVar 7) (fCons (fOp dDiv (fVar 8) (fFld [c.Machine] "gap" (fVar 0))) (fCons (fVar 2) fNil)))))
    (sIf (fTst (fOp dGt (fVar 5) (fVar 4))) (sRet (fVar 5)) sNext)))))
    (sRet (fVar 5)))))
def G_known_just_at (c : Cl) : List D → S → R D := runF 6
  ((sSeq (sAsg 5 (fOp dSub (fOp dSub (fVar 1) (fVar 3)) (fOp dMul (fVar 4) (fFld [c.Machine] "letter" (fVar 0)))))
    (sSeq (sIf (fOr (fTst (fOp dLt (fVar 5) (fC (.int 0)))) (fTst (fOp (dEqD true) (fOp dMod (fVar 5) (fFld [c.Machine] "gap" (fVar 0))) (fC (.int 0))))) (sRet (fC (.int 0))) sNext)
    (sRet (fCall 3 (G_tuples_of c) (fCons (fVar 4) (fCons (fOp dDiv (fVar 5) (fFld [c.Machine] "gap" (fVar 0))) (fCons (fVar 2) fNil))))))))
def G_checked_time (c : Cl) : List D → S → R D := runF 3
  ((sSeq (sIf (fNot (fTst (fCall 3 (G_between c) (fCons (fVar 1) (fCons (fC (.int 0)) (fCons (fCall 2 (G_horizon c) (fCons (fVar 0) (fCons (fVar 2) fNil))) fNil)))))) (sRaise0 c.InvalidTime) sNext)
    (sRet (fVar 1))))
def G_reach (c : Cl) : List D → S → R D := runF 6
  ((sSeq (sExpr (fCall 1 (G_checked_turns c) (fCons (fVar 2) fNil)))
    (sSeq (sAsg 4 (fCall 1 (G_checked_roots c) (fCons (fVar 3) fNil)))
    (sSeq (sExpr (fCall 3 (G_checked_time c) (fCons (fVar 0) (fCons (fVar 1) (fCons (fVar 2) fNil)))))
    (sSeq (sAsg 5 (fCall 5 (G_known_by c) (fCons (fVar 0) (fCons (fVar 1) (fCons (fVar 2) (fCons (fVar 4) (fCons (fC (.int 10000000000000000000000000000000000000000)) fNil)))))))
    (sSeq (sIf (fTst (fOp dGt (fVar 5) (fC (.int 10000000000000000000000000000000000000000)))) (sRaise1 c.LimitExceeded "limit" (fCons (fC (.str "count")) fNil)) sNext)
    (sRet (fVar 5))))))))
def G_layer (c : Cl) : List D → S → R D := runF 8
  ((sSeq (sExpr (fCall 1 (G_checked_turns c) (fCons (fVar 2) fNil)))
    (sSeq (sAsg 4 (fCall 1 (G_checked_roots c) (fCons (fVar 3) fNil)))
    (sSeq (sExpr (fCall 3 (G_checked_time c) (fCons (fVar 0) (fCons (fVar 1) (fCons (fVar 2) fNil)))))
    (sSeq (sAsg 5 (fC (.int 0)))
    (sSeq (sFor (fSrc (fVar 4)) (gN 6) (sFor (fRng dRng1 (fCons (fOp dAdd (fOp dDiv (fOp dSub (fVar 1) (fVar 6)) (fFld [c.Machine] "letter" (fVar 0))) (fC (.int 1))) fNil)) (gN 7) (sSeq (sAug dAddI 5 (fCall 5 (G_known_just_at c) (fCons (fVar 0) (fCons (fVar 1) (fCons (fVar 2) (fCons (fVar 6) (fCons (fVar 7) fNil)))))))
    (sIf (fTst (fOp dGt (fVar 5) (fC (.int 10000000000000000000000000000000000000000)))) (sRaise1 c.LimitExceeded "limit" (fCons (fC (.str "count")) fNil)) sNext))))
    (sRet (fVar 5))))))))
def G_next_time (c : Cl) : List D → S → R D := runF 11
  ((sSeq (sExpr (fCall 1 (G_checked_turns c) (fCons (fVar 2) fNil)))
    (sSeq (sAsg 4 (fCall 1 (G_checked_roots c) (fCons (fVar 3) fNil)))
    (sSeq (sExpr (fCall 3 (G_checked_time c) (fCons (fVar 0) (fCons (fVar 1) (fCons (fVar 2) fNil)))))
    (sSeq (sAsg 5 (fCall 2 (G_horizon c) (fCons (fVar 0) (fCons (fVar 2) fNil))))
    (sSeq (sAsg 6 (fOp dAdd (fVar 5) (fC (.int 1))))
    (sSeq (sFor (fSrc (fVar 4)) (gN 7) (sSeq (sIf (fTst (fOp dGt (fVar 7) (fVar 1))) (sAsg 6 (fCB bMin (fCons (fVar 6) (fCons (fVar 7) fNil)))) sNext)
    (sFor (fRng dRng2 (fCons (fC (.int 1)) (fCons (fOp dAdd (fOp dDiv (fOp dSub (fVar 5) (fVar 7)) (fFld [c.Machine] "letter" (fVar 0))) (fC (.int 1))) fNil))) (gN 8) (sSeq (sAsg 9 (fOp dAdd (fVar 7) (fOp dMul (fVar 8) (fFld [c.Machine] "letter" (fVar 0)))))
    (sSeq (sAsg 10 (fCB bMax (fCons (fC (.int 0)) (fCons (fOp dAdd (fOp dDiv (fOp dSub (fVar 1) (fVar 9)) (fFld [c.Machine] "gap" (fVar 0))) (fC (.int 1))) fNil))))
    (sIf (fOr (fTst (fOp (dIs false) (fVar 2) (fC .non))) (fTst (fOp dLe (fVar 10) (fOp dMul (fVar 8) (fOp dSub (fVar 2) (fC (.int 1))))))) (sAsg 6 (fCB bMin (fCons (fVar 6) (fCons (fOp dAdd (fVar 9) (fOp dMul (fVar 10) (fFld [c.Machine] "gap" (fVar 0)))) fNil)))) sNext))))))
    (sSeq (sIf (fTst (fOp dGt (fVar 6) (fVar 5))) (sRet (fC .non)) sNext)
    (sRet (fVar 6))))))))))
def G_first_time (c : Cl) : List D → S → R D := runF 7
  ((sSeq (sAsg 4 (fNeg (fC (.int 1))))
    (sSeq (sAsg 5 (fCall 2 (G_horizon c) (fCons (fVar 0) (fCons (fVar 2) fNil))))
    (sSeq (sIf (fTst (fOp dLt (fCall 5 (G_known_by c) (fCons (fVar 0) (fCons (fVar 5) (fCons (fVar 2) (fCons (fVar 3) (fCons (fOp dSub (fVar 1) (fC (.int 1))) fNil)))))) (fVar 1))) (sRaise1 c.LimitExceeded "limit" (fCons (fC (.str "time")) fNil)) sNext)
    (sSeq (sWhile 100000 (fTst (fOp dGt (fOp dSub (fVar 5) (fVar 4)) (fC (.int 1)))) (sSeq (sAsg 6 (fOp dDiv (fOp dAdd (fVar 4) (fVar 5)) (fC (.int 2))))
    (sIf (fTst (fOp dLt (fCall 5 (G_known_by c) (fCons (fVar 0) (fCons (fVar 6) (fCons (fVar 2) (fCons (fVar 3) (fCons (fOp dSub (fVar 1) (fC (.int 1))) fNil)))))) (fVar 1))) (sAsg 4 (fVar 6)) (sAsg 5 (fVar 6)))))
    (sRet (fVar 5)))))))
def G_least_time (c : Cl) : List D → S → R D := runF 5
  ((sSeq (sExpr (fCall 1 (G_checked_turns c) (fCons (fVar 2) fNil)))
    (sSeq (sAsg 4 (fCall 1 (G_checked_roots c) (fCons (fVar 3) fNil)))
    (sSeq (sExpr (fCall 3 (G_checked_count c) (fCons (fVar 1) (fCons (fC (.int 1)) (fCons (fC (.int 1000000000000000000000000000000)) fNil)))))
    (sRet (fCall 4 (G_first_time c) (fCons (fVar 0) (fCons (fVar 1) (fCons (fVar 2) (fCons (fVar 4) fNil))))))))))
def G_wrong_at (c : Cl) : List D → S → R D := runF 5
  ((sSeq (sIf (fOr (fNot (fTst (fCB (bIsi c.cs) (fCons (fVar 0) (fCons (fC (.ty "tuple")) fNil))))) (fNot (fTst (fChain dLe dLe (fC (.int 1)) (fCB bLen (fCons (fVar 0) fNil)) (fC (.int 200)))))) (sRet (fNeg (fC (.int 1)))) sNext)
    (sSeq (sIf (fNot (fTst (fCall 3 (G_between c) (fCons (fOp dIx (fVar 0) (fC (.int 0))) (fCons (fC (.int 0)) (fCons (fOp dSub (fVar 2) (fC (.int 1))) fNil)))))) (sRet (fC (.int 0))) sNext)
    (sSeq (sAsg 3 (fC (.int 1000000000000000)))
    (sSeq (sIf (fTst (fOp (dIs true) (fVar 1) (fC .non))) (sAsg 3 (fCB bMin (fCons (fVar 3) (fCons (fOp dSub (fVar 1) (fC (.int 1))) fNil)))) sNext)
    (sSeq (sFor (fRng dRng2 (fCons (fC (.int 1)) (fCons (fCB bLen (fCons (fVar 0) fNil)) fNil))) (gN 4) (sIf (fNot (fTst (fCall 3 (G_between c) (fCons (fOp dIx (fVar 0) (fVar 4)) (fCons (fC (.int 0)) (fCons (fVar 3) fNil)))))) (sRet (fVar 4)) sNext))
    (sRet (fC .non))))))))
def G_checked_name (c : Cl) : List D → S → R D := runF 4
  ((sSeq (sAsg 3 (fCall 3 (G_wrong_at c) (fCons (fVar 0) (fCons (fVar 1) (fCons (fVar 2) fNil)))))
    (sSeq (sIf (fTst (fOp (dIs true) (fVar 3) (fC .non))) (sRaise1 c.InvalidName "at" (fCons (fVar 3) fNil)) sNext)
    (sRet (fVar 0)))))
def G_time_of (c : Cl) : List D → S → R D := runF 3
  ((sRet (fOp dAdd (fOp dAdd (fOp dIx (fVar 2) (fOp dIx (fVar 1) (fC (.int 0)))) (fOp dMul (fOp dSub (fCB bLen (fCons (fVar 1) fNil)) (fC (.int 1))) (fFld [c.Machine] "letter" (fVar 0)))) (fOp dMul (fCB bSum (fCons (fSl (fVar 1) (fPt (fC (.int 1))) fNo) fNil)) (fFld [c.Machine] "gap" (fVar 0))))))
def G_known_at (c : Cl) : List D → S → R D := runF 5
  ((sSeq (sExpr (fCall 1 (G_checked_turns c) (fCons (fVar 2) fNil)))
    (sSeq (sAsg 4 (fCall 1 (G_checked_roots c) (fCons (fVar 3) fNil)))
    (sSeq (sExpr (fCall 3 (G_checked_name c) (fCons (fVar 1) (fCons (fVar 2) (fCons (fCB bLen (fCons (fVar 4) fNil)) fNil)))))
    (sRet (fCall 3 (G_time_of c) (fCons (fVar 0) (fCons (fVar 1) (fCons (fVar 4) fNil)))))))))
def G_below (c : Cl) : List D → S → R D := runF 4
  ((sRet (fOp dSub (fCall 3 (G_tuples_up_to c) (fCons (fOp dSub (fVar 0) (fC (.int 1))) (fCons (fVar 1) (fCons (fVar 3) fNil)))) (fCall 3 (G_tuples_up_to c) (fCons (fOp dSub (fVar 0) (fC (.int 1))) (fCons (fOp dSub (fVar 1) (fVar 2)) (fCons (fVar 3) fNil)))))))
def G_tuple_at (c : Cl) : List D → S → R D := runF 9
  ((sSeq (sAsg 4 (fTup fNil))
    (sSeq (sFor (fRng dRngD (fCons (fVar 0) (fCons (fC (.int 0)) (fCons (fNeg (fC (.int 1))) fNil)))) (gN 5) (sSeq (sAsg 6 (fC (.int 0)))
    (sSeq (sAsg 7 (fOp dAdd (fVar 1) (fC (.int 1))))
    (sSeq (sIf (fTst (fOp (dIs true) (fVar 3) (fC .non))) (sAsg 7 (fCB bMin (fCons (fVar 7) (fCons (fVar 3) fNil)))) sNext)
    (sSeq (sWhile 100000 (fTst (fOp dGt (fOp dSub (fVar 7) (fVar 6)) (fC (.int 1)))) (sSeq (sAsg 8 (fOp dDiv (fOp dAdd (fVar 6) (fVar 7)) (fC (.int 2))))
    (sIf (fTst (fOp dLe (fCall 4 (G_below c) (fCons (fVar 5) (fCons (fVar 1) (fCons (fVar 8) (fCons (fVar 3) fNil))))) (fVar 2))) (sAsg 6 (fVar 8)) (sAsg 7 (fVar 8)))))
    (sSeq (sAug dSub 2 (fCall 4 (G_below c) (fCons (fVar 5) (fCons (fVar 1) (fCons (fVar 6) (fCons (fVar 3) fNil))))))
    (sSeq (sAug dSub 1 (fVar 6))
    (sAsg 4 (fOp dAdd (fVar 4) (fTup (fCons (fVar 6) fNil)))))))))))
    (sRet (fVar 4)))))
def G_name_at (c : Cl) : List D → S → R D := runF 12
  ((sSeq (sExpr (fCall 1 (G_checked_turns c) (fCons (fVar 2) fNil)))
    (sSeq (sAsg 4 (fCall 1 (G_checked_roots c) (fCons (fVar 3) fNil)))
    (sSeq (sExpr (fCall 3 (G_checked_count c) (fCons (fVar 1) (fCons (fC (.int 0)) (fCons (fOp dSub (fOp dPow (fC (.int 10)) (fC (.int 30))) (fC (.int 1))) fNil)))))
    (sSeq (sAsg 5 (fCall 4 (G_first_time c) (fCons (fVar 0) (fCons (fOp dAdd (fVar 1) (fC (.int 1))) (fCons (fVar 2) (fCons (fVar 4) fNil))))))
    (sSeq (sAsg 6 (fOp dSub (fVar 1) (fCall 5 (G_known_by c) (fCons (fVar 0) (fCons (fOp dSub (fVar 5) (fC (.int 1))) (fCons (fVar 2) (fCons (fVar 4) (fCons (fC (.int 10000000000000000000000000000000000000000)) fNil))))))))
    (sSeq (sAsg 7 (fC (.int 0)))
    (sWhile 100000 (fTst (fC (.bl true))) (sSeq (sFor (fEnu (fCons (fVar 4) fNil)) (gTp (gCn (gN 8) (gCn (gN 9) gNl))) (sSeq (sAsg 10 (fCall 5 (G_known_just_at c) (fCons (fVar 0) (fCons (fVar 5) (fCons (fVar 2) (fCons (fVar 9) (fCons (fVar 7) fNil)))))))
    (sSeq (sIf (fTst (fOp dLt (fVar 6) (fVar 10))) (sSeq (sAsg 11 (fOp dDiv (fOp dSub (fOp dSub (fVar 5) (fVar 9)) (fOp dMul (fVar 7) (fFld [c.Machine] "letter" (fVar 0)))) (fFld [c.Machine] "gap" (fVar 0))))
    (sRet (fOp dAdd (fTup (fCons (fVar 8) fNil)) (fCall 4 (G_tuple_at c) (fCons (fVar 7) (fCons (fVar 11) (fCons (fVar 6) (fCons (fVar 2) fNil)))))))) sNext)
    (sAug dSub 6 (fVar 10)))))
    (sAug dAddI 7 (fC (.int 1))))))))))))
def G_place_of (c : Cl) : List D → S → R D := runF 12
  ((sSeq (sExpr (fCall 1 (G_checked_turns c) (fCons (fVar 2) fNil)))
    (sSeq (sAsg 4 (fCall 1 (G_checked_roots c) (fCons (fVar 3) fNil)))
    (sSeq (sExpr (fCall 3 (G_checked_name c) (fCons (fVar 1) (fCons (fVar 2) (fCons (fCB bLen (fCons (fVar 4) fNil)) fNil)))))
    (sSeq (sAsg 5 (fCall 3 (G_time_of c) (fCons (fVar 0) (fCons (fVar 1) (fCons (fVar 4) fNil)))))
    (sSeq (sIf (fTst (fOp dGt (fVar 5) (fCall 2 (G_horizon c) (fCons (fVar 0) (fCons (fVar 2) fNil))))) (sRaise1 c.LimitExceeded "limit" (fCons (fC (.str "time")) fNil)) sNext)
    (sSeq (sAsg 6 (fCall 5 (G_known_by c) (fCons (fVar 0) (fCons (fOp dSub (fVar 5) (fC (.int 1))) (fCons (fVar 2) (fCons (fVar 4) (fCons (fC (.int 10000000000000000000000000000000000000000)) fNil)))))))
    (sSeq (sIf (fTst (fOp dGt (fVar 6) (fC (.int 10000000000000000000000000000000000000000)))) (sRaise1 c.LimitExceeded "limit" (fCons (fC (.str "count")) fNil)) sNext)
    (sSeq (sAsg 7 (fOp dSub (fCB bLen (fCons (fVar 1) fNil)) (fC (.int 1))))
    (sSeq (sFor (fRng dRng1 (fCons (fVar 7) fNil)) (gN 8) (sFor (fSrc (fVar 4)) (gN 9) (sAug dAddI 6 (fCall 5 (G_known_just_at c) (fCons (fVar 0) (fCons (fVar 5) (fCons (fVar 2) (fCons (fVar 9) (fCons (fVar 8) fNil)))))))))
    (sSeq (sFor (fSrc (fSl (fVar 4) fNo (fPt (fOp dIx (fVar 1) (fC (.int 0)))))) (gN 9) (sAug dAddI 6 (fCall 5 (G_known_just_at c) (fCons (fVar 0) (fCons (fVar 5) (fCons (fVar 2) (fCons (fVar 9) (fCons (fVar 7) fNil))))))))
    (sSeq (sAsg 10 (fCB bSum (fCons (fSl (fVar 1) (fPt (fC (.int 1))) fNo) fNil)))
    (sSeq (sFor (fRng dRng2 (fCons (fC (.int 1)) (fCons (fCB bLen (fCons (fVar 1) fNil)) fNil))) (gN 11) (sSeq (sAug dAddI 6 (fCall 4 (G_below c) (fCons (fOp dSub (fCB bLen (fCons (fVar 1) fNil)) (fVar 11)) (fCons (fVar 10) (fCons (fOp dIx (fVar 1) (fVar 11)) (fCons (fVar 2) fNil))))))
    (sAug dSub 10 (fOp dIx (fVar 1) (fVar 11)))))
    (sSeq (sIf (fTst (fOp dGt (fVar 6) (fC (.int 10000000000000000000000000000000000000000)))) (sRaise1 c.LimitExceeded "limit" (fCons (fC (.str "count")) fNil)) sNext)
    (sRet (fVar 6))))))))))))))))
def G_fewest_turns (c : Cl) : List D → S → R D := runF 6
  ((sSeq (sExpr (fCall 3 (G_checked_count c) (fCons (fVar 1) (fCons (fC (.int 1)) (fCons (fC (.int 1000000000000000000000000000000)) fNil)))))
    (sSeq (sAsg 2 (fCall 4 (G_first_time c) (fCons (fVar 0) (fCons (fVar 1) (fCons (fC .non) (fCons (fLst (fCons (fC (.int 0)) fNil)) fNil))))))
    (sSeq (sIf (fTst (fOp dGt (fVar 2) (fCall 2 (G_horizon c) (fCons (fVar 0) (fCons (fC (.int 1)) fNil))))) (sRaise1 c.LimitExceeded "limit" (fCons (fC (.str "time")) fNil)) sNext)
    (sSeq (sAsg 3 (fC (.int 0)))
    (sSeq (sAsg 4 (fOp dAdd (fOp dDiv (fVar 2) (fFld [c.Machine] "gap" (fVar 0))) (fC (.int 1))))
    (sSeq (sWhile 100000 (fTst (fOp dGt (fOp dSub (fVar 4) (fVar 3)) (fC (.int 1)))) (sSeq (sAsg 5 (fOp dDiv (fOp dAdd (fVar 3) (fVar 4)) (fC (.int 2))))
    (sIf (fTst (fOp dLt (fCall 5 (G_known_by c) (fCons (fVar 0) (fCons (fVar 2) (fCons (fVar 5) (fCons (fLst (fCons (fC (.int 0)) fNil)) (fCons (fOp dSub (fVar 1) (fC (.int 1))) fNil)))))) (fVar 1))) (sAsg 3 (fVar 5)) (sAsg 4 (fVar 5)))))
    (sRet (fVar 4)))))))))
def G_is_name (c : Cl) : List D → S → R D := runF 3
  ((sSeq (sExpr (fCall 1 (G_checked_turns c) (fCons (fVar 1) fNil)))
    (sRet (fOp (dIs false) (fCall 3 (G_wrong_at c) (fCons (fVar 0) (fCons (fVar 1) (fCons (fCB bLen (fCons (fCall 1 (G_checked_roots c) (fCons (fVar 2) fNil)) fNil)) fNil)))) (fC .non)))))
def G_is_row (c : Cl) : List D → S → R D := runF 1
  ((sSeq (sIf (fOr (fNot (fTst (fCB (bIsi c.cs) (fCons (fVar 0) (fCons (fC (.ty "tuple")) fNil))))) (fTst (fOp (dEqD true) (fCB bLen (fCons (fVar 0) fNil)) (fC (.int 3))))) (sRet (fC (.bl false))) sNext)
    (sRet (fAndV (fCall 1 (G_is_integer c) (fCons (fOp dIx (fVar 0) (fC (.int 0))) fNil)) (fAndV (fCall 1 (G_is_integer c) (fCons (fOp dIx (fVar 0) (fC (.int 1))) fNil)) (fCall 3 (G_between c) (fCons (fOp dIx (fVar 0) (fC (.int 2))) (fCons (fC (.int 0)) (fCons (fC (.int 1000000000000000)) fNil)))))))))
def G_form_fault_plans (c : Cl) : List D → S → R D := runF 3
  ((sSeq (sIf (fOr (fNot (fTst (fCB (bIsiT c.cs) (fCons (fVar 0) (fCons (fTup (fCons (fC (.ty "list")) (fCons (fC (.ty "tuple")) fNil))) fNil))))) (fTst (fOp dGt (fCB bLen (fCons (fVar 0) fNil)) (fC (.int 400))))) (sRet (fTup (fCons (fC (.str "form")) (fCons (fNeg (fC (.int 1))) fNil)))) sNext)
    (sSeq (sFor (fEnu (fCons (fVar 0) fNil)) (gTp (gCn (gN 1) (gCn (gN 2) gNl))) (sIf (fNot (fTst (fCall 1 (G_is_row c) (fCons (fVar 2) fNil)))) (sRet (fTup (fCons (fC (.str "form")) (fCons (fVar 1) fNil)))) sNext))
    (sRet (fC .non)))))
def G_start_of (c : Cl) : List D → S → R D := runF 2
  ((sRet (fOp dSub (fCall 3 (G_time_of c) (fCons (fVar 0) (fCons (fVar 1) (fCons (fTup (fCons (fC (.int 0)) fNil)) fNil)))) (fFld [c.Machine] "letter" (fVar 0)))))
def G_form_fault_rows (c : Cl) : List D → S → R D := runF 6
  ((sSeq (sIf (fOr (fNot (fTst (fCB (bIsiT c.cs) (fCons (fVar 0) (fCons (fTup (fCons (fC (.ty "list")) (fCons (fC (.ty "tuple")) fNil))) fNil))))) (fTst (fOp dGt (fCB bLen (fCons (fVar 0) fNil)) (fVar 2)))) (sRet (fTup (fCons (fC (.str "form")) (fCons (fNeg (fC (.int 1))) fNil)))) sNext)
    (sSeq (sFor (fEnu (fCons (fVar 0) fNil)) (gTp (gCn (gN 3) (gCn (gN 4) gNl))) (sSeq (sIf (fOr (fNot (fTst (fCB (bIsi c.cs) (fCons (fVar 4) (fCons (fC (.ty "tuple")) fNil))))) (fTst (fOp (dEqD true) (fCB bLen (fCons (fVar 4) fNil)) (fVar 1)))) (sRet (fTup (fCons (fC (.str "form")) (fCons (fVar 3) fNil)))) sNext)
    (sSeq (sFor (fSrc (fVar 4)) (gN 5) (sIf (fNot (fTst (fCall 1 (G_is_integer c) (fCons (fVar 5) fNil)))) (sRet (fTup (fCons (fC (.str "form")) (fCons (fVar 3) fNil)))) sNext))
    (sIf (fOr (fTst (fOp dLt (fOp dIx (fVar 4) (fNeg (fC (.int 1)))) (fC (.int 0)))) (fTst (fOp dGt (fOp dIx (fVar 4) (fNeg (fC (.int 1)))) (fC (.int 1000000000000000))))) (sRet (fTup (fCons (fC (.str "form")) (fCons (fVar 3) fNil)))) sNext))))
    (sRet (fC .non)))))
def G_checked_sources (c : Cl) : List D → S → R D := runF 4
  ((sSeq (sExpr (fCall 3 (G_checked_count c) (fCons (fVar 0) (fCons (fC (.int 2)) (fCons (fC (.int 40)) fNil)))))
    (sSeq (sIf (fOr (fNot (fTst (fCB (bIsiT c.cs) (fCons (fVar 1) (fCons (fTup (fCons (fC (.ty "list")) (fCons (fC (.ty "tuple")) fNil))) fNil))))) (fNot (fTst (fChain dLe dLe (fC (.int 1)) (fCB bLen (fCons (fVar 1) fNil)) (fC (.int 40)))))) (sRaise1 c.InvalidRows "at" (fCons (fNeg (fC (.int 1))) fNil)) sNext)
    (sSeq (sFor (fEnu (fCons (fVar 1) fNil)) (gTp (gCn (gN 2) (gCn (gN 3) gNl))) (sIf (fNot (fTst (fCall 3 (G_between c) (fCons (fVar 3) (fCons (fC (.int 0)) (fCons (fOp dSub (fVar 0) (fC (.int 1))) fNil)))))) (sRaise1 c.InvalidRows "at" (fCons (fVar 2) fNil)) sNext))
    (sRet (fCB bList (fCons (fVar 1) fNil)))))))
def G_number_fault (c : Cl) : List D → S → R D := runF 9
  ((sSeq (sFor (fEnu (fCons (fVar 2) fNil)) (gTp (gCn (gN 3) (gCn (gN 4) gNl))) (sIf (fNot (fTst (fChain dLe dLt (fC (.int 0)) (fOp dIx (fVar 4) (fC (.int 0))) (fVar 1)))) (sRet (fTup (fCons (fC (.str "letter")) (fCons (fVar 3) fNil)))) sNext))
    (sSeq (sFor (fEnu (fCons (fVar 2) fNil)) (gTp (gCn (gN 3) (gCn (gTp (gCn (gN 5) (gCn (gN 6) (gCn (gN 7) (gCn (gN 8) gNl))))) gNl))) (sIf (fOr (fNot (fTst (fChain dLe dLt (fC (.int 0)) (fVar 6) (fVar 0)))) (fOr (fNot (fTst (fChain dLe dLt (fC (.int 0)) (fVar 7) (fVar 0)))) (fTst (fOp (dEqD false) (fVar 6) (fVar 7))))) (sRet (fTup (fCons (fC (.str "hand")) (fCons (fVar 3) fNil)))) sNext))
    (sRet (fC .non)))))
def G_known_times (c : Cl) : List D → S → R D := runF 9
  ((sSeq (sAsg 3 fDict0)
    (sSeq (sFor (fEnu (fCons (fVar 1) fNil)) (gTp (gCn (gN 4) (gCn (gN 5) gNl))) (sPut dPut (fC (.int 0)) (fVar 3) (fTup (fCons (fVar 4) (fCons (fVar 5) fNil)))))
    (sSeq (sFor (fSrc (fVar 2)) (gTp (gCn (gN 4) (gCn (gN 6) (gCn (gN 7) (gCn (gN 8) gNl))))) (sPut dPut (fOp dAdd (fVar 8) (fFld [c.Machine] "letter" (fVar 0))) (fVar 3) (fTup (fCons (fVar 4) (fCons (fVar 7) fNil)))))
    (sRet (fVar 3))))))
def G_clashes (c : Cl) : List D → S → R D := runF 4
  ((sSeq (sFor (fSrc (fVar 2)) (gN 3) (sIf (fTst (fOp dLt (fCB bAbs (fCons (fOp dSub (fVar 1) (fVar 3)) fNil)) (fVar 0))) (sRet (fC (.bl true))) sNext))
    (sRet (fC (.bl false)))))
def G_spacing (c : Cl) : List D → S → R D := runF 3
  ((sSeq (sIf (fTst (fOp (dEqD false) (fVar 1) (fC (.int 2)))) (sRet (fFld [c.Machine] "gap" (fVar 0))) sNext)
    (sRet (fCB bMax (fCons (fOp dMul (fVar 2) (fFld [c.Machine] "gap" (fVar 0))) (fCons (fOp dAdd (fOp dMul (fOp dSub (fVar 2) (fC (.int 1))) (fFld [c.Machine] "gap" (fVar 0))) (fOp dMul (fC (.int 2)) (fFld [c.Machine] "o" (fVar 0)))) fNil))))))
def G_best_turns (c : Cl) : List D → S → R D := runF 8
  ((sSeq (sAsg 3 (fCallK 2 0 [.p 0, .p 1, .d 0, .d 1] [.non, .tup [.int 0]] (G_least_time c) (fCons (fVar 0) (fCons (fVar 1) fNil)) fNil))
    (sSeq (sAsg 4 (fC .non))
    (sSeq (sFor (fRng dRng2 (fCons (fC (.int 1)) (fCons (fVar 1) fNil))) (gN 5) (sSeq (sAsg 6 (fCallK 2 1 [.p 0, .p 1, .k 0, .d 0] [.tup [.int 0]] (G_least_time c) (fCons (fVar 0) (fCons (fVar 1) fNil)) (fCons (fVar 5) fNil)))
    (sSeq (sAsg 7 (fOp dAdd (fVar 6) (fOp dMul (fOp dSub (fVar 2) (fC (.int 1))) (fCall 3 (G_spacing c) (fCons (fVar 0) (fCons (fVar 1) (fCons (fVar 5) fNil)))))))
    (sSeq (sIf (fOr (fTst (fOp (dIs false) (fVar 4) (fC .non))) (fTst (fOp dLt (fVar 7) (fOp dIx (fVar 4) (fC (.int 0)))))) (sAsg 4 (fTup (fCons (fVar 7) (fCons (fVar 5) fNil)))) sNext)
    (sIf (fTst (fOp (dEqD false) (fVar 6) (fVar 3))) sBreak sNext)))))
    (sRet (fVar 4))))))
def G_bounds (c : Cl) : List D → S → R D := runF 3
  ((sSeq (sExpr (fCall 3 (G_checked_count c) (fCons (fVar 1) (fCons (fC (.int 2)) (fCons (fC (.int 40)) fNil)))))
    (sSeq (sExpr (fCall 3 (G_checked_count c) (fCons (fVar 2) (fCons (fC (.int 1)) (fCons (fC (.int 40)) fNil)))))
    (sRet (fTup (fCons (fOp dAdd (fCallK 2 0 [.p 0, .p 1, .d 0, .d 1] [.non, .tup [.int 0]] (G_least_time c) (fCons (fVar 0) (fCons (fVar 1) fNil)) fNil) (fOp dMul (fOp dSub (fVar 2) (fC (.int 1))) (fFld [c.Machine] "gap" (fVar 0)))) (fCons (fOp dIx (fCall 3 (G_best_turns c) (fCons (fVar 0) (fCons (fVar 1) (fCons (fVar 2) fNil)))) (fC (.int 0))) fNil)))))))
def G_is_clear (c : Cl) : List D → S → R D := runF 4
  ((sSeq (sFor (fRng dRng2 (fCons (fC (.int 1)) (fCons (fOp dSub (fVar 1) (fC (.int 1))) fNil))) (gN 3) (sIf (fTst (fChain dLt dLt (fFld [c.Machine] "l" (fVar 0)) (fOp dMul (fVar 3) (fVar 2)) (fFld [c.Machine] "letter" (fVar 0)))) (sRet (fC (.bl false))) sNext))
    (sRet (fC (.bl true)))))
def G_least_period (c : Cl) : List D → S → R D := pureF (runF 6
  ((sSeq (sExpr (fCall 3 (G_checked_count c) (fCons (fVar 1) (fCons (fC (.int 2)) (fCons (fC (.int 40)) fNil)))))
    (sSeq (sAsg 2 (fLstT (fCons (fFld [c.Machine] "gap" (fVar 0)) fNil)))
    (sSeq (sFor (fRng dRng2 (fCons (fC (.int 1)) (fCons (fOp dSub (fVar 1) (fC (.int 1))) fNil))) (gN 3) (sSeq (sAsg 4 (fOp dDiv (fOp dSub (fOp dAdd (fFld [c.Machine] "letter" (fVar 0)) (fVar 3)) (fC (.int 1))) (fVar 3)))
    (sIf (fTst (fOp dGt (fVar 4) (fFld [c.Machine] "gap" (fVar 0)))) (sExpr (fApp (fVar 2) (fCons (fVar 4) fNil))) sNext)))
    (sRet (fCB bMin1 (fCons (fLc (fSrc (fVar 2)) (gN 5) (fTst (fCall 3 (G_is_clear c) (fCons (fVar 0) (fCons (fVar 1) (fCons (fVar 5) fNil))))) (fVar 5) [5]) fNil))))))))
def G_round_plan (c : Cl) : List D → S → R D := pureF (runF 6
  ((sSeq (sExpr (fCall 3 (G_checked_count c) (fCons (fVar 1) (fCons (fC (.int 2)) (fCons (fC (.int 40)) fNil)))))
    (sSeq (sIf (fTst (fOp (dIs false) (fVar 2) (fC .non))) (sAsg 2 (fCall 2 (G_least_period c) (fCons (fVar 0) (fCons (fVar 1) fNil)))) sNext)
    (sSeq (sIf (fNot (fTst (fCall 3 (G_between c) (fCons (fVar 2) (fCons (fC (.int 1)) (fCons (fC (.int 10000000000)) fNil)))))) (sRaise0 c.InvalidTime) sNext)
    (sSeq (sAsg 3 (fLstT fNil))
    (sSeq (sFor (fRng dRng1 (fCons (fVar 1) fNil)) (gN 4) (sFor (fRng dRng1 (fCons (fOp dSub (fVar 1) (fC (.int 1))) fNil)) (gN 5) (sExpr (fApp (fVar 3) (fCons (fTup (fCons (fVar 4) (fCons (fVar 4) (fCons (fOp dMod (fOp dAdd (fOp dAdd (fVar 4) (fVar 5)) (fC (.int 1))) (fVar 1)) (fCons (fOp dMul (fVar 5) (fVar 2)) fNil))))) fNil)))))
    (sRet (fVar 3)))))))))
def G_everybody (c : Cl) : List D → S → R D := runF 3
  ((sSeq (sExpr (fCall 3 (G_checked_count c) (fCons (fVar 1) (fCons (fC (.int 2)) (fCons (fC (.int 40)) fNil)))))
    (sSeq (sAsg 2 (fCB bMax (fCons (fOp dAdd (fFld [c.Machine] "letter" (fVar 0)) (fOp dMul (fOp dSub (fVar 1) (fC (.int 2))) (fFld [c.Machine] "gap" (fVar 0)))) (fCons (fOp dMul (fOp dMul (fC (.int 2)) (fFld [c.Machine] "o" (fVar 0))) (fOp dSub (fVar 1) (fC (.int 1)))) fNil))))
    (sRet (fTup (fCons (fVar 2) (fCons (fOp dAdd (fFld [c.Machine] "letter" (fVar 0)) (fOp dMul (fOp dSub (fVar 1) (fC (.int 2))) (fCall 2 (G_least_period c) (fCons (fVar 0) (fCons (fVar 1) fNil))))) fNil)))))))
def G_names_of_pair (c : Cl) : List D → S → R D := runF 4
  ((sSeq (sIf (fTst (fOp (dEqD false) (fVar 0) (fC (.int 0)))) (sRet (fCB bInt (fCons (fOp (dEqD false) (fVar 1) (fC (.int 0))) fNil))) sNext)
    (sSeq (sAsg 2 (fC (.int 1)))
    (sSeq (sFor (fRng dRng2 (fCons (fC (.int 1)) (fCons (fOp dAdd (fVar 1) (fC (.int 1))) fNil))) (gN 3) (sAsg 2 (fOp dDiv (fOp dMul (fVar 2) (fOp dAdd (fOp dSub (fVar 0) (fC (.int 1))) (fVar 3))) (fVar 3))))
    (sRet (fVar 2))))))
def G_pair_at (c : Cl) : List D → S → R D := runF 9
  ((sSeq (sAsg 3 (fLc (fRng dRng1 (fCons (fVar 0) fNil)) (gN 7) fYes (fC (.int 0)) [7]))
    (sSeq (sAsg 4 (fVar 0))
    (sSeq (sAsg 5 (fTup (fCons (fC (.int 0)) (fCons (fC (.int 0)) fNil))))
    (sSeq (sWhile 100000 (fTst (fOp dGt (fVar 4) (fC (.int 0)))) (sSeq (sAsg 6 (fC .non))
    (sSeq (sFor (fRng dRng1 (fCons (fVar 0) fNil)) (gN 7) (sIf (fOr (fTst (fOp dGt (fVar 7) (fC (.int 0)))) (fTst (fOp (dEqD false) (fOp dIx (fVar 3) (fC (.int 0))) (fC (.int 0))))) (sSeq (sAsg 8 (fOp dAdd (fOp dMul (fVar 7) (fVar 1)) (fOp dMul (fOp dIx (fVar 3) (fVar 7)) (fVar 2))))
    (sIf (fOr (fTst (fOp (dIs false) (fVar 6) (fC .non))) (fTst (fOp dLt (fVar 8) (fVar 6)))) (sSeq (sAsg 6 (fVar 8))
    (sAsg 5 (fTup (fCons (fVar 7) (fCons (fOp dIx (fVar 3) (fVar 7)) fNil))))) sNext)) sNext))
    (sSeq (sAug dSub 4 (fCall 2 (G_names_of_pair c) (fCons (fOp dIx (fVar 5) (fC (.int 0))) (fCons (fOp dIx (fVar 5) (fC (.int 1))) fNil))))
    (sAugS dIxL dAddI dPut (fVar 3) (fOp dIx (fVar 5) (fC (.int 0))) (fC (.int 1)))))))
    (sRet (fVar 5)))))))
def G_between_ratios (c : Cl) : List D → S → R D := runF 2
  ((sSeq (sIf (fTst (fOp (dIs false) (fVar 1) (fC .non))) (sRet (fTup (fCons (fOp dAdd (fOp dIx (fVar 0) (fC (.int 0))) (fOp dIx (fVar 0) (fC (.int 1)))) (fCons (fOp dIx (fVar 0) (fC (.int 1))) fNil)))) sNext)
    (sRet (fTup (fCons (fOp dAdd (fOp dIx (fVar 0) (fC (.int 0))) (fOp dIx (fVar 1) (fC (.int 0)))) (fCons (fOp dAdd (fOp dIx (fVar 0) (fC (.int 1))) (fOp dIx (fVar 1) (fC (.int 1)))) fNil))))))
def G_checked_sightings (c : Cl) : List D → S → R D := runF 3
  ((sSeq (sIf (fOr (fNot (fTst (fCB (bIsiT c.cs) (fCons (fVar 0) (fCons (fTup (fCons (fC (.ty "list")) (fCons (fC (.ty "tuple")) fNil))) fNil))))) (fTst (fOp dGt (fCB bLen (fCons (fVar 0) fNil)) (fC (.int 60))))) (sRaise1 c.InvalidRows "at" (fCons (fNeg (fC (.int 1))) fNil)) sNext)
    (sSeq (sFor (fEnu (fCons (fVar 0) fNil)) (gTp (gCn (gN 1) (gCn (gN 2) gNl))) (sSeq (sIf (fOr (fNot (fTst (fCB (bIsi c.cs) (fCons (fVar 2) (fCons (fC (.ty "tuple")) fNil))))) (fTst (fOp (dEqD true) (fCB bLen (fCons (fVar 2) fNil)) (fC (.int 2))))) (sRaise1 c.InvalidRows "at" (fCons (fVar 1) fNil)) sNext)
    (sIf (fOr (fNot (fTst (fCallK 1 0 [.p 0, .d 0, .d 1] [.non, .tup [.int 0]] (G_is_name c) (fCons (fOp dIx (fVar 2) (fC (.int 0))) fNil) fNil))) (fNot (fTst (fCall 3 (G_between c) (fCons (fOp dIx (fVar 2) (fC (.int 1))) (fCons (fC (.int 0)) (fCons (fC (.int 100000000000000000000)) fNil))))))) (sRaise1 c.InvalidRows "at" (fCons (fVar 1) fNil)) sNext)))
    (sRet (fCB bList (fCons (fVar 0) fNil))))))
def G_equations (c : Cl) : List D → S → R D := runF 3
  ((sRet (fLc (fSrc (fVar 0)) (gTp (gCn (gN 1) (gCn (gN 2) gNl))) fYes (fTup (fCons (fOp dSub (fCB bLen (fCons (fVar 1) fNil)) (fC (.int 1))) (fCons (fCB bSum (fCons (fCB bList (fCons (fSl (fVar 1) (fPt (fC (.int 1))) fNo) fNil)) fNil)) (fCons (fVar 2) fNil)))) [1, 2])))
def G_is_solution (c : Cl) : List D → S → R D := runF 6
  ((sSeq (sFor (fSrc (fVar 0)) (gTp (gCn (gN 3) (gCn (gN 4) (gCn (gN 5) gNl)))) (sIf (fTst (fOp (dEqD true) (fOp dAdd (fOp dMul (fVar 3) (fVar 1)) (fOp dMul (fVar 4) (fVar 2))) (fVar 5))) (sRet (fC (.bl false))) sNext))
    (sRet (fC (.bl true)))))
def G_explains (c : Cl) : List D → S → R D := runF 4
  ((sSeq (sAsg 3 (fCall 1 (G_equations c) (fCons (fCall 1 (G_checked_sightings c) (fCons (fVar 0) fNil)) fNil)))
    (sSeq (sIf (fNot (fTst (fCall 3 (G_between c) (fCons (fVar 1) (fCons (fC (.int 1)) (fCons (fC (.int 100000000000000000000)) fNil)))))) (sRaise1 c.InvalidMachine "part" (fCons (fC (.str "letter")) fNil)) sNext)
    (sSeq (sIf (fNot (fTst (fCall 3 (G_between c) (fCons (fVar 2) (fCons (fC (.int 1)) (fCons (fC (.int 100000000000000000000)) fNil)))))) (sRaise1 c.InvalidMachine "part" (fCons (fC (.str "gap")) fNil)) sNext)
    (sRet (fCall 3 (G_is_solution c) (fCons (fVar 3) (fCons (fVar 1) (fCons (fVar 2) fNil)))))))))
def G_plan_fault_texts (c : Cl) : List D → S → R D := runF 7
  ((sSeq (sAsg 2 (fCall 3 (G_form_fault_rows c) (fCons (fVar 1) (fCons (fC (.int 3)) (fCons (fC (.int 400)) fNil)))))
    (sSeq (sIf (fTst (fOp (dIs true) (fVar 2) (fC .non))) (sRet (fVar 2)) sNext)
    (sSeq (sFor (fEnu (fCons (fVar 1) fNil)) (gTp (gCn (gN 3) (gCn (gTp (gCn (gN 4) (gCn (gN 5) (gCn (gN 6) gNl)))) gNl))) (sIf (fOr (fNot (fTst (fChain dLe dLt (fC (.int 0)) (fVar 4) (fVar 0)))) (fOr (fNot (fTst (fChain dLt dLt (fC (.int 0)) (fVar 5) (fVar 0)))) (fTst (fOp (dEqD false) (fVar 4) (fVar 5))))) (sRet (fTup (fCons (fC (.str "hand")) (fCons (fVar 3) fNil)))) sNext))
    (sRet (fC .non))))))
def G_letters_plan_fault (c : Cl) : List D → S → R D := runF 4
  ((sSeq (sAsg 3 (fCall 3 (G_form_fault_rows c) (fCons (fVar 2) (fCons (fC (.int 4)) (fCons (fC (.int 2000)) fNil)))))
    (sSeq (sIf (fTst (fOp (dIs false) (fVar 3) (fC .non))) (sAsg 3 (fCall 3 (G_number_fault c) (fCons (fVar 0) (fCons (fVar 1) (fCons (fVar 2) fNil))))) sNext)
    (sRet (fVar 3)))))
def G_Reader___init__ (c : Cl) : List D → S → R D := runF 1
  ((sSeq (sFldT [c.Reader] "machine" (fVar 0) (fC .non))
    (sSeq (sFldT [c.Reader] "n" (fVar 0) (fC (.int 0)))
    (sSeq (sFldT [c.Reader] "sources" (fVar 0) (fLst fNil))
    (sFldT [c.Reader] "told" (fVar 0) (fLst fNil))))))
def G_Reader_read_source (c : Cl) : List D → S → R D := runF 2
  ((sSeq (sIf (fOr (fTst (fOp dGt (fCB bLen (fCons (fFld [c.Reader] "told" (fVar 0)) fNil)) (fC (.int 0)))) (fOr (fNot (fTst (fChain dLe dLe (fC (.int 2)) (fFld [c.Reader] "n" (fVar 0)) (fC (.int 40))))) (fTst (fOp (dEqD false) (fCB bLen (fCons (fFld [c.Reader] "sources" (fVar 0)) fNil)) (fC (.int 40)))))) (sRet (fC (.bl false))) sNext)
    (sSeq (sExpr (fApp (fFld [c.Reader] "sources" (fVar 0)) (fCons (fOp dIx (fVar 1) (fC (.int 0))) fNil)))
    (sRet (fOp dLt (fOp dIx (fVar 1) (fC (.int 0))) (fFld [c.Reader] "n" (fVar 0)))))))
def G__wall (c : Cl) : List D → S → R D := runF 1
  ((sWhile 100000 (fTst (fC (.bl true))) sNext))
def G_Desk___init__ (c : Cl) : List D → S → R D := runF 3
  ((sSeq (sExpr (fCall 3 (G_checked_count c) (fCons (fVar 2) (fCons (fC (.int 1)) (fCons (fC (.int 100)) fNil)))))
    (sSeq (sFldT [c.Desk] "now" (fVar 0) (fTup (fCons (fVar 1) (fCons (fVar 2) (fCons fDict0 fNil)))))
    (sSeq (sFldT [c.Desk] "past" (fVar 0) (fLst fNil))
    (sFldT [c.Desk] "future" (fVar 0) (fLst fNil))))))
def G_Desk_machine (c : Cl) : List D → S → R D := runF 1
  ((sRet (fOp dIx (fFld [c.Desk] "now" (fVar 0)) (fC (.int 0)))))
def G_Desk_hands (c : Cl) : List D → S → R D := runF 1
  ((sRet (fOp dIx (fFld [c.Desk] "now" (fVar 0)) (fC (.int 1)))))
def G_Desk___len__ (c : Cl) : List D → S → R D := runF 1
  ((sRet (fCB bLen (fCons (fOp dIx (fFld [c.Desk] "now" (fVar 0)) (fC (.int 2))) fNil))))
def G_Desk_plan (c : Cl) : List D → S → R D := runF 3
  ((sSeq (sAsg 1 (fOp dIx (fFld [c.Desk] "now" (fVar 0)) (fC (.int 2))))
    (sRet (fLc (fSrc (fCB bSorted (fCons (fCB bList (fCons (fVar 1) fNil)) fNil))) (gN 2) fYes (fTup (fCons (fOp dIx (fOp dIx (fVar 1) (fVar 2)) (fC (.int 0))) (fCons (fVar 2) (fCons (fOp dIx (fOp dIx (fVar 1) (fVar 2)) (fC (.int 1))) fNil)))) [2]))))
def G_Desk_ends (c : Cl) : List D → S → R D := runF 1
  ((sExpr (fCall 1 (G__wall c) (fCons (fC (.int 0)) fNil))))
def G_Desk_late (c : Cl) : List D → S → R D := runF 1
  ((sExpr (fCall 1 (G__wall c) (fCons (fC (.int 0)) fNil))))
def G_Desk_fill (c : Cl) : List D → S → R D := runF 2
  ((sExpr (fCall 1 (G__wall c) (fCons (fC (.int 2)) fNil))))
def G_Desk_tighten (c : Cl) : List D → S → R D := runF 1
  ((sExpr (fCall 1 (G__wall c) (fCons (fC (.int 3)) fNil))))
def G_Desk_undo (c : Cl) : List D → S → R D := runF 1
  ((sExpr (fCall 1 (G__wall c) (fCons (fC (.int 4)) fNil))))
def G_Desk_redo (c : Cl) : List D → S → R D := runF 1
  ((sExpr (fCall 1 (G__wall c) (fCons (fC (.int 5)) fNil))))
def G_Desk_twin (c : Cl) : List D → S → R D := runF 1
  ((sExpr (fCall 1 (G__wall c) (fCons (fC (.int 0)) fNil))))
def G_Desk_set_up (c : Cl) : List D → S → R D := runF 2
  ((sExpr (fCall 1 (G__wall c) (fCons (fC (.int 7)) fNil))))
def G_Desk_shift (c : Cl) : List D → S → R D := runF 3
  ((sSeq (sAsg 2 (fVar 0))
    (sIf (fTst (fOp (dEqD false) (fOp dIx (fVar 1) (fC (.int 0))) (fC (.str "later")))) (sAug dAddI 2 (fOp dIx (fVar 1) (fC (.int 1)))) (sAug dSub 2 (fOp dIx (fVar 1) (fC (.int 1)))))))
def G_Desk_step (c : Cl) : List D → S → R D := runF 2
  ((sExpr (fCall 1 (G__wall c) (fCons (fC (.int 9)) fNil))))
def G_Desk_attempt (c : Cl) : List D → S → R D := runF 2
  ((sExpr (fCall 1 (G__wall c) (fCons (fC (.int 10)) fNil))))
def G_Desk_trial (c : Cl) : List D → S → R D := runF 2
  ((sExpr (fCall 1 (G__wall c) (fCons (fC (.int 1)) fNil))))
def G_Desk_holding (c : Cl) : List D → S → R D := runF 4
  ((sExpr (fCall 1 (G__wall c) (fCons (fC (.int 0)) fNil))))
def G_checked_end (c : Cl) : List D → S → R D := runF 1
  ((sSeq (sIf (fNot (fTst (fCall 3 (G_between c) (fCons (fVar 0) (fCons (fC (.int 0)) (fCons (fC (.int 1000000000000)) fNil)))))) (sRaise0 c.InvalidTime) sNext)
    (sRet (fVar 0))))
def G_first_hands (c : Cl) : List D → S → R D := pureF (runF 8
  ((sSeq (sAsg 2 (fOp dAdd (fFld [c.Machine] "letter" (fVar 0)) (fC (.int 1))))
    (sSeq (sAsg 3 (fCB bMax (fCons (fFld [c.Machine] "g" (fVar 0)) (fCons (fOp dAdd (fFld [c.Machine] "o" (fVar 0)) (fC (.int 1))) fNil))))
    (sSeq (sAsg 4 (fLstT (fCons (fTup (fCons (fC (.int 0)) (fCons (fC (.int 0)) fNil))) fNil)))
    (sSeq (sAsg 5 (fLstT (fCons (fVar 2) fNil)))
    (sSeq (sWhile 100000 (fTst (fOp dLt (fCB bLen (fCons (fVar 4) fNil)) (fVar 1))) (sSeq (sAsg 6 (fCB bMin1 (fCons (fVar 5) fNil)))
    (sSeq (sAsg 7 (fMth mIndex (fVar 5) (fCons (fVar 6) fNil)))
    (sSeq (sPut dPut (fOp dAdd (fVar 6) (fVar 3)) (fVar 5) (fVar 7))
    (sSeq (sExpr (fApp (fVar 4) (fCons (fTup (fCons (fVar 6) (fCons (fVar 7) fNil))) fNil)))
    (sExpr (fApp (fVar 5) (fCons (fOp dAdd (fVar 6) (fVar 2)) fNil))))))))
    (sRet (fVar 4)))))))))
def G_greatest (c : Cl) : List D → S → R D := runF 5
  ((sRet (fOp dAdd (fOp dAdd (fVar 2) (fC (.int 1))) (fCB bSum (fCons (fLc (fSrc (fSl (fCall 2 (G_first_hands c) (fCons (fVar 0) (fCons (fVar 1) fNil))) (fPt (fC (.int 1))) fNo)) (gTp (gCn (gN 3) (gCn (gN 4) gNl))) fYes (fCB bMax (fCons (fC (.int 0)) (fCons (fOp dSub (fOp dSub (fVar 2) (fVar 3)) (fFld [c.Machine] "o" (fVar 0))) fNil))) [3, 4]) fNil)))))
def G_most_summed (c : Cl) : List D → S → R D := runF 3
  ((sSeq (sExpr (fCall 3 (G_checked_count c) (fCons (fVar 1) (fCons (fC (.int 1)) (fCons (fC (.int 40)) fNil)))))
    (sSeq (sExpr (fCall 1 (G_checked_end c) (fCons (fVar 2) fNil)))
    (sRet (fCall 3 (G_greatest c) (fCons (fVar 0) (fCons (fVar 1) (fCons (fVar 2) fNil))))))))
def G_sum_plan (c : Cl) : List D → S → R D := runF 8
  ((sSeq (sExpr (fCall 3 (G_checked_count c) (fCons (fVar 1) (fCons (fC (.int 1)) (fCons (fC (.int 40)) fNil)))))
    (sSeq (sExpr (fCall 1 (G_checked_end c) (fCons (fVar 2) fNil)))
    (sSeq (sAsg 3 (fLst fNil))
    (sSeq (sAsg 4 (fOp dMul (fLst (fCons (fC (.int 0)) fNil)) (fVar 1)))
    (sSeq (sPut dPut (fOp dAdd (fVar 2) (fC (.int 1))) (fVar 4) (fC (.int 0)))
    (sSeq (sFor (fEnu (fCons (fCall 2 (G_first_hands c) (fCons (fVar 0) (fCons (fVar 1) fNil))) fNil)) (gTp (gCn (gN 5) (gCn (gTp (gCn (gN 6) (gCn (gN 7) gNl))) gNl))) (sIf (fAnd (fTst (fOp dGt (fVar 5) (fC (.int 0)))) (fTst (fOp dGt (fOp dSub (fVar 2) (fVar 6)) (fFld [c.Machine] "o" (fVar 0))))) (sSeq (sExpr (fApp (fVar 3) (fCons (fTup (fCons (fVar 5) (fCons (fVar 7) (fCons (fOp dSub (fVar 2) (fVar 6)) fNil)))) fNil)))
    (sSeq (sPut dPut (fOp dAdd (fOp dSub (fVar 2) (fVar 6)) (fC (.int 1))) (fVar 4) (fVar 5))
    (sAugS dIxL dSub dPut (fVar 4) (fVar 7) (fOp dAdd (fFld [c.Machine] "o" (fVar 0)) (fC (.int 1)))))) sNext))
    (sRet (fTup (fCons (fVar 3) (fCons (fVar 4) fNil)))))))))))
def G_own_fault (c : Cl) : List D → S → R D := runF 4
  ((sSeq (sIf (fOr (fNot (fTst (fCB (bIsiT c.cs) (fCons (fVar 1) (fCons (fTup (fCons (fC (.ty "list")) (fCons (fC (.ty "tuple")) fNil))) fNil))))) (fTst (fOp (dEqD true) (fCB bLen (fCons (fVar 1) fNil)) (fVar 0)))) (sRet (fTup (fCons (fC (.str "own")) (fCons (fNeg (fC (.int 1))) fNil)))) sNext)
    (sSeq (sFor (fEnu (fCons (fVar 1) fNil)) (gTp (gCn (gN 2) (gCn (gN 3) gNl))) (sIf (fNot (fTst (fCall 3 (G_between c) (fCons (fVar 3) (fCons (fCB bInt (fCons (fOp (dEqD false) (fVar 2) (fC (.int 0))) fNil)) (fCons (fC (.int 1000000000000000)) fNil)))))) (sRet (fTup (fCons (fC (.str "own")) (fCons (fVar 2) fNil)))) sNext))
    (sRet (fC .non)))))
def G_received_at (c : Cl) : List D → S → R D := runF 4
  ((sRet (fLc (fSrc (fVar 1)) (gN 3) (fTst (fOp (dEqD false) (fOp dIx (fVar 3) (fC (.int 1))) (fVar 2))) (fOp dAdd (fOp dIx (fVar 3) (fC (.int 2))) (fFld [c.Machine] "letter" (fVar 0))) [3])))
def G_least_sum_time (c : Cl) : List D → S → R D := runF 6
  ((sSeq (sExpr (fCall 3 (G_checked_count c) (fCons (fVar 1) (fCons (fC (.int 1)) (fCons (fC (.int 40)) fNil)))))
    (sSeq (sExpr (fCall 3 (G_checked_count c) (fCons (fVar 2) (fCons (fC (.int 1)) (fCons (fC (.int 1000000000000)) fNil)))))
    (sSeq (sAsg 3 (fC (.int 0)))
    (sSeq (sAsg 4 (fOp dSub (fVar 2) (fC (.int 1))))
    (sSeq (sWhile 100000 (fTst (fOp dLt (fVar 3) (fVar 4))) (sSeq (sAsg 5 (fOp dDiv (fOp dAdd (fVar 3) (fVar 4)) (fC (.int 2))))
    (sIf (fTst (fOp dGe (fCall 3 (G_greatest c) (fCons (fVar 0) (fCons (fVar 1) (fCons (fVar 5) fNil)))) (fVar 2))) (sAsg 4 (fVar 5)) (sAsg 3 (fOp dAdd (fVar 5) (fC (.int 1)))))))
    (sRet (fVar 3))))))))
def G_least_summers (c : Cl) : List D → S → R D := runF 4
  ((sSeq (sExpr (fCall 1 (G_checked_end c) (fCons (fVar 1) fNil)))
    (sSeq (sExpr (fCall 3 (G_checked_count c) (fCons (fVar 2) (fCons (fC (.int 1)) (fCons (fC (.int 1000000000000)) fNil)))))
    (sSeq (sFor (fRng dRng2 (fCons (fC (.int 1)) (fCons (fOp dAdd (fC (.int 40)) (fC (.int 1))) fNil))) (gN 3) (sIf (fTst (fOp dGe (fCall 3 (G_greatest c) (fCons (fVar 0) (fCons (fVar 3) (fCons (fVar 1) fNil)))) (fVar 2))) (sRet (fVar 3)) sNext))
    (sRet (fC .non))))))
def G_slower (c : Cl) : List D → S → R D := runF 1
  ((sRet (fCall 2 (fun ds s => G_Machine_of c (.gl c.Machine :: ds) s) (fCons (fOp dAdd (fFld [c.Machine] "letter" (fVar 0)) (fC (.int 1))) (fCons (fCB bMax (fCons (fFld [c.Machine] "g" (fVar 0)) (fCons (fOp dAdd (fFld [c.Machine] "o" (fVar 0)) (fC (.int 1))) fNil))) fNil)))))
end Pg

namespace Lw
open PySem L2 SI Pg
def OkC (c : Cl) : Prop := c.cs = [c.Machine]
def G__law_source (c : Cl) : List D → S → R D := runF 2
  ((sRet (fLstT (fCons (fLc (fSrc (fSl (fVar 0) fNo (fPt (fC (.int 63))))) (gN 1) fYes (fCB bInt (fCons (fVar 1) fNil)) [1]) (fCons (fC (.int 0)) (fCons (fC (.int 0)) (fCons (fC (.int 0)) (fCons (fC (.int 7)) fNil))))))))
def G__law_draw (c : Cl) : List D → S → R D := runF 7
  ((sSeq (sAugS dIxL dAddI dPut (fVar 0) (fC (.int 3)) (fC (.int 1)))
    (sSeq (sIf (fAnd (fTst (fOp (dEqD false) (fOp dIx (fVar 0) (fC (.int 2))) (fC (.int 0)))) (fTst (fOp dLt (fOp dIx (fVar 0) (fC (.int 1))) (fCB bLen (fCons (fOp dIx (fVar 0) (fC (.int 0))) fNil))))) (sSeq (sAsg 2 (fOp dIx (fOp dIx (fVar 0) (fC (.int 0))) (fOp dIx (fVar 0) (fC (.int 1)))))
    (sSeq (sAugS dIxL dAddI dPut (fVar 0) (fC (.int 1)) (fC (.int 1)))
    (sIf (fTst (fOp dGe (fVar 2) (fOp dPow (fC (.int 10)) (fC (.int 18))))) (sPut dPut (fVar 2) (fVar 0) (fC (.int 2))) (sPut dPut (fOp dMod (fCB bInt (fCons (fOp dAdd (fOp dAdd (fOp dMul (fOp dIx (fVar 0) (fC (.int 4))) (fC (.int 48271))) (fOp dMul (fVar 2) (fC (.int 2)))) (fC (.int 11))) fNil)) (fC (.int 2147483629))) (fVar 0) (fC (.int 4)))))) sNext)
    (sSeq (sIf (fTst (fOp dGt (fOp dIx (fVar 0) (fC (.int 2))) (fC (.int 0)))) (sSeq (sAsg 3 (fOp dMod (fCB bInt (fCons (fOp dIx (fVar 0) (fC (.int 2))) fNil)) (fVar 1)))
    (sSeq (sPut dPut (fOp dDiv (fOp dIx (fVar 0) (fC (.int 2))) (fVar 1)) (fVar 0) (fC (.int 2)))
    (sRet (fVar 3)))) sNext)
    (sSeq (sAsg 4 (fOp dMod (fCB bInt (fCons (fOp dMul (fOp dAdd (fOp dAdd (fOp dIx (fVar 0) (fC (.int 4))) (fOp dMul (fC (.int 6151)) (fOp dIx (fVar 0) (fC (.int 3))))) (fC (.int 1))) (fC (.int 69621))) fNil)) (fC (.int 2147483647))))
    (sSeq (sAsg 5 (fOp dMod (fCB bInt (fCons (fOp dMul (fVar 4) (fOp dAdd (fOp dDiv (fVar 4) (fC (.int 1013))) (fC (.int 48271)))) fNil)) (fC (.int 2147483647))))
    (sSeq (sAsg 6 (fOp dMod (fCB bInt (fCons (fOp dMul (fVar 5) (fOp dAdd (fOp dDiv (fVar 5) (fC (.int 2011))) (fC (.int 40692)))) fNil)) (fC (.int 2147483399))))
    (sRet (fOp dMod (fCB bInt (fCons (fOp dDiv (fVar 6) (fC (.int 8))) fNil)) (fVar 1))))))))))
def G__law_wide (c : Cl) : List D → S → R D := runF 5
  ((sSeq (sIf (fTst (fOp dLe (fVar 1) (fC (.int 1000000)))) (sRet (fCall 2 (G__law_draw c) (fCons (fVar 0) (fCons (fVar 1) fNil)))) sNext)
    (sSeq (sAsg 2 (fCall 2 (G__law_draw c) (fCons (fVar 0) (fCons (fC (.int 1000000)) fNil))))
    (sSeq (sAsg 3 (fCall 2 (G__law_draw c) (fCons (fVar 0) (fCons (fC (.int 1000000)) fNil))))
    (sSeq (sAsg 4 (fCall 2 (G__law_draw c) (fCons (fVar 0) (fCons (fC (.int 1000000)) fNil))))
    (sRet (fOp dMod (fCB bInt (fCons (fOp dAdd (fOp dMul (fOp dAdd (fOp dMul (fVar 2) (fC (.int 1000000))) (fVar 3)) (fC (.int 1000000))) (fVar 4)) fNil)) (fVar 1))))))))
def G__law_numbers (c : Cl) : List D → S → R D := runF 6
  ((sSeq (sAsg 1 (fOp dIx (fLst (fCons (fC (.int 4)) (fCons (fC (.int 6)) (fCons (fC (.int 13)) (fCons (fC (.int 41)) (fCons (fOp dAdd (fOp dPow (fC (.int 10)) (fC (.int 9))) (fC (.int 1))) fNil)))))) (fCall 2 (G__law_draw c) (fCons (fVar 0) (fCons (fC (.int 5)) fNil)))))
    (sSeq (sAsg 2 (fCall 2 (G__law_draw c) (fCons (fVar 0) (fCons (fC (.int 6)) fNil))))
    (sSeq (sAsg 3 (fCall 2 (G__law_wide c) (fCons (fVar 0) (fCons (fVar 1) fNil))))
    (sSeq (sAsg 4 (fCall 2 (G__law_wide c) (fCons (fVar 0) (fCons (fVar 1) fNil))))
    (sSeq (sAsg 5 (fOp dAdd (fC (.int 1)) (fCall 2 (G__law_wide c) (fCons (fVar 0) (fCons (fOp dSub (fVar 1) (fC (.int 1))) fNil)))))
    (sSeq (sIf (fTst (fOp (dEqD false) (fVar 2) (fC (.int 0)))) (sAsg 3 (fC (.int 0))) sNext)
    (sSeq (sIf (fTst (fOp (dEqD false) (fVar 2) (fC (.int 1)))) (sAsg 4 (fC (.int 0))) sNext)
    (sSeq (sIf (fAnd (fTst (fOp (dEqD false) (fVar 2) (fC (.int 2)))) (fTst (fOp dGt (fVar 1) (fC (.int 1000))))) (sAsg 5 (fOp dAdd (fC (.int 1)) (fOp dMod (fCB bInt (fCons (fVar 5) fNil)) (fC (.int 9))))) sNext)
    (sSeq (sIf (fTst (fOp (dEqD false) (fOp dAdd (fOp dMul (fC (.int 2)) (fVar 3)) (fVar 4)) (fC (.int 0)))) (sAsg 4 (fC (.int 1))) sNext)
    (sRet (fTup (fCons (fVar 3) (fCons (fVar 4) (fCons (fVar 5) fNil)))))))))))))))
def G__law_integer (c : Cl) : List D → S → R D := runF 1
  ((sRet (fAndV (fCB (bIsi c.cs) (fCons (fVar 0) (fCons (fC (.ty "int")) fNil))) (fNotV (fCB (bIsi c.cs) (fCons (fVar 0) (fCons (fC (.ty "bool")) fNil)))))))
def G__law_clear (c : Cl) : List D → S → R D := runF 7
  ((sSeq (sAsgG (gTp (gCn (gN 3) (gCn (gN 4) (gCn (gN 5) gNl)))) (fVar 2))
    (sSeq (sFor (fRng dRng2 (fCons (fC (.int 1)) (fCons (fOp dSub (fVar 0) (fC (.int 1))) fNil))) (gN 6) (sIf (fAnd (fTst (fOp dLt (fVar 4) (fOp dMul (fVar 6) (fVar 1)))) (fTst (fOp dLt (fOp dMul (fVar 6) (fVar 1)) (fOp dAdd (fOp dMul (fC (.int 2)) (fVar 3)) (fVar 4))))) (sRet (fC (.bl false))) sNext))
    (sRet (fC (.bl true))))))
def G__law_reach (c : Cl) : List D → S → R D := runF 8
  ((sSeq (sAsgG (gTp (gCn (gN 3) (gCn (gN 4) (gCn (gN 5) gNl)))) (fVar 2))
    (sSeq (sAsg 6 (fVar 1))
    (sSeq (sFor (fRng dRng2 (fCons (fC (.int 1)) (fCons (fOp dSub (fVar 0) (fC (.int 1))) fNil))) (gN 7) (sIf (fAnd (fTst (fOp dLt (fVar 4) (fOp dMul (fVar 7) (fVar 1)))) (fTst (fOp dLt (fOp dMul (fVar 7) (fVar 1)) (fOp dAdd (fOp dMul (fC (.int 2)) (fVar 3)) (fVar 4))))) (sAsg 6 (fCB bMax (fCons (fVar 6) (fCons (fOp dAdd (fOp dDiv (fOp dSub (fOp dAdd (fOp dMul (fC (.int 2)) (fVar 3)) (fVar 4)) (fC (.int 1))) (fVar 7)) (fC (.int 1))) fNil)))) sNext))
    (sRet (fVar 6))))))
def G__law_steep (c : Cl) : List D → S → R D := runF 6
  ((sSeq (sAsgG (gTp (gCn (gN 2) (gCn (gN 3) (gCn (gN 4) gNl)))) (fVar 1))
    (sSeq (sAsg 5 (fCall 2 (G__law_draw c) (fCons (fVar 0) (fCons (fC (.int 6)) fNil))))
    (sSeq (sIf (fTst (fOp (dEqD false) (fVar 5) (fC (.int 0)))) (sRet (fTup (fCons (fOp dAdd (fC (.int 1)) (fVar 2)) (fCons (fOp dMod (fCB bInt (fCons (fVar 3) fNil)) (fOp dAdd (fC (.int 1)) (fVar 2))) (fCons (fOp dAdd (fC (.int 1)) (fOp dMod (fCB bInt (fCons (fVar 4) fNil)) (fC (.int 5)))) fNil))))) sNext)
    (sSeq (sIf (fTst (fOp (dEqD false) (fVar 5) (fC (.int 1)))) (sRet (fTup (fCons (fOp dDiv (fVar 2) (fC (.int 7))) (fCons (fVar 3) (fCons (fOp dAdd (fC (.int 1)) (fOp dMod (fCB bInt (fCons (fVar 4) fNil)) (fC (.int 7)))) fNil))))) sNext)
    (sSeq (sIf (fAnd (fTst (fOp (dEqD false) (fVar 5) (fC (.int 2)))) (fTst (fOp dLt (fOp dAdd (fVar 3) (fOp dMul (fC (.int 40)) (fVar 4))) (fOp dPow (fC (.int 10)) (fC (.int 9)))))) (sRet (fTup (fCons (fVar 2) (fCons (fOp dAdd (fVar 3) (fOp dMul (fC (.int 39)) (fVar 4))) (fCons (fVar 4) fNil))))) sNext)
    (sSeq (sIf (fTst (fOp dGt (fOp dAdd (fOp dMul (fC (.int 2)) (fVar 2)) (fVar 3)) (fC (.int 0)))) (sRet (fVar 1)) sNext)
    (sRet (fTup (fCons (fVar 2) (fCons (fC (.int 1)) (fCons (fVar 4) fNil))))))))))))
def G_law (c : Cl) : List D → S → R D := runF 13
  ((sSeq (sAsg 1 (fCall 1 (G__law_source c) (fCons (fVar 0) fNil)))
    (sSeq (sAsgG (gTp (gCn (gN 2) (gCn (gN 3) (gCn (gN 4) gNl)))) (fCall 2 (G__law_steep c) (fCons (fVar 1) (fCons (fCall 1 (G__law_numbers c) (fCons (fVar 1) fNil)) fNil))))
    (sSeq (sAsg 2 (fCB bMin (fCons (fVar 2) (fCons (fOp dPow (fC (.int 10)) (fC (.int 9))) fNil))))
    (sSeq (sIf (fTst (fOp (dEqD false) (fOp dAdd (fOp dMul (fC (.int 2)) (fVar 2)) (fVar 3)) (fC (.int 0)))) (sAsg 3 (fC (.int 1))) sNext)
    (sSeq (sAsg 5 (fTup (fCons (fVar 2) (fCons (fVar 3) (fCons (fVar 4) fNil)))))
    (sSeq (sAsg 6 (fMake c.Machine 4 (G_Machine___init__ c) (fCons (fVar 2) (fCons (fVar 3) (fCons (fVar 4) fNil)))))
    (sSeq (sAsg 7 (fOp dIx (fLst (fCons (fC (.int 4)) (fCons (fC (.int 2)) (fCons (fC (.int 3)) (fCons (fC (.int 5)) (fCons (fC (.int 7)) (fCons (fC (.int 12)) (fCons (fC (.int 20)) fNil)))))))) (fCall 2 (G__law_draw c) (fCons (fVar 1) (fCons (fC (.int 7)) fNil)))))
    (sSeq (sIf (fTst (fOp (dEqD false) (fCall 2 (G__law_draw c) (fCons (fVar 1) (fCons (fC (.int 30)) fNil))) (fC (.int 29)))) (sAsg 7 (fC (.int 40))) sNext)
    (sSeq (sAsg 8 (fCall 2 (G_least_period c) (fCons (fVar 6) (fCons (fVar 7) fNil))))
    (sSeq (sAsg 9 (fCB bMax (fCons (fVar 2) (fCons (fVar 4) fNil))))
    (sSeq (sIf (fOr (fNot (fTst (fCall 1 (G__law_integer c) (fCons (fVar 8) fNil)))) (fOr (fTst (fOp dLt (fVar 8) (fVar 9))) (fNot (fTst (fCall 3 (G__law_clear c) (fCons (fVar 7) (fCons (fVar 8) (fCons (fVar 5) fNil)))))))) (sRet (fC (.bl false))) sNext)
    (sSeq (sAsg 10 (fVar 9))
    (sSeq (sFor (fRng dRng1 (fCons (fOp dMul (fVar 7) (fVar 7)) fNil)) (gN 11) (sSeq (sAsg 12 (fCall 3 (G__law_reach c) (fCons (fVar 7) (fCons (fVar 10) (fCons (fVar 5) fNil)))))
    (sSeq (sIf (fTst (fOp (dEqD false) (fVar 12) (fVar 10))) sBreak sNext)
    (sAsg 10 (fVar 12)))))
    (sRet (fOp (dEqD false) (fVar 10) (fVar 8)))))))))))))))))
end Lw

namespace SI
open PySem L2
section
variable {L : Lc} {s : S} {Q : Cn (D → S → Prop)} {E : Cn (Addr → List Str → List D → S → Prop)}
/-- .. tracked -/
def lcTE (q : Tg) (t : F Bool) (f : F D) (vs : List Nat) (L : Lc) (r : Src) (s1 : S) : R D := match lcL q t f r (wipeD L vs) s1.length r.items (s1 ++ [.lst []]) with
  | .ok _ s2 => match s2[s1.length]? with
    | some (.lst _) => .ok (.ref s1.length) s2
    | _ => .bad
  | _ => .bad
theorem w_lcT (fi : F Src) (q : Tg) (t : F Bool) (f : F D) (vs : List Nat) : @WR _ (fLcT fi q t f vs L s) Q E = @WR _ (fi L s) ⟨fun r s1 => @WR _ (lcTE q t f vs L r s1) Q E⟩ E := w_bind ..
theorem w_calm (r : RS) {B : Bs} : @WS (r.calm) B = @WS r { B with ex := fun _ _ _ _ _ => False } := by
  cases r <;> rfl
theorem w_tryM {B : Bs} (hs : List Cld) (b : FS) : @WS (sTryM hs b L s) B = @WS (b L s) { B with ex := fun C fs vs L1 s1 => @WS (tryM hs C fs vs L1 s1) B } := by
  unfold sTryM
  cases b L s <;> rfl
theorem w_tm0 {B : Bs} (C : Addr) (fs : List Str) (vs : List D) : @WS (tryM [] C fs vs L s) B = B.ex C fs vs L s := rfl
theorem w_tmN {B : Bs} (sel : List (Addr × Bool)) (h : Addr → Addr → Option Addr → FS) (r : List Cld) (C : Addr) (fs : List Str) (vs : List D) : @WS (tryM ((sel, none, h) :: r) C fs vs L s) B = @WO _ (selOf sel C) ⟨fun z => @WB z ⟨@WS (hAll fun a od => (h a C od L s).calm) B⟩ ⟨@WS (tryM r C fs vs L s) B⟩⟩ := by
  rw [tryM]
  cases selOf sel C with
  | none => rfl
  | some z => cases z <;> rfl
theorem w_tmS {B : Bs} (sel : List (Addr × Bool)) (i : Nat) (h : Addr → Addr → Option Addr → FS) (r : List Cld) (C : Addr) (fs : List Str) (vs : List D) : @WS (tryM ((sel, some i, h) :: r) C fs vs L s) B = @WO _ (selOf sel C) ⟨fun z => @WB z ⟨@WS (hAll fun a od => (h a C od (L.set i (some (.exc a C od fs vs))) s).drop i) B⟩ ⟨@WS (tryM r C fs vs L s) B⟩⟩ := by
  rw [tryM]
  cases selOf sel C with
  | none => rfl
  | some z => cases z <;> rfl
theorem w_mth (m : S → D → List D → Option (D × S)) (fo : F D) (fa : F (List D)) : @WR _ (fMth m fo fa L s) Q E = @WR _ (fo L s) ⟨fun d s1 => @WO _ (lstOf s1 d) ⟨fun _ => @WR _ (fa L s1) ⟨fun ds s2 => @WO _ (m s2 d ds) ⟨fun z => Q z.1 z.2⟩⟩ E⟩⟩ E := by
  refine (w_bind ..).trans (congrArg (fun z => @WR _ (fo L s) ⟨z⟩ _) ?_)
  funext d s1
  cases lstOf s1 d with
  | none => rfl
  | some _ =>
    refine (w_bind ..).trans (congrArg (fun z => @WR _ (fa L s1) ⟨z⟩ _) ?_)
    funext ds s2
    cases m s2 d ds <;> rfl
end
theorem bMin_int (s : S) (i j : Int) : bMin s [.int i, .int j] = some (.int (min i j)) := by
  show some (D.int (if j < i then j else i)) = _
  congr 2
  omega
theorem bMax_int (s : S) (i j : Int) : bMax s [.int i, .int j] = some (.int (max i j)) := by
  show some (D.int (if j > i then j else i)) = _
  congr 2
  omega
theorem bAbs_int (s : S) (i : Int) : bAbs s [.int i] = some (.int (i.natAbs : Int)) := by
  show some (D.int (if i < 0 then -i else i)) = _
  congr 2
  omega
theorem dIs_non (neg : Bool) (s : S) : dIs neg s .non .non = some (.bl (!neg)) := by cases neg <;> rfl
theorem dIs_int (neg : Bool) (s : S) (i : Int) : dIs neg s (.int i) .non = some (.bl neg) := by cases neg <;> rfl
theorem dIs_tup (neg : Bool) (s : S) (xs : List D) : dIs neg s (.tup xs) .non = some (.bl neg) := by cases neg <;> rfl
theorem dIs_nn {neg : Bool} {s : S} {d : D} (h : d ≠ .non) : dIs neg s d .non = some (.bl neg) := by
  unfold dIs
  rw [decide_eq_false h]
  cases neg <;> rfl
theorem iSeq_lst (s : S) (xs : List D) : iSeq s (.lst xs) = some ⟨xs, none⟩ := rfl
theorem iSeq_tup (s : S) (xs : List D) : iSeq s (.tup xs) = some ⟨xs, none⟩ := rfl
theorem iSeq_rdl (s : S) (xs : List D) : iSeq s (.rdl xs) = some ⟨xs, none⟩ := rfl
theorem iEnu_lst (s : S) (xs : List D) : iEnu s (.lst xs) = some ⟨enumI 0 xs, none⟩ := rfl
theorem iEnu_tup (s : S) (xs : List D) : iEnu s (.tup xs) = some ⟨enumI 0 xs, none⟩ := rfl
theorem rg_ok {i : Int} (h0 : -4611686018427387904 ≤ i) (h1 : i < 4611686018427387904) : rgOk i = true := by
  unfold rgOk
  rw [decide_eq_true_eq]
  omega
theorem rng1 {j : Int} (h0 : -4611686018427387904 ≤ j) (h1 : j < 4611686018427387904) : dRng1 [.int j] = some ⟨rgItems 0 j.toNat, none⟩ := by
  show (if rgOk j = true then _ else _) = _
  rw [if_pos (rg_ok h0 h1)]
theorem rng2 {i j : Int} (h0 : -4611686018427387904 ≤ i) (h1 : i < 4611686018427387904) (h2 : -4611686018427387904 ≤ j) (h3 : j < 4611686018427387904) : dRng2 [.int i, .int j] = some ⟨rgItems i (j - i).toNat, none⟩ := by
  show (if rgOk i = true ∧ rgOk j = true then _ else _) = _
  rw [if_pos ⟨rg_ok h0 h1, rg_ok h2 h3⟩]
theorem bits {x : Int} {a : Nat} (h0 : 0 ≤ x) (h : x < 2 ^ a) : x.natAbs.log2 ≤ a := by
  rcases Nat.eq_zero_or_pos a with rfl | ha
  · have : x = 0 := by
      have : (2 : Int) ^ 0 = 1 := rfl
      omega
    subst this
    exact Nat.zero_le _
  · exact log_of h0 h ha
theorem bitsN {x a : Nat} (h : x < 2 ^ a) : ((x : Int)).natAbs.log2 ≤ a := bits (by omega) (by exact_mod_cast h)
theorem dMul_ok {s : S} {i j : Int} {a b : Nat} (ha : i.natAbs.log2 ≤ a) (hb : j.natAbs.log2 ≤ b) (h : a + b < 100000000) : dMul s (.int i) (.int j) = some (.int (i * j)) := by
  rw [dMul_int, if_pos (mulOk_log ha hb h)]
/-- numbers of everyday size -/
theorem dMul_small {s : S} {i j : Int} (h0 : -(10 ^ 60) ≤ i) (h1 : i ≤ 10 ^ 60) (h2 : -(10 ^ 60) ≤ j) (h3 : j ≤ 10 ^ 60) : dMul s (.int i) (.int j) = some (.int (i * j)) := by
  have k : ∀ x : Int, -(10 ^ 60) ≤ x → x ≤ 10 ^ 60 → x.natAbs.log2 ≤ 250 := fun x a b => by
    refine Nat.le_of_lt (log2_small (by decide) ?_)
    have e : (10 : Int) ^ 60 < 2 ^ 250 := by decide +kernel
    have : x.natAbs ≤ 10 ^ 60 := by omega
    have e2 : 10 ^ 60 < 2 ^ 250 := by decide +kernel
    omega
  exact dMul_ok (k i h0 h1) (k j h2 h3) (by decide)
theorem dDiv_small {s : S} {i j : Int} (h0 : 0 < j) (h1 : j ≤ 10 ^ 60) : dDiv s (.int i) (.int j) = some (.int (i / j)) :=
  dDiv_int h0 (Int.lt_of_le_of_lt h1 (by decide +kernel))
theorem dDiv_ok {s : S} {i j : Int} {a : Nat} (h0 : 0 < j) (h1 : j.natAbs.log2 ≤ a) (h : a < 9000) : dDiv s (.int i) (.int j) = some (.int (i / j)) := by
  unfold dDiv
  rw [dI2_int, if_pos]
  unfold divOk
  rw [decide_eq_true_eq]
  exact ⟨h0, by omega⟩
end SI

/-! binomials, and rows of turns by their sums: plain -/
namespace Mt
def bin : Nat → Nat → Nat
  | _, 0 => 1
  | 0, _ + 1 => 0
  | n + 1, k + 1 => bin n k + bin n (k + 1)
theorem bin_0 (n : Nat) : bin n 0 = 1 := by cases n <;> rfl
theorem bin_s (n k : Nat) : bin (n + 1) (k + 1) = bin n k + bin n (k + 1) := rfl
theorem bin_lt : ∀ (n k : Nat), n < k → bin n k = 0
  | _, 0, h => absurd h (Nat.not_lt_zero _)
  | 0, k + 1, _ => rfl
  | n + 1, k + 1, h => by rw [bin_s, bin_lt n k (by omega), bin_lt n (k + 1) (by omega)]
theorem bin_self : ∀ n : Nat, bin n n = 1
  | 0 => rfl
  | n + 1 => by rw [bin_s, bin_self n, bin_lt n (n + 1) (by omega)]
theorem bin_absorb : ∀ (n k : Nat), (k + 1) * bin (n + 1) (k + 1) = (n + 1) * bin n k
  | 0, 0 => rfl
  | 0, k + 1 => by
    rw [bin_lt 1 (k + 1 + 1) (by omega), bin_lt 0 (k + 1) (by omega)]
    rfl
  | n + 1, 0 => by
    have h := bin_absorb n 0
    rw [bin_0] at h
    rw [bin_s, bin_0]
    omega
  | n + 1, k + 1 => by
    have h1 := bin_absorb n k
    have h2 := bin_absorb n (k + 1)
    have e : bin (n + 1 + 1) (k + 1 + 1) = bin (n + 1) (k + 1) + bin (n + 1) (k + 1 + 1) := rfl
    have e2 : bin (n + 1) (k + 1) = bin n k + bin n (k + 1) := rfl
    rw [e, Nat.mul_add, h2, Nat.add_mul (k + 1) 1, h1, e2, Nat.mul_add (n + 1 + 1)]
    rw [Nat.add_mul (n + 1) 1 (bin n k), Nat.add_mul (n + 1) 1 (bin n (k + 1))]
    omega
theorem bin_symm : ∀ (a b : Nat), bin (a + b) a = bin (a + b) b
  | 0, b => by rw [Nat.zero_add, bin_0, bin_self]
  | a + 1, 0 => by rw [Nat.add_zero, bin_0, bin_self]
  | a + 1, b + 1 => by
    have h1 := bin_symm a (b + 1)
    have h2 := bin_symm (a + 1) b
    rw [show a + 1 + (b + 1) = (a + (b + 1)) + 1 by omega, bin_s, bin_s, h1]
    rw [show a + (b + 1) = a + 1 + b by omega, h2]
    omega
theorem bin_pos : ∀ (n k : Nat), k ≤ n → 0 < bin n k
  | n, 0, _ => by rw [bin_0]; omega
  | 0, k + 1, h => by omega
  | n + 1, k + 1, h => by
    have := bin_pos n k (by omega)
    rw [bin_s]
    omega
theorem bin_le_pow : ∀ (n k : Nat), bin n k ≤ (n + 1) ^ k
  | n, 0 => by rw [bin_0]; exact Nat.le_refl _
  | 0, k + 1 => by rw [bin_lt 0 (k + 1) (by omega)]; exact Nat.zero_le _
  | n + 1, k + 1 => by
    have h := bin_absorb n k
    have h1 := bin_le_pow n k
    have h2 : bin (n + 1) (k + 1) ≤ (k + 1) * bin (n + 1) (k + 1) := Nat.le_mul_of_pos_left _ (by omega)
    have h3 : (n + 1) * bin n k ≤ (n + 1 + 1) * (n + 1 + 1) ^ k := Nat.mul_le_mul (by omega) (Nat.le_trans h1 (Nat.pow_le_pow_left (by omega) k))
    rw [Nat.pow_succ, Nat.mul_comm _ (n + 1 + 1)]
    omega
theorem bin_mono_n : ∀ (n k : Nat), bin n k ≤ bin (n + 1) k
  | n, 0 => by rw [bin_0, bin_0]; exact Nat.le_refl _
  | n, k + 1 => by rw [bin_s]; omega
theorem bin_mono {n m k : Nat} (h : n ≤ m) : bin n k ≤ bin m k := by
  induction h with
  | refl => exact Nat.le_refl _
  | step _ ih => exact Nat.le_trans ih (bin_mono_n _ _)
/-! sums -/
def sm : Nat → (Nat → Nat) → Nat
  | 0, _ => 0
  | n + 1, f => sm n f + f n
def smZ : Nat → (Nat → Int) → Int
  | 0, _ => 0
  | n + 1, f => smZ n f + f n
theorem sm_congr {n : Nat} {f g : Nat → Nat} (h : ∀ i, i < n → f i = g i) : sm n f = sm n g := by
  induction n with
  | zero => rfl
  | succ n ih => rw [sm, sm, ih fun i hi => h i (by omega), h n (by omega)]
theorem smZ_congr {n : Nat} {f g : Nat → Int} (h : ∀ i, i < n → f i = g i) : smZ n f = smZ n g := by
  induction n with
  | zero => rfl
  | succ n ih => rw [smZ, smZ, ih fun i hi => h i (by omega), h n (by omega)]
theorem sm_front (n : Nat) (f : Nat → Nat) : sm (n + 1) f = f 0 + sm n fun i => f (i + 1) := by
  induction n with
  | zero => simp [sm]
  | succ n ih => rw [sm, ih, sm, Nat.add_assoc]
theorem smZ_front (n : Nat) (f : Nat → Int) : smZ (n + 1) f = f 0 + smZ n fun i => f (i + 1) := by
  induction n with
  | zero => simp [smZ]
  | succ n ih => rw [smZ, ih, smZ, Int.add_assoc]
theorem smZ_add (n : Nat) (f g : Nat → Int) : smZ n (fun i => f i + g i) = smZ n f + smZ n g := by
  induction n with
  | zero => rfl
  | succ n ih =>
    simp only [smZ, ih]
    omega
theorem smZ_sub (n : Nat) (f g : Nat → Int) : smZ n (fun i => f i - g i) = smZ n f - smZ n g := by
  induction n with
  | zero => rfl
  | succ n ih =>
    simp only [smZ, ih]
    omega
theorem smZ_neg (n : Nat) (f : Nat → Int) : smZ n (fun i => - f i) = - smZ n f := by
  induction n with
  | zero => rfl
  | succ n ih =>
    simp only [smZ, ih]
    omega
theorem smZ_zero {n : Nat} {f : Nat → Int} (h : ∀ i, i < n → f i = 0) : smZ n f = 0 := by
  induction n with
  | zero => rfl
  | succ n ih => rw [smZ, ih fun i hi => h i (by omega), h n (by omega)]; rfl
theorem smZ_le {n : Nat} {f g : Nat → Int} (h : ∀ i, i < n → f i ≤ g i) : smZ n f ≤ smZ n g := by
  induction n with
  | zero => exact Int.le_refl _
  | succ n ih =>
    have h1 := ih fun i hi => h i (by omega)
    have h2 := h n (by omega)
    rw [smZ, smZ]
    omega
theorem smZ_nonneg {n : Nat} {f : Nat → Int} (h : ∀ i, i < n → 0 ≤ f i) : 0 ≤ smZ n f := by
  have := smZ_le (n := n) (f := fun _ => 0) (g := f) h
  rwa [smZ_zero fun _ _ => rfl] at this
theorem smZ_extend {n m : Nat} {f : Nat → Int} (h : n ≤ m) (hz : ∀ i, n ≤ i → i < m → f i = 0) : smZ m f = smZ n f := by
  induction h with
  | refl => rfl
  | step hle ih =>
    rename_i k
    rw [smZ, ih fun i h1 h2 => hz i h1 (by omega), hz k hle (by omega), Int.add_zero]
theorem smZ_shorter {n m : Nat} {f : Nat → Int} (h : n ≤ m) (hp : ∀ i, i < m → 0 ≤ f i) : smZ n f ≤ smZ m f := by
  induction h with
  | refl => exact Int.le_refl _
  | step hle ih =>
    rename_i k
    have := ih fun i hi => hp i (by omega)
    have := hp k (by omega)
    rw [smZ]
    omega
theorem sm_cast (n : Nat) (f : Nat → Nat) : ((sm n f : Nat) : Int) = smZ n fun i => (f i : Int) := by
  induction n with
  | zero => rfl
  | succ n ih => rw [sm, smZ, ← ih]; omega
theorem sm_le {n : Nat} {f g : Nat → Nat} (h : ∀ i, i < n → f i ≤ g i) : sm n f ≤ sm n g := by
  induction n with
  | zero => exact Nat.le_refl _
  | succ n ih =>
    have h1 := ih fun i hi => h i (by omega)
    have h2 := h n (by omega)
    rw [sm, sm]
    omega
theorem sm_shorter {n m : Nat} (f : Nat → Nat) (h : n ≤ m) : sm n f ≤ sm m f := by
  induction h with
  | refl => exact Nat.le_refl _
  | step _ ih => rw [sm]; omega
/-! rows of turns -/
def cap (t : Option Nat) (m : Nat) : Nat := match t with
  | none => m + 1
  | some t => min t (m + 1)
/-- how many rows of d turns, each below t, have a sum of at most m -/
def cnt (t : Option Nat) : Nat → Nat → Nat
  | 0, _ => 1
  | d + 1, m => sm (cap t m) fun i => cnt t d (m - i)
theorem cnt_0 (t : Option Nat) (m : Nat) : cnt t 0 m = 1 := rfl
theorem cnt_s (t : Option Nat) (d m : Nat) : cnt t (d + 1) m = sm (cap t m) fun i => cnt t d (m - i) := rfl
def back (t : Option Nat) (d m : Nat) : Nat := match t with
  | none => 0
  | some t => if t ≤ m then cnt (some t) d (m - t) else 0
theorem cnt_rec (t : Option Nat) (ht : t ≠ some 0) (d m : Nat) : cnt t (d + 1) (m + 1) + back t d (m + 1) = cnt t (d + 1) m + cnt t d (m + 1) := by
  cases t with
  | none =>
    rw [cnt_s, cnt_s]
    show sm (m + 1 + 1) _ + 0 = sm (m + 1) _ + _
    rw [sm_front, Nat.sub_zero, sm_congr (g := fun i => cnt none d (m - i)) fun i hi => by rw [show m + 1 - (i + 1) = m - i by omega]]
    omega
  | some t =>
    have ht' : 0 < t := by
      rcases Nat.eq_zero_or_pos t with h | h
      · exact absurd (by rw [h]) ht
      · exact h
    rw [cnt_s, cnt_s]
    by_cases h : t ≤ m + 1
    · have e1 : cap (some t) (m + 1) = (t - 1) + 1 := by unfold cap; dsimp only; omega
      have e2 : cap (some t) m = (t - 1) + 1 := by unfold cap; dsimp only; omega
      have e3 : back (some t) d (m + 1) = cnt (some t) d (m - (t - 1)) := by
        unfold back
        dsimp only
        rw [if_pos h, show m + 1 - t = m - (t - 1) by omega]
      rw [e1, e2, e3, sm_front, Nat.sub_zero, sm, sm_congr (g := fun i => cnt (some t) d (m - i)) fun i hi => by rw [show m + 1 - (i + 1) = m - i by omega]]
      omega
    · have e1 : cap (some t) (m + 1) = (m + 1) + 1 := by unfold cap; dsimp only; omega
      have e2 : cap (some t) m = m + 1 := by unfold cap; dsimp only; omega
      have e3 : back (some t) d (m + 1) = 0 := by
        unfold back
        dsimp only
        rw [if_neg h]
      rw [e1, e2, e3, sm_front, Nat.sub_zero, sm_congr (g := fun i => cnt (some t) d (m - i)) fun i hi => by rw [show m + 1 - (i + 1) = m - i by omega]]
      omega
theorem cnt_s0 (t : Option Nat) (ht : t ≠ some 0) : ∀ d : Nat, cnt t d 0 = 1
  | 0 => rfl
  | d + 1 => by
    have e : cap t 0 = 1 := by
      cases t with
      | none => rfl
      | some t =>
        have : t ≠ 0 := fun h => ht (by rw [h])
        unfold cap
        dsimp only
        omega
    rw [cnt_s, e, sm, sm, Nat.zero_add, cnt_s0 t ht d]
theorem cnt_none : ∀ d m : Nat, cnt none d m = bin (m + d) d
  | 0, m => by rw [cnt_0, bin_0]
  | d + 1, 0 => by rw [cnt_s0 none (by simp), Nat.zero_add, bin_self]
  | d + 1, m + 1 => by
    have h := cnt_rec none (by simp) d m
    have h1 := cnt_none (d + 1) m
    have h2 := cnt_none d (m + 1)
    have e : back none d (m + 1) = 0 := rfl
    have e2 : bin (m + 1 + (d + 1)) (d + 1) = bin (m + 1 + d) d + bin (m + 1 + d) (d + 1) := rfl
    rw [show m + 1 + d = m + (d + 1) by omega] at e2 h2
    rw [e2]
    omega
theorem cnt_pos (t : Option Nat) (ht : t ≠ some 0) : ∀ d m : Nat, 0 < cnt t d m
  | 0, m => Nat.one_pos
  | d + 1, m => by
    have h := cnt_pos t ht d m
    have e : 1 ≤ cap t m := by
      cases t with
      | none => unfold cap; dsimp only; omega
      | some t =>
        have : t ≠ 0 := fun h => ht (by rw [h])
        unfold cap
        dsimp only
        omega
    have := sm_shorter (fun i => cnt t d (m - i)) e
    rw [cnt_s]
    simp only [sm, Nat.zero_add, Nat.sub_zero] at this
    omega
theorem cap_mono (t : Option Nat) {m n : Nat} (h : m ≤ n) : cap t m ≤ cap t n := by
  cases t with
  | none => unfold cap; dsimp only; omega
  | some t => unfold cap; dsimp only; omega
theorem cnt_mono (t : Option Nat) : ∀ (d : Nat) {m n : Nat}, m ≤ n → cnt t d m ≤ cnt t d n
  | 0, _, _, _ => Nat.le_refl _
  | d + 1, m, n, h => by
    rw [cnt_s, cnt_s]
    exact Nat.le_trans (sm_le fun i _ => cnt_mono t d (by omega)) (sm_shorter _ (cap_mono t h))
/-- fewer turns, fewer rows -/
def leT : Option Nat → Option Nat → Prop
  | _, none => True
  | none, some _ => False
  | some a, some b => a ≤ b
theorem cnt_le_turns {t u : Option Nat} (h : leT t u) : ∀ (d m : Nat), cnt t d m ≤ cnt u d m
  | 0, _ => Nat.le_refl _
  | d + 1, m => by
    have e : cap t m ≤ cap u m := by
      cases t <;> cases u <;> simp only [leT, cap] at h ⊢ <;> omega
    rw [cnt_s, cnt_s]
    exact Nat.le_trans (sm_le fun i _ => cnt_le_turns h d _) (sm_shorter _ e)
theorem cnt_le_none (t : Option Nat) (d m : Nat) : cnt t d m ≤ bin (m + d) d := by
  rw [← cnt_none]
  exact cnt_le_turns (by cases t <;> trivial) d m
theorem sm_const (n k : Nat) : sm n (fun _ => k) = n * k := by
  induction n with
  | zero => simp [sm]
  | succ n ih => rw [sm, ih, Nat.succ_mul]
theorem cnt_full (t : Nat) (ht : 0 < t) : ∀ (d m : Nat), d * (t - 1) ≤ m → cnt (some t) d m = t ^ d
  | 0, _, _ => rfl
  | d + 1, m, h => by
    rw [Nat.succ_mul] at h
    have e : cap (some t) m = t := by
      unfold cap
      dsimp only
      omega
    rw [cnt_s, e, sm_congr (g := fun _ => t ^ d) fun i hi => cnt_full t ht d (m - i) (by omega), sm_const, Nat.pow_succ, Nat.mul_comm]
/-! the alternating sum -/
def B (d : Nat) (x : Int) : Int := if x < 0 then 0 else (bin (x.toNat + d) d : Nat)
def cz (t : Option Nat) (d : Nat) (m : Int) : Int := if m < 0 then 0 else (cnt t d m.toNat : Nat)
theorem B_neg {d : Nat} {x : Int} (h : x < 0) : B d x = 0 := if_pos h
theorem B_nat (d k : Nat) : B d (k : Int) = (bin (k + d) d : Nat) := by
  unfold B
  rw [if_neg (by omega), Int.toNat_natCast]
theorem cz_neg {t : Option Nat} {d : Nat} {x : Int} (h : x < 0) : cz t d x = 0 := if_pos h
theorem cz_nat (t : Option Nat) (d k : Nat) : cz t d (k : Int) = (cnt t d k : Nat) := by
  unfold cz
  rw [if_neg (by omega), Int.toNat_natCast]
theorem B_rec (d : Nat) (x : Int) : B (d + 1) x - B (d + 1) (x - 1) = B d x := by
  by_cases h : x < 0
  · rw [B_neg h, B_neg h, B_neg (show x - 1 < 0 by omega)]
    rfl
  · obtain ⟨k, rfl⟩ := Int.eq_ofNat_of_zero_le (Int.not_lt.mp h)
    cases k with
    | zero => rw [B_nat, B_nat, B_neg (by omega), Nat.zero_add, Nat.zero_add, bin_self, bin_self]; rfl
    | succ k =>
      rw [show ((k + 1 : Nat) : Int) - 1 = (k : Nat) by omega, B_nat, B_nat, B_nat]
      have e2 : bin (k + 1 + (d + 1)) (d + 1) = bin (k + 1 + d) d + bin (k + 1 + d) (d + 1) := rfl
      rw [e2, show k + (d + 1) = k + 1 + d by omega]
      omega
theorem cz_rec (t : Nat) (ht : 0 < t) (d : Nat) (m : Int) : cz (some t) (d + 1) m - cz (some t) (d + 1) (m - 1) = cz (some t) d m - cz (some t) d (m - t) := by
  by_cases h : m < 0
  · rw [cz_neg h, cz_neg h, cz_neg (show m - 1 < 0 by omega), cz_neg (show m - t < 0 by omega)]
  · obtain ⟨k, rfl⟩ := Int.eq_ofNat_of_zero_le (Int.not_lt.mp h)
    have hs : (some t : Option Nat) ≠ some 0 := by simp; omega
    cases k with
    | zero => rw [cz_nat, cz_nat, cz_neg (by omega), cz_neg (by omega), cnt_s0 _ hs, cnt_s0 _ hs]
    | succ k =>
      have r := cnt_rec (some t) hs d k
      rw [show ((k + 1 : Nat) : Int) - 1 = (k : Nat) by omega, cz_nat, cz_nat, cz_nat]
      unfold back at r
      dsimp only at r
      by_cases h2 : t ≤ k + 1
      · rw [if_pos h2] at r
        rw [show ((k + 1 : Nat) : Int) - t = ((k + 1 - t : Nat) : Int) by omega, cz_nat]
        omega
      · rw [if_neg h2] at r
        rw [cz_neg (show ((k + 1 : Nat) : Int) - t < 0 by omega)]
        omega
theorem cz_rec_none (d : Nat) (m : Int) : cz none (d + 1) m - cz none (d + 1) (m - 1) = cz none d m := by
  by_cases h : m < 0
  · rw [cz_neg h, cz_neg h, cz_neg (show m - 1 < 0 by omega)]
    rfl
  · obtain ⟨k, rfl⟩ := Int.eq_ofNat_of_zero_le (Int.not_lt.mp h)
    cases k with
    | zero => rw [cz_nat, cz_nat, cz_neg (by omega), cnt_s0 _ (by simp), cnt_s0 _ (by simp)]; rfl
    | succ k =>
      have r := cnt_rec none (by simp) d k
      have e : back none d (k + 1) = 0 := rfl
      rw [show ((k + 1 : Nat) : Int) - 1 = (k : Nat) by omega, cz_nat, cz_nat, cz_nat]
      omega
def sg : Nat → Int
  | 0 => 1
  | n + 1 => - sg n
def altT (t d : Nat) (m : Int) (k : Nat) : Int := sg k * (bin d k : Nat) * B d (m - k * t)
def alt (t d : Nat) (m : Int) : Int := smZ (d + 1) (altT t d m)
theorem alt_rec (t d : Nat) (m : Int) : alt t (d + 1) m - alt t (d + 1) (m - 1) = alt t d m - alt t d (m - t) := by
  unfold alt
  rw [← smZ_sub]
  have e : smZ (d + 1 + 1) (fun k => altT t (d + 1) m k - altT t (d + 1) (m - 1) k) = smZ (d + 1 + 1) fun k => sg k * (bin (d + 1) k : Nat) * B d (m - k * t) := smZ_congr fun k _ => by
    unfold altT
    rw [← Int.mul_sub, show m - 1 - (k : Int) * t = m - k * t - 1 by omega, B_rec]
  rw [e, smZ_front]
  have e2 : smZ (d + 1) (fun i => sg (i + 1) * (bin (d + 1) (i + 1) : Nat) * B d (m - ((i + 1 : Nat) : Int) * t)) = smZ (d + 1) (fun i => - altT t d (m - t) i) + smZ (d + 1) (fun i => altT t d m (i + 1)) := by
    rw [← smZ_add]
    refine smZ_congr fun i _ => ?_
    unfold altT
    rw [bin_s, Int.natCast_add, show m - ((i + 1 : Nat) : Int) * t = m - t - i * t by rw [Int.natCast_add, Int.add_mul]; omega]
    show - sg i * _ * _ = - (sg i * _ * _) + - sg i * _ * _
    rw [Int.mul_add, Int.add_mul, Int.neg_mul, Int.neg_mul, Int.neg_mul]
  rw [e2, smZ_neg]
  have e3 : smZ (d + 1) (fun i => altT t d m (i + 1)) = smZ (d + 1) (altT t d m) - altT t d m 0 := by
    have h1 := smZ_front (d + 1) (altT t d m)
    have h2 : smZ (d + 1 + 1) (altT t d m) = smZ (d + 1) (altT t d m) + altT t d m (d + 1) := rfl
    have h3 : altT t d m (d + 1) = 0 := by
      unfold altT
      rw [bin_lt d (d + 1) (by omega)]
      simp
    omega
  rw [e3]
  have e4 : sg 0 * (bin (d + 1) 0 : Nat) * B d (m - ((0 : Nat) : Int) * t) = altT t d m 0 := by
    unfold altT
    rw [bin_0, bin_0]
  rw [e4]
  omega
theorem alt_neg {t d : Nat} {m : Int} (h : m < 0) : alt t d m = 0 := smZ_zero fun k _ => by
  unfold altT
  rw [B_neg, Int.mul_zero]
  have : (0 : Int) ≤ k * t := by exact_mod_cast Nat.zero_le _
  omega
theorem alt_cz (t : Nat) (ht : 0 < t) : ∀ (d : Nat) (m : Int), alt t d m = cz (some t) d m
  | 0, m => by
    unfold alt
    simp only [smZ, altT, sg, bin_0]
    by_cases h : m < 0
    · rw [B_neg (by simpa using h), cz_neg h]
      rfl
    · obtain ⟨k, rfl⟩ := Int.eq_ofNat_of_zero_le (Int.not_lt.mp h)
      rw [cz_nat]
      simp [B_nat, bin_0, cnt_0]
  | d + 1, m => by
    by_cases h : m < 0
    · rw [alt_neg h, cz_neg h]
    · obtain ⟨k, rfl⟩ := Int.eq_ofNat_of_zero_le (Int.not_lt.mp h)
      clear h
      induction k with
      | zero =>
        have h1 := alt_rec t d 0
        have h2 := cz_rec t ht d 0
        rw [alt_neg (show (0 : Int) - 1 < 0 by omega), alt_cz t ht d, alt_cz t ht d] at h1
        rw [cz_neg (show (0 : Int) - 1 < 0 by omega)] at h2
        show alt t (d + 1) 0 = cz (some t) (d + 1) 0
        omega
      | succ k ih =>
        have h1 := alt_rec t d ((k + 1 : Nat) : Int)
        have h2 := cz_rec t ht d ((k + 1 : Nat) : Int)
        rw [alt_cz t ht d, alt_cz t ht d, show ((k + 1 : Nat) : Int) - 1 = (k : Nat) by omega, ih] at h1
        rw [show ((k + 1 : Nat) : Int) - 1 = (k : Nat) by omega] at h2
        omega
end Mt

namespace Pg
open PySem L2 SI Mt
variable {c : Cl}
theorem pow_lt {n k : Nat} (h : n < 2 ^ 100) : (n + 1) ^ k ≤ 2 ^ (100 * k) := by
  rw [Nat.pow_mul]
  exact Nat.pow_le_pow_left (by omega) k
theorem choose_ok {n k : Nat} (hk : k ≤ n) (hn : n < 2 ^ 100) (hu : min k (n - k) ≤ 10000) (s : S) : G_choose c [.int n, .int k] s = .ok (.int (bin n k)) s := by
  obtain ⟨u, hu'⟩ : ∃ u : Nat, u = min k (n - k) := ⟨_, rfl⟩
  have eu : min (k : Int) ((n : Int) - k) = (u : Int) := by omega
  have hb : bin n u = bin n k := by
    rcases Nat.le_total k (n - k) with h | h
    · rw [show u = k by omega]
    · have := bin_symm k (n - k)
      rw [show k + (n - k) = n by omega] at this
      rw [show u = n - k by omega, this]
  apply eq_ok
  unfold G_choose
  simp (implicitDefEqProofs := false) only [eu, ↓w_lcT, ↓w_mth, ↓w_calm, ↓w_tryM, ↓w_tm0, ↓w_tmN, ↓w_tmS, ↓w_seq, ↓w_next, ↓w_break, ↓w_cont, ↓w_retN, ↓w_asg, ↓w_expr, ↓w_ret, ↓w_if, ↓w_asgG, ↓w_for, ↓w_put, ↓w_aug, ↓w_augS, ↓w_raise0, ↓w_raise1, ↓w_raise2, ↓w_try, ↓w_tryAs, ↓w_var, ↓w_c, ↓w_op, ↓w_chain, ↓w_notV, ↓w_andV, ↓w_orV, ↓w_ifE, ↓w_tst, ↓w_not, ↓w_and, ↓w_or, ↓w_yes, ↓w_nil, ↓w_cons, ↓w_tup, ↓w_lst, ↓w_lstT, ↓w_cb, ↓w_call, ↓w_callK, ↓w_neg, ↓w_no, ↓w_pt, ↓w_sl, ↓w_fld, ↓w_src, ↓w_rng, ↓w_enu, ↓w_listT, ↓w_app, ↓w_lc, ↓w_xf, ↓w_fldT, ↓w_make, ↓w_makeL, ↓w_run, ↓w_cut, ↓w_pure, ↓w_drop, w_ok, w_ex, w_nx, w_rt, w_bk, w_ct, w_exS, w_some, w_v, w_tr, w_fa, w_tb, w_ti, w_tn, w_L, w_L0, wb_not, cn_f, startD, arr, gN_eq, gTp, gCn, gNl, Option.bind_some, List.filterMap_cons, List.filterMap_nil, List.map_cons, List.map_nil, List.replicate_succ, List.replicate_zero, List.cons_append, List.nil_append, List.getElem?_cons_zero, List.getElem?_cons_succ, List.set_cons_zero, List.set_cons_succ, List.length_cons, List.length_nil, Nat.reduceAdd, Nat.reduceSub, Nat.reduceLeDiff, Nat.reduceEqDiff, Int.reducePow, Int.reduceToNat, Int.reduceNeg, Int.reduceAdd, Int.reduceMul, Int.reduceSub, Int.reduceLT, Int.reduceLE, Int.reduceEq, Nat.zero_add, Int.zero_add, big_eq, true_and, and_true, and_self, dSub_int, dAdd_int, dAddI_int, dLt_int, dLe_int, dGt_int, dGe_int, dEqD_int, bInt_int, bLen_lst, bLen_tup, bMin_int, bMax_int, bAbs_int, dIs_non, dIs_int, dIs_nn, Bool.not_true, Bool.not_false, decide_true, decide_false, reduceIte, Bool.false_eq_true, if_false, if_true, iSeq_lst, iSeq_tup, iSeq_rdl, iEnu_lst, iEnu_tup]
  rw [rng2 (by omega) (by omega) (by omega) (by omega), w_some, show ((u : Int) + 1 - 1).toNat = u by omega]
  refine ws_rng (fun i L s' => ∃ y, L = [some (.int n), some (.int u), some (.int (bin (n - u + i) i : Nat)), y] ∧ s' = s) ⟨none, by rw [bin_0]; rfl, rfl⟩ ?_ ?_
  · rintro i L s' hi ⟨y, rfl, rfl⟩
    simp (implicitDefEqProofs := false) only [↓w_lcT, ↓w_mth, ↓w_calm, ↓w_tryM, ↓w_tm0, ↓w_tmN, ↓w_tmS, ↓w_seq, ↓w_next, ↓w_break, ↓w_cont, ↓w_retN, ↓w_asg, ↓w_expr, ↓w_ret, ↓w_if, ↓w_asgG, ↓w_for, ↓w_put, ↓w_aug, ↓w_augS, ↓w_raise0, ↓w_raise1, ↓w_raise2, ↓w_try, ↓w_tryAs, ↓w_var, ↓w_c, ↓w_op, ↓w_chain, ↓w_notV, ↓w_andV, ↓w_orV, ↓w_ifE, ↓w_tst, ↓w_not, ↓w_and, ↓w_or, ↓w_yes, ↓w_nil, ↓w_cons, ↓w_tup, ↓w_lst, ↓w_lstT, ↓w_cb, ↓w_call, ↓w_callK, ↓w_neg, ↓w_no, ↓w_pt, ↓w_sl, ↓w_fld, ↓w_src, ↓w_rng, ↓w_enu, ↓w_listT, ↓w_app, ↓w_lc, ↓w_xf, ↓w_fldT, ↓w_make, ↓w_makeL, ↓w_run, ↓w_cut, ↓w_pure, ↓w_drop, w_ok, w_ex, w_nx, w_rt, w_bk, w_ct, w_exS, w_some, w_v, w_tr, w_fa, w_tb, w_ti, w_tn, w_L, w_L0, wb_not, cn_f, startD, arr, gN_eq, gTp, gCn, gNl, Option.bind_some, List.filterMap_cons, List.filterMap_nil, List.map_cons, List.map_nil, List.replicate_succ, List.replicate_zero, List.cons_append, List.nil_append, List.getElem?_cons_zero, List.getElem?_cons_succ, List.set_cons_zero, List.set_cons_succ, List.length_cons, List.length_nil, Nat.reduceAdd, Nat.reduceSub, Nat.reduceLeDiff, Nat.reduceEqDiff, Int.reducePow, Int.reduceToNat, Int.reduceNeg, Int.reduceAdd, Int.reduceMul, Int.reduceSub, Int.reduceLT, Int.reduceLE, Int.reduceEq, Nat.zero_add, Int.zero_add, big_eq, true_and, and_true, and_self, dSub_int, dAdd_int, dAddI_int, dLt_int, dLe_int, dGt_int, dGe_int, dEqD_int, bInt_int, bLen_lst, bLen_tup, bMin_int, bMax_int, bAbs_int, dIs_non, dIs_int, dIs_nn, Bool.not_true, Bool.not_false, decide_true, decide_false, reduceIte, Bool.false_eq_true, if_false, if_true, iSeq_lst, iSeq_tup, iSeq_rdl, iEnu_lst, iEnu_tup]
    have b1 : bin (n - u + i) i < 2 ^ (100 * i + 1) := by
      have h1 := bin_le_pow (n - u + i) i
      have h2 : (n - u + i + 1) ^ i ≤ (n + 1) ^ i := Nat.pow_le_pow_left (by omega) i
      have h3 := pow_lt (k := i) hn
      have h4 : 2 ^ (100 * i) < 2 ^ (100 * i + 1) := Nat.pow_lt_pow_right (by omega) (by omega)
      omega
    have e1 : (n : Int) - u + (1 + i) = ((n - u + i + 1 : Nat) : Int) := by omega
    have b2 : n - u + i + 1 < 2 ^ 101 := by
      have : 2 ^ 101 = 2 * 2 ^ 100 := by decide +kernel
      omega
    have e2 : (1 : Int) + i = ((i + 1 : Nat) : Int) := by omega
    rw [e1, e2, dMul_ok (bitsN b1) (bitsN b2) (by omega)]
    simp (implicitDefEqProofs := false) only [↓w_lcT, ↓w_mth, ↓w_calm, ↓w_tryM, ↓w_tm0, ↓w_tmN, ↓w_tmS, ↓w_seq, ↓w_next, ↓w_break, ↓w_cont, ↓w_retN, ↓w_asg, ↓w_expr, ↓w_ret, ↓w_if, ↓w_asgG, ↓w_for, ↓w_put, ↓w_aug, ↓w_augS, ↓w_raise0, ↓w_raise1, ↓w_raise2, ↓w_try, ↓w_tryAs, ↓w_var, ↓w_c, ↓w_op, ↓w_chain, ↓w_notV, ↓w_andV, ↓w_orV, ↓w_ifE, ↓w_tst, ↓w_not, ↓w_and, ↓w_or, ↓w_yes, ↓w_nil, ↓w_cons, ↓w_tup, ↓w_lst, ↓w_lstT, ↓w_cb, ↓w_call, ↓w_callK, ↓w_neg, ↓w_no, ↓w_pt, ↓w_sl, ↓w_fld, ↓w_src, ↓w_rng, ↓w_enu, ↓w_listT, ↓w_app, ↓w_lc, ↓w_xf, ↓w_fldT, ↓w_make, ↓w_makeL, ↓w_run, ↓w_cut, ↓w_pure, ↓w_drop, w_ok, w_ex, w_nx, w_rt, w_bk, w_ct, w_exS, w_some, w_v, w_tr, w_fa, w_tb, w_ti, w_tn, w_L, w_L0, wb_not, cn_f, startD, arr, gN_eq, gTp, gCn, gNl, Option.bind_some, List.filterMap_cons, List.filterMap_nil, List.map_cons, List.map_nil, List.replicate_succ, List.replicate_zero, List.cons_append, List.nil_append, List.getElem?_cons_zero, List.getElem?_cons_succ, List.set_cons_zero, List.set_cons_succ, List.length_cons, List.length_nil, Nat.reduceAdd, Nat.reduceSub, Nat.reduceLeDiff, Nat.reduceEqDiff, Int.reducePow, Int.reduceToNat, Int.reduceNeg, Int.reduceAdd, Int.reduceMul, Int.reduceSub, Int.reduceLT, Int.reduceLE, Int.reduceEq, Nat.zero_add, Int.zero_add, big_eq, true_and, and_true, and_self, dSub_int, dAdd_int, dAddI_int, dLt_int, dLe_int, dGt_int, dGe_int, dEqD_int, bInt_int, bLen_lst, bLen_tup, bMin_int, bMax_int, bAbs_int, dIs_non, dIs_int, dIs_nn, Bool.not_true, Bool.not_false, decide_true, decide_false, reduceIte, Bool.false_eq_true, if_false, if_true, iSeq_lst, iSeq_tup, iSeq_rdl, iEnu_lst, iEnu_tup]
    rw [dDiv_ok (a := 40) (by omega) (bitsN (show i + 1 < 2 ^ 40 by omega)) (by omega)]
    simp (implicitDefEqProofs := false) only [↓w_lcT, ↓w_mth, ↓w_calm, ↓w_tryM, ↓w_tm0, ↓w_tmN, ↓w_tmS, ↓w_seq, ↓w_next, ↓w_break, ↓w_cont, ↓w_retN, ↓w_asg, ↓w_expr, ↓w_ret, ↓w_if, ↓w_asgG, ↓w_for, ↓w_put, ↓w_aug, ↓w_augS, ↓w_raise0, ↓w_raise1, ↓w_raise2, ↓w_try, ↓w_tryAs, ↓w_var, ↓w_c, ↓w_op, ↓w_chain, ↓w_notV, ↓w_andV, ↓w_orV, ↓w_ifE, ↓w_tst, ↓w_not, ↓w_and, ↓w_or, ↓w_yes, ↓w_nil, ↓w_cons, ↓w_tup, ↓w_lst, ↓w_lstT, ↓w_cb, ↓w_call, ↓w_callK, ↓w_neg, ↓w_no, ↓w_pt, ↓w_sl, ↓w_fld, ↓w_src, ↓w_rng, ↓w_enu, ↓w_listT, ↓w_app, ↓w_lc, ↓w_xf, ↓w_fldT, ↓w_make, ↓w_makeL, ↓w_run, ↓w_cut, ↓w_pure, ↓w_drop, w_ok, w_ex, w_nx, w_rt, w_bk, w_ct, w_exS, w_some, w_v, w_tr, w_fa, w_tb, w_ti, w_tn, w_L, w_L0, wb_not, cn_f, startD, arr, gN_eq, gTp, gCn, gNl, Option.bind_some, List.filterMap_cons, List.filterMap_nil, List.map_cons, List.map_nil, List.replicate_succ, List.replicate_zero, List.cons_append, List.nil_append, List.getElem?_cons_zero, List.getElem?_cons_succ, List.set_cons_zero, List.set_cons_succ, List.length_cons, List.length_nil, Nat.reduceAdd, Nat.reduceSub, Nat.reduceLeDiff, Nat.reduceEqDiff, Int.reducePow, Int.reduceToNat, Int.reduceNeg, Int.reduceAdd, Int.reduceMul, Int.reduceSub, Int.reduceLT, Int.reduceLE, Int.reduceEq, Nat.zero_add, Int.zero_add, big_eq, true_and, and_true, and_self, dSub_int, dAdd_int, dAddI_int, dLt_int, dLe_int, dGt_int, dGe_int, dEqD_int, bInt_int, bLen_lst, bLen_tup, bMin_int, bMax_int, bAbs_int, dIs_non, dIs_int, dIs_nn, Bool.not_true, Bool.not_false, decide_true, decide_false, reduceIte, Bool.false_eq_true, if_false, if_true, iSeq_lst, iSeq_tup, iSeq_rdl, iEnu_lst, iEnu_tup]
    have ab := bin_absorb (n - u + i) i
    have e3 : ((bin (n - u + i) i : Nat) : Int) * ((n - u + i + 1 : Nat) : Int) / ((i + 1 : Nat) : Int) = (bin (n - u + (i + 1)) (i + 1) : Nat) := by
      have e4 : ((bin (n - u + i) i : Nat) : Int) * ((n - u + i + 1 : Nat) : Int) = ((bin (n - u + (i + 1)) (i + 1) : Nat) : Int) * ((i + 1 : Nat) : Int) := by
        rw [Int.mul_comm, Int.mul_comm ((bin (n - u + (i + 1)) (i + 1) : Nat) : Int)]
        exact_mod_cast ab.symm
      rw [e4]
      exact Int.mul_ediv_cancel _ (by omega)
    rw [e3]
    exact ⟨_, rfl⟩
  · rintro L s' ⟨y, rfl, rfl⟩
    simp (implicitDefEqProofs := false) only [show n - u + u = n by omega, hb, ↓w_lcT, ↓w_mth, ↓w_calm, ↓w_tryM, ↓w_tm0, ↓w_tmN, ↓w_tmS, ↓w_seq, ↓w_next, ↓w_break, ↓w_cont, ↓w_retN, ↓w_asg, ↓w_expr, ↓w_ret, ↓w_if, ↓w_asgG, ↓w_for, ↓w_put, ↓w_aug, ↓w_augS, ↓w_raise0, ↓w_raise1, ↓w_raise2, ↓w_try, ↓w_tryAs, ↓w_var, ↓w_c, ↓w_op, ↓w_chain, ↓w_notV, ↓w_andV, ↓w_orV, ↓w_ifE, ↓w_tst, ↓w_not, ↓w_and, ↓w_or, ↓w_yes, ↓w_nil, ↓w_cons, ↓w_tup, ↓w_lst, ↓w_lstT, ↓w_cb, ↓w_call, ↓w_callK, ↓w_neg, ↓w_no, ↓w_pt, ↓w_sl, ↓w_fld, ↓w_src, ↓w_rng, ↓w_enu, ↓w_listT, ↓w_app, ↓w_lc, ↓w_xf, ↓w_fldT, ↓w_make, ↓w_makeL, ↓w_run, ↓w_cut, ↓w_pure, ↓w_drop, w_ok, w_ex, w_nx, w_rt, w_bk, w_ct, w_exS, w_some, w_v, w_tr, w_fa, w_tb, w_ti, w_tn, w_L, w_L0, wb_not, cn_f, startD, arr, gN_eq, gTp, gCn, gNl, Option.bind_some, List.filterMap_cons, List.filterMap_nil, List.map_cons, List.map_nil, List.replicate_succ, List.replicate_zero, List.cons_append, List.nil_append, List.getElem?_cons_zero, List.getElem?_cons_succ, List.set_cons_zero, List.set_cons_succ, List.length_cons, List.length_nil, Nat.reduceAdd, Nat.reduceSub, Nat.reduceLeDiff, Nat.reduceEqDiff, Int.reducePow, Int.reduceToNat, Int.reduceNeg, Int.reduceAdd, Int.reduceMul, Int.reduceSub, Int.reduceLT, Int.reduceLE, Int.reduceEq, Nat.zero_add, Int.zero_add, big_eq, true_and, and_true, and_self, dSub_int, dAdd_int, dAddI_int, dLt_int, dLe_int, dGt_int, dGe_int, dEqD_int, bInt_int, bLen_lst, bLen_tup, bMin_int, bMax_int, bAbs_int, dIs_non, dIs_int, dIs_nn, Bool.not_true, Bool.not_false, decide_true, decide_false, reduceIte, Bool.false_eq_true, if_false, if_true, iSeq_lst, iSeq_tup, iSeq_rdl, iEnu_lst, iEnu_tup]
theorem power_ok {b k : Nat} (hb : b < 2 ^ 100) (hk : k ≤ 10000) (s : S) : G_power c [.int b, .int k] s = .ok (.int ((b ^ k : Nat) : Int)) s := by
  apply eq_ok
  unfold G_power
  simp (implicitDefEqProofs := false) only [↓w_lcT, ↓w_mth, ↓w_calm, ↓w_tryM, ↓w_tm0, ↓w_tmN, ↓w_tmS, ↓w_seq, ↓w_next, ↓w_break, ↓w_cont, ↓w_retN, ↓w_asg, ↓w_expr, ↓w_ret, ↓w_if, ↓w_asgG, ↓w_for, ↓w_put, ↓w_aug, ↓w_augS, ↓w_raise0, ↓w_raise1, ↓w_raise2, ↓w_try, ↓w_tryAs, ↓w_var, ↓w_c, ↓w_op, ↓w_chain, ↓w_notV, ↓w_andV, ↓w_orV, ↓w_ifE, ↓w_tst, ↓w_not, ↓w_and, ↓w_or, ↓w_yes, ↓w_nil, ↓w_cons, ↓w_tup, ↓w_lst, ↓w_lstT, ↓w_cb, ↓w_call, ↓w_callK, ↓w_neg, ↓w_no, ↓w_pt, ↓w_sl, ↓w_fld, ↓w_src, ↓w_rng, ↓w_enu, ↓w_listT, ↓w_app, ↓w_lc, ↓w_xf, ↓w_fldT, ↓w_make, ↓w_makeL, ↓w_run, ↓w_cut, ↓w_pure, ↓w_drop, w_ok, w_ex, w_nx, w_rt, w_bk, w_ct, w_exS, w_some, w_v, w_tr, w_fa, w_tb, w_ti, w_tn, w_L, w_L0, wb_not, cn_f, startD, arr, gN_eq, gTp, gCn, gNl, Option.bind_some, List.filterMap_cons, List.filterMap_nil, List.map_cons, List.map_nil, List.replicate_succ, List.replicate_zero, List.cons_append, List.nil_append, List.getElem?_cons_zero, List.getElem?_cons_succ, List.set_cons_zero, List.set_cons_succ, List.length_cons, List.length_nil, Nat.reduceAdd, Nat.reduceSub, Nat.reduceLeDiff, Nat.reduceEqDiff, Int.reducePow, Int.reduceToNat, Int.reduceNeg, Int.reduceAdd, Int.reduceMul, Int.reduceSub, Int.reduceLT, Int.reduceLE, Int.reduceEq, Nat.zero_add, Int.zero_add, big_eq, true_and, and_true, and_self, dSub_int, dAdd_int, dAddI_int, dLt_int, dLe_int, dGt_int, dGe_int, dEqD_int, bInt_int, bLen_lst, bLen_tup, bMin_int, bMax_int, bAbs_int, dIs_non, dIs_int, dIs_nn, Bool.not_true, Bool.not_false, decide_true, decide_false, reduceIte, Bool.false_eq_true, if_false, if_true, iSeq_lst, iSeq_tup, iSeq_rdl, iEnu_lst, iEnu_tup]
  rw [rng1 (by omega) (by omega), w_some, Int.toNat_natCast]
  refine ws_rng (fun i L s' => ∃ y, L = [some (.int b), some (.int k), some (.int ((b ^ i : Nat) : Int)), y] ∧ s' = s) ⟨none, rfl, rfl⟩ ?_ ?_
  · rintro i L s' hi ⟨y, rfl, rfl⟩
    simp (implicitDefEqProofs := false) only [↓w_lcT, ↓w_mth, ↓w_calm, ↓w_tryM, ↓w_tm0, ↓w_tmN, ↓w_tmS, ↓w_seq, ↓w_next, ↓w_break, ↓w_cont, ↓w_retN, ↓w_asg, ↓w_expr, ↓w_ret, ↓w_if, ↓w_asgG, ↓w_for, ↓w_put, ↓w_aug, ↓w_augS, ↓w_raise0, ↓w_raise1, ↓w_raise2, ↓w_try, ↓w_tryAs, ↓w_var, ↓w_c, ↓w_op, ↓w_chain, ↓w_notV, ↓w_andV, ↓w_orV, ↓w_ifE, ↓w_tst, ↓w_not, ↓w_and, ↓w_or, ↓w_yes, ↓w_nil, ↓w_cons, ↓w_tup, ↓w_lst, ↓w_lstT, ↓w_cb, ↓w_call, ↓w_callK, ↓w_neg, ↓w_no, ↓w_pt, ↓w_sl, ↓w_fld, ↓w_src, ↓w_rng, ↓w_enu, ↓w_listT, ↓w_app, ↓w_lc, ↓w_xf, ↓w_fldT, ↓w_make, ↓w_makeL, ↓w_run, ↓w_cut, ↓w_pure, ↓w_drop, w_ok, w_ex, w_nx, w_rt, w_bk, w_ct, w_exS, w_some, w_v, w_tr, w_fa, w_tb, w_ti, w_tn, w_L, w_L0, wb_not, cn_f, startD, arr, gN_eq, gTp, gCn, gNl, Option.bind_some, List.filterMap_cons, List.filterMap_nil, List.map_cons, List.map_nil, List.replicate_succ, List.replicate_zero, List.cons_append, List.nil_append, List.getElem?_cons_zero, List.getElem?_cons_succ, List.set_cons_zero, List.set_cons_succ, List.length_cons, List.length_nil, Nat.reduceAdd, Nat.reduceSub, Nat.reduceLeDiff, Nat.reduceEqDiff, Int.reducePow, Int.reduceToNat, Int.reduceNeg, Int.reduceAdd, Int.reduceMul, Int.reduceSub, Int.reduceLT, Int.reduceLE, Int.reduceEq, Nat.zero_add, Int.zero_add, big_eq, true_and, and_true, and_self, dSub_int, dAdd_int, dAddI_int, dLt_int, dLe_int, dGt_int, dGe_int, dEqD_int, bInt_int, bLen_lst, bLen_tup, bMin_int, bMax_int, bAbs_int, dIs_non, dIs_int, dIs_nn, Bool.not_true, Bool.not_false, decide_true, decide_false, reduceIte, Bool.false_eq_true, if_false, if_true, iSeq_lst, iSeq_tup, iSeq_rdl, iEnu_lst, iEnu_tup]
    have b1 : b ^ i < 2 ^ (100 * i + 1) := by
      have h1 : b ^ i ≤ (2 ^ 100) ^ i := Nat.pow_le_pow_left (by omega) i
      rw [← Nat.pow_mul] at h1
      have h4 : 2 ^ (100 * i) < 2 ^ (100 * i + 1) := Nat.pow_lt_pow_right (by omega) (by omega)
      omega
    rw [dMul_ok (bitsN b1) (bitsN hb) (by omega)]
    simp (implicitDefEqProofs := false) only [↓w_lcT, ↓w_mth, ↓w_calm, ↓w_tryM, ↓w_tm0, ↓w_tmN, ↓w_tmS, ↓w_seq, ↓w_next, ↓w_break, ↓w_cont, ↓w_retN, ↓w_asg, ↓w_expr, ↓w_ret, ↓w_if, ↓w_asgG, ↓w_for, ↓w_put, ↓w_aug, ↓w_augS, ↓w_raise0, ↓w_raise1, ↓w_raise2, ↓w_try, ↓w_tryAs, ↓w_var, ↓w_c, ↓w_op, ↓w_chain, ↓w_notV, ↓w_andV, ↓w_orV, ↓w_ifE, ↓w_tst, ↓w_not, ↓w_and, ↓w_or, ↓w_yes, ↓w_nil, ↓w_cons, ↓w_tup, ↓w_lst, ↓w_lstT, ↓w_cb, ↓w_call, ↓w_callK, ↓w_neg, ↓w_no, ↓w_pt, ↓w_sl, ↓w_fld, ↓w_src, ↓w_rng, ↓w_enu, ↓w_listT, ↓w_app, ↓w_lc, ↓w_xf, ↓w_fldT, ↓w_make, ↓w_makeL, ↓w_run, ↓w_cut, ↓w_pure, ↓w_drop, w_ok, w_ex, w_nx, w_rt, w_bk, w_ct, w_exS, w_some, w_v, w_tr, w_fa, w_tb, w_ti, w_tn, w_L, w_L0, wb_not, cn_f, startD, arr, gN_eq, gTp, gCn, gNl, Option.bind_some, List.filterMap_cons, List.filterMap_nil, List.map_cons, List.map_nil, List.replicate_succ, List.replicate_zero, List.cons_append, List.nil_append, List.getElem?_cons_zero, List.getElem?_cons_succ, List.set_cons_zero, List.set_cons_succ, List.length_cons, List.length_nil, Nat.reduceAdd, Nat.reduceSub, Nat.reduceLeDiff, Nat.reduceEqDiff, Int.reducePow, Int.reduceToNat, Int.reduceNeg, Int.reduceAdd, Int.reduceMul, Int.reduceSub, Int.reduceLT, Int.reduceLE, Int.reduceEq, Nat.zero_add, Int.zero_add, big_eq, true_and, and_true, and_self, dSub_int, dAdd_int, dAddI_int, dLt_int, dLe_int, dGt_int, dGe_int, dEqD_int, bInt_int, bLen_lst, bLen_tup, bMin_int, bMax_int, bAbs_int, dIs_non, dIs_int, dIs_nn, Bool.not_true, Bool.not_false, decide_true, decide_false, reduceIte, Bool.false_eq_true, if_false, if_true, iSeq_lst, iSeq_tup, iSeq_rdl, iEnu_lst, iEnu_tup]
    refine ⟨some (.int (i : Int)), ?_⟩
    rw [Nat.pow_succ, Int.natCast_mul]
  · rintro L s' ⟨y, rfl, rfl⟩
    simp (implicitDefEqProofs := false) only [↓w_lcT, ↓w_mth, ↓w_calm, ↓w_tryM, ↓w_tm0, ↓w_tmN, ↓w_tmS, ↓w_seq, ↓w_next, ↓w_break, ↓w_cont, ↓w_retN, ↓w_asg, ↓w_expr, ↓w_ret, ↓w_if, ↓w_asgG, ↓w_for, ↓w_put, ↓w_aug, ↓w_augS, ↓w_raise0, ↓w_raise1, ↓w_raise2, ↓w_try, ↓w_tryAs, ↓w_var, ↓w_c, ↓w_op, ↓w_chain, ↓w_notV, ↓w_andV, ↓w_orV, ↓w_ifE, ↓w_tst, ↓w_not, ↓w_and, ↓w_or, ↓w_yes, ↓w_nil, ↓w_cons, ↓w_tup, ↓w_lst, ↓w_lstT, ↓w_cb, ↓w_call, ↓w_callK, ↓w_neg, ↓w_no, ↓w_pt, ↓w_sl, ↓w_fld, ↓w_src, ↓w_rng, ↓w_enu, ↓w_listT, ↓w_app, ↓w_lc, ↓w_xf, ↓w_fldT, ↓w_make, ↓w_makeL, ↓w_run, ↓w_cut, ↓w_pure, ↓w_drop, w_ok, w_ex, w_nx, w_rt, w_bk, w_ct, w_exS, w_some, w_v, w_tr, w_fa, w_tb, w_ti, w_tn, w_L, w_L0, wb_not, cn_f, startD, arr, gN_eq, gTp, gCn, gNl, Option.bind_some, List.filterMap_cons, List.filterMap_nil, List.map_cons, List.map_nil, List.replicate_succ, List.replicate_zero, List.cons_append, List.nil_append, List.getElem?_cons_zero, List.getElem?_cons_succ, List.set_cons_zero, List.set_cons_succ, List.length_cons, List.length_nil, Nat.reduceAdd, Nat.reduceSub, Nat.reduceLeDiff, Nat.reduceEqDiff, Int.reducePow, Int.reduceToNat, Int.reduceNeg, Int.reduceAdd, Int.reduceMul, Int.reduceSub, Int.reduceLT, Int.reduceLE, Int.reduceEq, Nat.zero_add, Int.zero_add, big_eq, true_and, and_true, and_self, dSub_int, dAdd_int, dAddI_int, dLt_int, dLe_int, dGt_int, dGe_int, dEqD_int, bInt_int, bLen_lst, bLen_tup, bMin_int, bMax_int, bAbs_int, dIs_non, dIs_int, dIs_nn, Bool.not_true, Bool.not_false, decide_true, decide_false, reduceIte, Bool.false_eq_true, if_false, if_true, iSeq_lst, iSeq_tup, iSeq_rdl, iEnu_lst, iEnu_tup]
/-! ### the number of turns -/
def tD : Option Nat → D
  | none => .non
  | some t => .int t
def OkT (t : Option Nat) : Prop := ∀ n, t = some n → 1 ≤ n ∧ n ≤ 10 ^ 12
theorem OkT.ne {t : Option Nat} (h : OkT t) : t ≠ some 0 := fun e => by
  have := (h 0 e).1
  omega
theorem alt_sum {t d m : Nat} (ht : 0 < t) (K : Nat) (hK : K = min d (m / t)) : smZ (K + 1) (fun k => sg k * (bin d k : Nat) * (bin (m - k * t + d) d : Nat)) = (cnt (some t) d m : Nat) := by
  rw [← cz_nat, ← alt_cz t ht]
  unfold alt
  have e : smZ (d + 1) (altT t d m) = smZ (K + 1) (altT t d m) := smZ_extend (by omega) fun i h1 h2 => by
    unfold altT
    rw [B_neg, Int.mul_zero]
    have h3 : m / t < i := by omega
    have h4 : m < i * t := (Nat.div_lt_iff_lt_mul ht).mp h3
    have : (m : Int) < ((i * t : Nat) : Int) := by exact_mod_cast h4
    rw [Int.natCast_mul] at this
    omega
  rw [e]
  refine smZ_congr fun k hk => ?_
  unfold altT
  have h3 : k ≤ m / t := by omega
  have h4 : k * t ≤ m := (Nat.le_div_iff_mul_le ht).mp h3
  rw [show (m : Int) - (k : Int) * (t : Int) = ((m - k * t : Nat) : Int) by rw [← Int.natCast_mul]; omega, B_nat]
theorem bin_bits {n k : Nat} (hn : n < 2 ^ 100) : bin n k < 2 ^ (100 * k + 1) := by
  have h1 := bin_le_pow n k
  have h3 := pow_lt (k := k) hn
  have h4 : 2 ^ (100 * k) < 2 ^ (100 * k + 1) := Nat.pow_lt_pow_right (by omega) (by omega)
  omega
theorem sg_mod : ∀ n : Nat, sg n = if n % 2 = 1 then -1 else 1
  | 0 => rfl
  | n + 1 => by
    rw [sg, sg_mod n]
    by_cases h : n % 2 = 1
    · rw [if_pos h, if_neg (by omega)]
      rfl
    · rw [if_neg h, if_pos (by omega)]
theorem tuples_ok {t : Option Nat} (ht : OkT t) {d : Nat} {m : Int} (hd : d ≤ 5000) (hm : m < 10 ^ 25) (s : S) : G_tuples_up_to c [.int d, .int m, tD t] s = .ok (.int (cz t d m)) s := by
  have p25 : (10 : Int) ^ 25 = 10000000000000000000000000 := rfl
  have p100 : (2 : Nat) ^ 100 = 1267650600228229401496703205376 := by decide +kernel
  by_cases h0 : m < 0
  · rw [cz_neg h0]
    apply eq_ok
    unfold G_tuples_up_to
    simp (implicitDefEqProofs := false) only [h0, ↓w_lcT, ↓w_mth, ↓w_calm, ↓w_tryM, ↓w_tm0, ↓w_tmN, ↓w_tmS, ↓w_seq, ↓w_next, ↓w_break, ↓w_cont, ↓w_retN, ↓w_asg, ↓w_expr, ↓w_ret, ↓w_if, ↓w_asgG, ↓w_for, ↓w_put, ↓w_aug, ↓w_augS, ↓w_raise0, ↓w_raise1, ↓w_raise2, ↓w_try, ↓w_tryAs, ↓w_var, ↓w_c, ↓w_op, ↓w_chain, ↓w_notV, ↓w_andV, ↓w_orV, ↓w_ifE, ↓w_tst, ↓w_not, ↓w_and, ↓w_or, ↓w_yes, ↓w_nil, ↓w_cons, ↓w_tup, ↓w_lst, ↓w_lstT, ↓w_cb, ↓w_call, ↓w_callK, ↓w_neg, ↓w_no, ↓w_pt, ↓w_sl, ↓w_fld, ↓w_src, ↓w_rng, ↓w_enu, ↓w_listT, ↓w_app, ↓w_lc, ↓w_xf, ↓w_fldT, ↓w_make, ↓w_makeL, ↓w_run, ↓w_cut, ↓w_pure, ↓w_drop, w_ok, w_ex, w_nx, w_rt, w_bk, w_ct, w_exS, w_some, w_v, w_tr, w_fa, w_tb, w_ti, w_tn, w_L, w_L0, wb_not, cn_f, startD, arr, gN_eq, gTp, gCn, gNl, Option.bind_some, List.filterMap_cons, List.filterMap_nil, List.map_cons, List.map_nil, List.replicate_succ, List.replicate_zero, List.cons_append, List.nil_append, List.getElem?_cons_zero, List.getElem?_cons_succ, List.set_cons_zero, List.set_cons_succ, List.length_cons, List.length_nil, Nat.reduceAdd, Nat.reduceSub, Nat.reduceLeDiff, Nat.reduceEqDiff, Int.reducePow, Int.reduceToNat, Int.reduceNeg, Int.reduceAdd, Int.reduceMul, Int.reduceSub, Int.reduceLT, Int.reduceLE, Int.reduceEq, Nat.zero_add, Int.zero_add, big_eq, true_and, and_true, and_self, dSub_int, dAdd_int, dAddI_int, dLt_int, dLe_int, dGt_int, dGe_int, dEqD_int, bInt_int, bLen_lst, bLen_tup, bMin_int, bMax_int, bAbs_int, dIs_non, dIs_int, dIs_nn, Bool.not_true, Bool.not_false, decide_true, decide_false, reduceIte, Bool.false_eq_true, if_false, if_true, iSeq_lst, iSeq_tup, iSeq_rdl, iEnu_lst, iEnu_tup]
  · obtain ⟨k, rfl⟩ := Int.eq_ofNat_of_zero_le (Int.not_lt.mp h0)
    rw [cz_nat]
    apply eq_ok
    unfold G_tuples_up_to
    cases t with
    | none =>
      simp (implicitDefEqProofs := false) only [h0, tD, ↓w_lcT, ↓w_mth, ↓w_calm, ↓w_tryM, ↓w_tm0, ↓w_tmN, ↓w_tmS, ↓w_seq, ↓w_next, ↓w_break, ↓w_cont, ↓w_retN, ↓w_asg, ↓w_expr, ↓w_ret, ↓w_if, ↓w_asgG, ↓w_for, ↓w_put, ↓w_aug, ↓w_augS, ↓w_raise0, ↓w_raise1, ↓w_raise2, ↓w_try, ↓w_tryAs, ↓w_var, ↓w_c, ↓w_op, ↓w_chain, ↓w_notV, ↓w_andV, ↓w_orV, ↓w_ifE, ↓w_tst, ↓w_not, ↓w_and, ↓w_or, ↓w_yes, ↓w_nil, ↓w_cons, ↓w_tup, ↓w_lst, ↓w_lstT, ↓w_cb, ↓w_call, ↓w_callK, ↓w_neg, ↓w_no, ↓w_pt, ↓w_sl, ↓w_fld, ↓w_src, ↓w_rng, ↓w_enu, ↓w_listT, ↓w_app, ↓w_lc, ↓w_xf, ↓w_fldT, ↓w_make, ↓w_makeL, ↓w_run, ↓w_cut, ↓w_pure, ↓w_drop, w_ok, w_ex, w_nx, w_rt, w_bk, w_ct, w_exS, w_some, w_v, w_tr, w_fa, w_tb, w_ti, w_tn, w_L, w_L0, wb_not, cn_f, startD, arr, gN_eq, gTp, gCn, gNl, Option.bind_some, List.filterMap_cons, List.filterMap_nil, List.map_cons, List.map_nil, List.replicate_succ, List.replicate_zero, List.cons_append, List.nil_append, List.getElem?_cons_zero, List.getElem?_cons_succ, List.set_cons_zero, List.set_cons_succ, List.length_cons, List.length_nil, Nat.reduceAdd, Nat.reduceSub, Nat.reduceLeDiff, Nat.reduceEqDiff, Int.reducePow, Int.reduceToNat, Int.reduceNeg, Int.reduceAdd, Int.reduceMul, Int.reduceSub, Int.reduceLT, Int.reduceLE, Int.reduceEq, Nat.zero_add, Int.zero_add, big_eq, true_and, and_true, and_self, dSub_int, dAdd_int, dAddI_int, dLt_int, dLe_int, dGt_int, dGe_int, dEqD_int, bInt_int, bLen_lst, bLen_tup, bMin_int, bMax_int, bAbs_int, dIs_non, dIs_int, dIs_nn, Bool.not_true, Bool.not_false, decide_true, decide_false, reduceIte, Bool.false_eq_true, if_false, if_true, iSeq_lst, iSeq_tup, iSeq_rdl, iEnu_lst, iEnu_tup]
      rw [← Int.natCast_add, choose_ok (by omega) (by omega) (by omega)]
      simp (implicitDefEqProofs := false) only [cnt_none, ↓w_lcT, ↓w_mth, ↓w_calm, ↓w_tryM, ↓w_tm0, ↓w_tmN, ↓w_tmS, ↓w_seq, ↓w_next, ↓w_break, ↓w_cont, ↓w_retN, ↓w_asg, ↓w_expr, ↓w_ret, ↓w_if, ↓w_asgG, ↓w_for, ↓w_put, ↓w_aug, ↓w_augS, ↓w_raise0, ↓w_raise1, ↓w_raise2, ↓w_try, ↓w_tryAs, ↓w_var, ↓w_c, ↓w_op, ↓w_chain, ↓w_notV, ↓w_andV, ↓w_orV, ↓w_ifE, ↓w_tst, ↓w_not, ↓w_and, ↓w_or, ↓w_yes, ↓w_nil, ↓w_cons, ↓w_tup, ↓w_lst, ↓w_lstT, ↓w_cb, ↓w_call, ↓w_callK, ↓w_neg, ↓w_no, ↓w_pt, ↓w_sl, ↓w_fld, ↓w_src, ↓w_rng, ↓w_enu, ↓w_listT, ↓w_app, ↓w_lc, ↓w_xf, ↓w_fldT, ↓w_make, ↓w_makeL, ↓w_run, ↓w_cut, ↓w_pure, ↓w_drop, w_ok, w_ex, w_nx, w_rt, w_bk, w_ct, w_exS, w_some, w_v, w_tr, w_fa, w_tb, w_ti, w_tn, w_L, w_L0, wb_not, cn_f, startD, arr, gN_eq, gTp, gCn, gNl, Option.bind_some, List.filterMap_cons, List.filterMap_nil, List.map_cons, List.map_nil, List.replicate_succ, List.replicate_zero, List.cons_append, List.nil_append, List.getElem?_cons_zero, List.getElem?_cons_succ, List.set_cons_zero, List.set_cons_succ, List.length_cons, List.length_nil, Nat.reduceAdd, Nat.reduceSub, Nat.reduceLeDiff, Nat.reduceEqDiff, Int.reducePow, Int.reduceToNat, Int.reduceNeg, Int.reduceAdd, Int.reduceMul, Int.reduceSub, Int.reduceLT, Int.reduceLE, Int.reduceEq, Nat.zero_add, Int.zero_add, big_eq, true_and, and_true, and_self, dSub_int, dAdd_int, dAddI_int, dLt_int, dLe_int, dGt_int, dGe_int, dEqD_int, bInt_int, bLen_lst, bLen_tup, bMin_int, bMax_int, bAbs_int, dIs_non, dIs_int, dIs_nn, Bool.not_true, Bool.not_false, decide_true, decide_false, reduceIte, Bool.false_eq_true, if_false, if_true, iSeq_lst, iSeq_tup, iSeq_rdl, iEnu_lst, iEnu_tup]
    | some t =>
      obtain ⟨t1, t2⟩ := ht t rfl
      simp (implicitDefEqProofs := false) only [h0, tD, ↓w_lcT, ↓w_mth, ↓w_calm, ↓w_tryM, ↓w_tm0, ↓w_tmN, ↓w_tmS, ↓w_seq, ↓w_next, ↓w_break, ↓w_cont, ↓w_retN, ↓w_asg, ↓w_expr, ↓w_ret, ↓w_if, ↓w_asgG, ↓w_for, ↓w_put, ↓w_aug, ↓w_augS, ↓w_raise0, ↓w_raise1, ↓w_raise2, ↓w_try, ↓w_tryAs, ↓w_var, ↓w_c, ↓w_op, ↓w_chain, ↓w_notV, ↓w_andV, ↓w_orV, ↓w_ifE, ↓w_tst, ↓w_not, ↓w_and, ↓w_or, ↓w_yes, ↓w_nil, ↓w_cons, ↓w_tup, ↓w_lst, ↓w_lstT, ↓w_cb, ↓w_call, ↓w_callK, ↓w_neg, ↓w_no, ↓w_pt, ↓w_sl, ↓w_fld, ↓w_src, ↓w_rng, ↓w_enu, ↓w_listT, ↓w_app, ↓w_lc, ↓w_xf, ↓w_fldT, ↓w_make, ↓w_makeL, ↓w_run, ↓w_cut, ↓w_pure, ↓w_drop, w_ok, w_ex, w_nx, w_rt, w_bk, w_ct, w_exS, w_some, w_v, w_tr, w_fa, w_tb, w_ti, w_tn, w_L, w_L0, wb_not, cn_f, startD, arr, gN_eq, gTp, gCn, gNl, Option.bind_some, List.filterMap_cons, List.filterMap_nil, List.map_cons, List.map_nil, List.replicate_succ, List.replicate_zero, List.cons_append, List.nil_append, List.getElem?_cons_zero, List.getElem?_cons_succ, List.set_cons_zero, List.set_cons_succ, List.length_cons, List.length_nil, Nat.reduceAdd, Nat.reduceSub, Nat.reduceLeDiff, Nat.reduceEqDiff, Int.reducePow, Int.reduceToNat, Int.reduceNeg, Int.reduceAdd, Int.reduceMul, Int.reduceSub, Int.reduceLT, Int.reduceLE, Int.reduceEq, Nat.zero_add, Int.zero_add, big_eq, true_and, and_true, and_self, dSub_int, dAdd_int, dAddI_int, dLt_int, dLe_int, dGt_int, dGe_int, dEqD_int, bInt_int, bLen_lst, bLen_tup, bMin_int, bMax_int, bAbs_int, dIs_non, dIs_int, dIs_nn, Bool.not_true, Bool.not_false, decide_true, decide_false, reduceIte, Bool.false_eq_true, if_false, if_true, iSeq_lst, iSeq_tup, iSeq_rdl, iEnu_lst, iEnu_tup]
      have e1 : (t : Int) - 1 = ((t - 1 : Nat) : Int) := by omega
      rw [e1, dMul_ok (a := 40) (b := 60) (bitsN (by omega)) (bitsN (by omega)) (by omega)]
      simp (implicitDefEqProofs := false) only [↓w_lcT, ↓w_mth, ↓w_calm, ↓w_tryM, ↓w_tm0, ↓w_tmN, ↓w_tmS, ↓w_seq, ↓w_next, ↓w_break, ↓w_cont, ↓w_retN, ↓w_asg, ↓w_expr, ↓w_ret, ↓w_if, ↓w_asgG, ↓w_for, ↓w_put, ↓w_aug, ↓w_augS, ↓w_raise0, ↓w_raise1, ↓w_raise2, ↓w_try, ↓w_tryAs, ↓w_var, ↓w_c, ↓w_op, ↓w_chain, ↓w_notV, ↓w_andV, ↓w_orV, ↓w_ifE, ↓w_tst, ↓w_not, ↓w_and, ↓w_or, ↓w_yes, ↓w_nil, ↓w_cons, ↓w_tup, ↓w_lst, ↓w_lstT, ↓w_cb, ↓w_call, ↓w_callK, ↓w_neg, ↓w_no, ↓w_pt, ↓w_sl, ↓w_fld, ↓w_src, ↓w_rng, ↓w_enu, ↓w_listT, ↓w_app, ↓w_lc, ↓w_xf, ↓w_fldT, ↓w_make, ↓w_makeL, ↓w_run, ↓w_cut, ↓w_pure, ↓w_drop, w_ok, w_ex, w_nx, w_rt, w_bk, w_ct, w_exS, w_some, w_v, w_tr, w_fa, w_tb, w_ti, w_tn, w_L, w_L0, wb_not, cn_f, startD, arr, gN_eq, gTp, gCn, gNl, Option.bind_some, List.filterMap_cons, List.filterMap_nil, List.map_cons, List.map_nil, List.replicate_succ, List.replicate_zero, List.cons_append, List.nil_append, List.getElem?_cons_zero, List.getElem?_cons_succ, List.set_cons_zero, List.set_cons_succ, List.length_cons, List.length_nil, Nat.reduceAdd, Nat.reduceSub, Nat.reduceLeDiff, Nat.reduceEqDiff, Int.reducePow, Int.reduceToNat, Int.reduceNeg, Int.reduceAdd, Int.reduceMul, Int.reduceSub, Int.reduceLT, Int.reduceLE, Int.reduceEq, Nat.zero_add, Int.zero_add, big_eq, true_and, and_true, and_self, dSub_int, dAdd_int, dAddI_int, dLt_int, dLe_int, dGt_int, dGe_int, dEqD_int, bInt_int, bLen_lst, bLen_tup, bMin_int, bMax_int, bAbs_int, dIs_non, dIs_int, dIs_nn, Bool.not_true, Bool.not_false, decide_true, decide_false, reduceIte, Bool.false_eq_true, if_false, if_true, iSeq_lst, iSeq_tup, iSeq_rdl, iEnu_lst, iEnu_tup]
      refine wb_dec (fun h1 => ?_) (fun h1 => ?_)
      · have h2 : d * (t - 1) ≤ k := by exact_mod_cast h1
        simp (implicitDefEqProofs := false) only [power_ok (c := c) (b := t) (k := d) (by omega) (by omega), ↓w_lcT, ↓w_mth, ↓w_calm, ↓w_tryM, ↓w_tm0, ↓w_tmN, ↓w_tmS, ↓w_seq, ↓w_next, ↓w_break, ↓w_cont, ↓w_retN, ↓w_asg, ↓w_expr, ↓w_ret, ↓w_if, ↓w_asgG, ↓w_for, ↓w_put, ↓w_aug, ↓w_augS, ↓w_raise0, ↓w_raise1, ↓w_raise2, ↓w_try, ↓w_tryAs, ↓w_var, ↓w_c, ↓w_op, ↓w_chain, ↓w_notV, ↓w_andV, ↓w_orV, ↓w_ifE, ↓w_tst, ↓w_not, ↓w_and, ↓w_or, ↓w_yes, ↓w_nil, ↓w_cons, ↓w_tup, ↓w_lst, ↓w_lstT, ↓w_cb, ↓w_call, ↓w_callK, ↓w_neg, ↓w_no, ↓w_pt, ↓w_sl, ↓w_fld, ↓w_src, ↓w_rng, ↓w_enu, ↓w_listT, ↓w_app, ↓w_lc, ↓w_xf, ↓w_fldT, ↓w_make, ↓w_makeL, ↓w_run, ↓w_cut, ↓w_pure, ↓w_drop, w_ok, w_ex, w_nx, w_rt, w_bk, w_ct, w_exS, w_some, w_v, w_tr, w_fa, w_tb, w_ti, w_tn, w_L, w_L0, wb_not, cn_f, startD, arr, gN_eq, gTp, gCn, gNl, Option.bind_some, List.filterMap_cons, List.filterMap_nil, List.map_cons, List.map_nil, List.replicate_succ, List.replicate_zero, List.cons_append, List.nil_append, List.getElem?_cons_zero, List.getElem?_cons_succ, List.set_cons_zero, List.set_cons_succ, List.length_cons, List.length_nil, Nat.reduceAdd, Nat.reduceSub, Nat.reduceLeDiff, Nat.reduceEqDiff, Int.reducePow, Int.reduceToNat, Int.reduceNeg, Int.reduceAdd, Int.reduceMul, Int.reduceSub, Int.reduceLT, Int.reduceLE, Int.reduceEq, Nat.zero_add, Int.zero_add, big_eq, true_and, and_true, and_self, dSub_int, dAdd_int, dAddI_int, dLt_int, dLe_int, dGt_int, dGe_int, dEqD_int, bInt_int, bLen_lst, bLen_tup, bMin_int, bMax_int, bAbs_int, dIs_non, dIs_int, dIs_nn, Bool.not_true, Bool.not_false, decide_true, decide_false, reduceIte, Bool.false_eq_true, if_false, if_true, iSeq_lst, iSeq_tup, iSeq_rdl, iEnu_lst, iEnu_tup]
        rw [cnt_full t t1 d k h2]
      · have h2 : k < d * (t - 1) := by exact_mod_cast Int.not_le.mp h1
        obtain ⟨K, hK⟩ : ∃ K, K = min d (k / t) := ⟨_, rfl⟩
        simp (implicitDefEqProofs := false) only [↓w_lcT, ↓w_mth, ↓w_calm, ↓w_tryM, ↓w_tm0, ↓w_tmN, ↓w_tmS, ↓w_seq, ↓w_next, ↓w_break, ↓w_cont, ↓w_retN, ↓w_asg, ↓w_expr, ↓w_ret, ↓w_if, ↓w_asgG, ↓w_for, ↓w_put, ↓w_aug, ↓w_augS, ↓w_raise0, ↓w_raise1, ↓w_raise2, ↓w_try, ↓w_tryAs, ↓w_var, ↓w_c, ↓w_op, ↓w_chain, ↓w_notV, ↓w_andV, ↓w_orV, ↓w_ifE, ↓w_tst, ↓w_not, ↓w_and, ↓w_or, ↓w_yes, ↓w_nil, ↓w_cons, ↓w_tup, ↓w_lst, ↓w_lstT, ↓w_cb, ↓w_call, ↓w_callK, ↓w_neg, ↓w_no, ↓w_pt, ↓w_sl, ↓w_fld, ↓w_src, ↓w_rng, ↓w_enu, ↓w_listT, ↓w_app, ↓w_lc, ↓w_xf, ↓w_fldT, ↓w_make, ↓w_makeL, ↓w_run, ↓w_cut, ↓w_pure, ↓w_drop, w_ok, w_ex, w_nx, w_rt, w_bk, w_ct, w_exS, w_some, w_v, w_tr, w_fa, w_tb, w_ti, w_tn, w_L, w_L0, wb_not, cn_f, startD, arr, gN_eq, gTp, gCn, gNl, Option.bind_some, List.filterMap_cons, List.filterMap_nil, List.map_cons, List.map_nil, List.replicate_succ, List.replicate_zero, List.cons_append, List.nil_append, List.getElem?_cons_zero, List.getElem?_cons_succ, List.set_cons_zero, List.set_cons_succ, List.length_cons, List.length_nil, Nat.reduceAdd, Nat.reduceSub, Nat.reduceLeDiff, Nat.reduceEqDiff, Int.reducePow, Int.reduceToNat, Int.reduceNeg, Int.reduceAdd, Int.reduceMul, Int.reduceSub, Int.reduceLT, Int.reduceLE, Int.reduceEq, Nat.zero_add, Int.zero_add, big_eq, true_and, and_true, and_self, dSub_int, dAdd_int, dAddI_int, dLt_int, dLe_int, dGt_int, dGe_int, dEqD_int, bInt_int, bLen_lst, bLen_tup, bMin_int, bMax_int, bAbs_int, dIs_non, dIs_int, dIs_nn, Bool.not_true, Bool.not_false, decide_true, decide_false, reduceIte, Bool.false_eq_true, if_false, if_true, iSeq_lst, iSeq_tup, iSeq_rdl, iEnu_lst, iEnu_tup]
        rw [dDiv_ok (a := 60) (by omega) (bitsN (by omega)) (by omega)]
        have e2 : min (d : Int) ((k : Int) / (t : Int)) + 1 = ((K + 1 : Nat) : Int) := by
          rw [← Int.natCast_ediv]
          omega
        simp (implicitDefEqProofs := false) only [e2, ↓w_lcT, ↓w_mth, ↓w_calm, ↓w_tryM, ↓w_tm0, ↓w_tmN, ↓w_tmS, ↓w_seq, ↓w_next, ↓w_break, ↓w_cont, ↓w_retN, ↓w_asg, ↓w_expr, ↓w_ret, ↓w_if, ↓w_asgG, ↓w_for, ↓w_put, ↓w_aug, ↓w_augS, ↓w_raise0, ↓w_raise1, ↓w_raise2, ↓w_try, ↓w_tryAs, ↓w_var, ↓w_c, ↓w_op, ↓w_chain, ↓w_notV, ↓w_andV, ↓w_orV, ↓w_ifE, ↓w_tst, ↓w_not, ↓w_and, ↓w_or, ↓w_yes, ↓w_nil, ↓w_cons, ↓w_tup, ↓w_lst, ↓w_lstT, ↓w_cb, ↓w_call, ↓w_callK, ↓w_neg, ↓w_no, ↓w_pt, ↓w_sl, ↓w_fld, ↓w_src, ↓w_rng, ↓w_enu, ↓w_listT, ↓w_app, ↓w_lc, ↓w_xf, ↓w_fldT, ↓w_make, ↓w_makeL, ↓w_run, ↓w_cut, ↓w_pure, ↓w_drop, w_ok, w_ex, w_nx, w_rt, w_bk, w_ct, w_exS, w_some, w_v, w_tr, w_fa, w_tb, w_ti, w_tn, w_L, w_L0, wb_not, cn_f, startD, arr, gN_eq, gTp, gCn, gNl, Option.bind_some, List.filterMap_cons, List.filterMap_nil, List.map_cons, List.map_nil, List.replicate_succ, List.replicate_zero, List.cons_append, List.nil_append, List.getElem?_cons_zero, List.getElem?_cons_succ, List.set_cons_zero, List.set_cons_succ, List.length_cons, List.length_nil, Nat.reduceAdd, Nat.reduceSub, Nat.reduceLeDiff, Nat.reduceEqDiff, Int.reducePow, Int.reduceToNat, Int.reduceNeg, Int.reduceAdd, Int.reduceMul, Int.reduceSub, Int.reduceLT, Int.reduceLE, Int.reduceEq, Nat.zero_add, Int.zero_add, big_eq, true_and, and_true, and_self, dSub_int, dAdd_int, dAddI_int, dLt_int, dLe_int, dGt_int, dGe_int, dEqD_int, bInt_int, bLen_lst, bLen_tup, bMin_int, bMax_int, bAbs_int, dIs_non, dIs_int, dIs_nn, Bool.not_true, Bool.not_false, decide_true, decide_false, reduceIte, Bool.false_eq_true, if_false, if_true, iSeq_lst, iSeq_tup, iSeq_rdl, iEnu_lst, iEnu_tup]
        rw [rng1 (by omega) (by omega), w_some, Int.toNat_natCast]
        refine ws_rng (fun i L s' => ∃ y z, L = [some (.int d), some (.int k), some (.int t), some (.int (smZ i fun k' => sg k' * (bin d k' : Nat) * (bin (k - k' * t + d) d : Nat))), y, z] ∧ s' = s) ⟨none, none, rfl, rfl⟩ ?_ ?_
        · rintro i L s' hi ⟨y, z, rfl, rfl⟩
          have hit : i ≤ k / t := by omega
          have hit2 : i * t ≤ k := (Nat.le_div_iff_mul_le t1).mp hit
          simp (implicitDefEqProofs := false) only [↓w_lcT, ↓w_mth, ↓w_calm, ↓w_tryM, ↓w_tm0, ↓w_tmN, ↓w_tmS, ↓w_seq, ↓w_next, ↓w_break, ↓w_cont, ↓w_retN, ↓w_asg, ↓w_expr, ↓w_ret, ↓w_if, ↓w_asgG, ↓w_for, ↓w_put, ↓w_aug, ↓w_augS, ↓w_raise0, ↓w_raise1, ↓w_raise2, ↓w_try, ↓w_tryAs, ↓w_var, ↓w_c, ↓w_op, ↓w_chain, ↓w_notV, ↓w_andV, ↓w_orV, ↓w_ifE, ↓w_tst, ↓w_not, ↓w_and, ↓w_or, ↓w_yes, ↓w_nil, ↓w_cons, ↓w_tup, ↓w_lst, ↓w_lstT, ↓w_cb, ↓w_call, ↓w_callK, ↓w_neg, ↓w_no, ↓w_pt, ↓w_sl, ↓w_fld, ↓w_src, ↓w_rng, ↓w_enu, ↓w_listT, ↓w_app, ↓w_lc, ↓w_xf, ↓w_fldT, ↓w_make, ↓w_makeL, ↓w_run, ↓w_cut, ↓w_pure, ↓w_drop, w_ok, w_ex, w_nx, w_rt, w_bk, w_ct, w_exS, w_some, w_v, w_tr, w_fa, w_tb, w_ti, w_tn, w_L, w_L0, wb_not, cn_f, startD, arr, gN_eq, gTp, gCn, gNl, Option.bind_some, List.filterMap_cons, List.filterMap_nil, List.map_cons, List.map_nil, List.replicate_succ, List.replicate_zero, List.cons_append, List.nil_append, List.getElem?_cons_zero, List.getElem?_cons_succ, List.set_cons_zero, List.set_cons_succ, List.length_cons, List.length_nil, Nat.reduceAdd, Nat.reduceSub, Nat.reduceLeDiff, Nat.reduceEqDiff, Int.reducePow, Int.reduceToNat, Int.reduceNeg, Int.reduceAdd, Int.reduceMul, Int.reduceSub, Int.reduceLT, Int.reduceLE, Int.reduceEq, Nat.zero_add, Int.zero_add, big_eq, true_and, and_true, and_self, dSub_int, dAdd_int, dAddI_int, dLt_int, dLe_int, dGt_int, dGe_int, dEqD_int, bInt_int, bLen_lst, bLen_tup, bMin_int, bMax_int, bAbs_int, dIs_non, dIs_int, dIs_nn, Bool.not_true, Bool.not_false, decide_true, decide_false, reduceIte, Bool.false_eq_true, if_false, if_true, iSeq_lst, iSeq_tup, iSeq_rdl, iEnu_lst, iEnu_tup]
          rw [choose_ok (by omega) (by omega) (by omega)]
          simp (implicitDefEqProofs := false) only [↓w_lcT, ↓w_mth, ↓w_calm, ↓w_tryM, ↓w_tm0, ↓w_tmN, ↓w_tmS, ↓w_seq, ↓w_next, ↓w_break, ↓w_cont, ↓w_retN, ↓w_asg, ↓w_expr, ↓w_ret, ↓w_if, ↓w_asgG, ↓w_for, ↓w_put, ↓w_aug, ↓w_augS, ↓w_raise0, ↓w_raise1, ↓w_raise2, ↓w_try, ↓w_tryAs, ↓w_var, ↓w_c, ↓w_op, ↓w_chain, ↓w_notV, ↓w_andV, ↓w_orV, ↓w_ifE, ↓w_tst, ↓w_not, ↓w_and, ↓w_or, ↓w_yes, ↓w_nil, ↓w_cons, ↓w_tup, ↓w_lst, ↓w_lstT, ↓w_cb, ↓w_call, ↓w_callK, ↓w_neg, ↓w_no, ↓w_pt, ↓w_sl, ↓w_fld, ↓w_src, ↓w_rng, ↓w_enu, ↓w_listT, ↓w_app, ↓w_lc, ↓w_xf, ↓w_fldT, ↓w_make, ↓w_makeL, ↓w_run, ↓w_cut, ↓w_pure, ↓w_drop, w_ok, w_ex, w_nx, w_rt, w_bk, w_ct, w_exS, w_some, w_v, w_tr, w_fa, w_tb, w_ti, w_tn, w_L, w_L0, wb_not, cn_f, startD, arr, gN_eq, gTp, gCn, gNl, Option.bind_some, List.filterMap_cons, List.filterMap_nil, List.map_cons, List.map_nil, List.replicate_succ, List.replicate_zero, List.cons_append, List.nil_append, List.getElem?_cons_zero, List.getElem?_cons_succ, List.set_cons_zero, List.set_cons_succ, List.length_cons, List.length_nil, Nat.reduceAdd, Nat.reduceSub, Nat.reduceLeDiff, Nat.reduceEqDiff, Int.reducePow, Int.reduceToNat, Int.reduceNeg, Int.reduceAdd, Int.reduceMul, Int.reduceSub, Int.reduceLT, Int.reduceLE, Int.reduceEq, Nat.zero_add, Int.zero_add, big_eq, true_and, and_true, and_self, dSub_int, dAdd_int, dAddI_int, dLt_int, dLe_int, dGt_int, dGe_int, dEqD_int, bInt_int, bLen_lst, bLen_tup, bMin_int, bMax_int, bAbs_int, dIs_non, dIs_int, dIs_nn, Bool.not_true, Bool.not_false, decide_true, decide_false, reduceIte, Bool.false_eq_true, if_false, if_true, iSeq_lst, iSeq_tup, iSeq_rdl, iEnu_lst, iEnu_tup]
          rw [dMul_ok (a := 60) (b := 60) (bitsN (by omega)) (bitsN (by omega)) (by omega)]
          simp (implicitDefEqProofs := false) only [↓w_lcT, ↓w_mth, ↓w_calm, ↓w_tryM, ↓w_tm0, ↓w_tmN, ↓w_tmS, ↓w_seq, ↓w_next, ↓w_break, ↓w_cont, ↓w_retN, ↓w_asg, ↓w_expr, ↓w_ret, ↓w_if, ↓w_asgG, ↓w_for, ↓w_put, ↓w_aug, ↓w_augS, ↓w_raise0, ↓w_raise1, ↓w_raise2, ↓w_try, ↓w_tryAs, ↓w_var, ↓w_c, ↓w_op, ↓w_chain, ↓w_notV, ↓w_andV, ↓w_orV, ↓w_ifE, ↓w_tst, ↓w_not, ↓w_and, ↓w_or, ↓w_yes, ↓w_nil, ↓w_cons, ↓w_tup, ↓w_lst, ↓w_lstT, ↓w_cb, ↓w_call, ↓w_callK, ↓w_neg, ↓w_no, ↓w_pt, ↓w_sl, ↓w_fld, ↓w_src, ↓w_rng, ↓w_enu, ↓w_listT, ↓w_app, ↓w_lc, ↓w_xf, ↓w_fldT, ↓w_make, ↓w_makeL, ↓w_run, ↓w_cut, ↓w_pure, ↓w_drop, w_ok, w_ex, w_nx, w_rt, w_bk, w_ct, w_exS, w_some, w_v, w_tr, w_fa, w_tb, w_ti, w_tn, w_L, w_L0, wb_not, cn_f, startD, arr, gN_eq, gTp, gCn, gNl, Option.bind_some, List.filterMap_cons, List.filterMap_nil, List.map_cons, List.map_nil, List.replicate_succ, List.replicate_zero, List.cons_append, List.nil_append, List.getElem?_cons_zero, List.getElem?_cons_succ, List.set_cons_zero, List.set_cons_succ, List.length_cons, List.length_nil, Nat.reduceAdd, Nat.reduceSub, Nat.reduceLeDiff, Nat.reduceEqDiff, Int.reducePow, Int.reduceToNat, Int.reduceNeg, Int.reduceAdd, Int.reduceMul, Int.reduceSub, Int.reduceLT, Int.reduceLE, Int.reduceEq, Nat.zero_add, Int.zero_add, big_eq, true_and, and_true, and_self, dSub_int, dAdd_int, dAddI_int, dLt_int, dLe_int, dGt_int, dGe_int, dEqD_int, bInt_int, bLen_lst, bLen_tup, bMin_int, bMax_int, bAbs_int, dIs_non, dIs_int, dIs_nn, Bool.not_true, Bool.not_false, decide_true, decide_false, reduceIte, Bool.false_eq_true, if_false, if_true, iSeq_lst, iSeq_tup, iSeq_rdl, iEnu_lst, iEnu_tup]
          rw [show (k : Int) - (i : Int) * (t : Int) + (d : Int) = ((k - i * t + d : Nat) : Int) by rw [← Int.natCast_mul]; omega, choose_ok (by omega) (by omega) (by omega)]
          simp (implicitDefEqProofs := false) only [↓w_lcT, ↓w_mth, ↓w_calm, ↓w_tryM, ↓w_tm0, ↓w_tmN, ↓w_tmS, ↓w_seq, ↓w_next, ↓w_break, ↓w_cont, ↓w_retN, ↓w_asg, ↓w_expr, ↓w_ret, ↓w_if, ↓w_asgG, ↓w_for, ↓w_put, ↓w_aug, ↓w_augS, ↓w_raise0, ↓w_raise1, ↓w_raise2, ↓w_try, ↓w_tryAs, ↓w_var, ↓w_c, ↓w_op, ↓w_chain, ↓w_notV, ↓w_andV, ↓w_orV, ↓w_ifE, ↓w_tst, ↓w_not, ↓w_and, ↓w_or, ↓w_yes, ↓w_nil, ↓w_cons, ↓w_tup, ↓w_lst, ↓w_lstT, ↓w_cb, ↓w_call, ↓w_callK, ↓w_neg, ↓w_no, ↓w_pt, ↓w_sl, ↓w_fld, ↓w_src, ↓w_rng, ↓w_enu, ↓w_listT, ↓w_app, ↓w_lc, ↓w_xf, ↓w_fldT, ↓w_make, ↓w_makeL, ↓w_run, ↓w_cut, ↓w_pure, ↓w_drop, w_ok, w_ex, w_nx, w_rt, w_bk, w_ct, w_exS, w_some, w_v, w_tr, w_fa, w_tb, w_ti, w_tn, w_L, w_L0, wb_not, cn_f, startD, arr, gN_eq, gTp, gCn, gNl, Option.bind_some, List.filterMap_cons, List.filterMap_nil, List.map_cons, List.map_nil, List.replicate_succ, List.replicate_zero, List.cons_append, List.nil_append, List.getElem?_cons_zero, List.getElem?_cons_succ, List.set_cons_zero, List.set_cons_succ, List.length_cons, List.length_nil, Nat.reduceAdd, Nat.reduceSub, Nat.reduceLeDiff, Nat.reduceEqDiff, Int.reducePow, Int.reduceToNat, Int.reduceNeg, Int.reduceAdd, Int.reduceMul, Int.reduceSub, Int.reduceLT, Int.reduceLE, Int.reduceEq, Nat.zero_add, Int.zero_add, big_eq, true_and, and_true, and_self, dSub_int, dAdd_int, dAddI_int, dLt_int, dLe_int, dGt_int, dGe_int, dEqD_int, bInt_int, bLen_lst, bLen_tup, bMin_int, bMax_int, bAbs_int, dIs_non, dIs_int, dIs_nn, Bool.not_true, Bool.not_false, decide_true, decide_false, reduceIte, Bool.false_eq_true, if_false, if_true, iSeq_lst, iSeq_tup, iSeq_rdl, iEnu_lst, iEnu_tup]
          rw [dMul_ok (bitsN (bin_bits (by omega))) (bitsN (bin_bits (by omega))) (by omega)]
          simp (implicitDefEqProofs := false) only [↓w_lcT, ↓w_mth, ↓w_calm, ↓w_tryM, ↓w_tm0, ↓w_tmN, ↓w_tmS, ↓w_seq, ↓w_next, ↓w_break, ↓w_cont, ↓w_retN, ↓w_asg, ↓w_expr, ↓w_ret, ↓w_if, ↓w_asgG, ↓w_for, ↓w_put, ↓w_aug, ↓w_augS, ↓w_raise0, ↓w_raise1, ↓w_raise2, ↓w_try, ↓w_tryAs, ↓w_var, ↓w_c, ↓w_op, ↓w_chain, ↓w_notV, ↓w_andV, ↓w_orV, ↓w_ifE, ↓w_tst, ↓w_not, ↓w_and, ↓w_or, ↓w_yes, ↓w_nil, ↓w_cons, ↓w_tup, ↓w_lst, ↓w_lstT, ↓w_cb, ↓w_call, ↓w_callK, ↓w_neg, ↓w_no, ↓w_pt, ↓w_sl, ↓w_fld, ↓w_src, ↓w_rng, ↓w_enu, ↓w_listT, ↓w_app, ↓w_lc, ↓w_xf, ↓w_fldT, ↓w_make, ↓w_makeL, ↓w_run, ↓w_cut, ↓w_pure, ↓w_drop, w_ok, w_ex, w_nx, w_rt, w_bk, w_ct, w_exS, w_some, w_v, w_tr, w_fa, w_tb, w_ti, w_tn, w_L, w_L0, wb_not, cn_f, startD, arr, gN_eq, gTp, gCn, gNl, Option.bind_some, List.filterMap_cons, List.filterMap_nil, List.map_cons, List.map_nil, List.replicate_succ, List.replicate_zero, List.cons_append, List.nil_append, List.getElem?_cons_zero, List.getElem?_cons_succ, List.set_cons_zero, List.set_cons_succ, List.length_cons, List.length_nil, Nat.reduceAdd, Nat.reduceSub, Nat.reduceLeDiff, Nat.reduceEqDiff, Int.reducePow, Int.reduceToNat, Int.reduceNeg, Int.reduceAdd, Int.reduceMul, Int.reduceSub, Int.reduceLT, Int.reduceLE, Int.reduceEq, Nat.zero_add, Int.zero_add, big_eq, true_and, and_true, and_self, dSub_int, dAdd_int, dAddI_int, dLt_int, dLe_int, dGt_int, dGe_int, dEqD_int, bInt_int, bLen_lst, bLen_tup, bMin_int, bMax_int, bAbs_int, dIs_non, dIs_int, dIs_nn, Bool.not_true, Bool.not_false, decide_true, decide_false, reduceIte, Bool.false_eq_true, if_false, if_true, iSeq_lst, iSeq_tup, iSeq_rdl, iEnu_lst, iEnu_tup]
          rw [dMod_int (by decide)]
          simp (implicitDefEqProofs := false) only [↓w_lcT, ↓w_mth, ↓w_calm, ↓w_tryM, ↓w_tm0, ↓w_tmN, ↓w_tmS, ↓w_seq, ↓w_next, ↓w_break, ↓w_cont, ↓w_retN, ↓w_asg, ↓w_expr, ↓w_ret, ↓w_if, ↓w_asgG, ↓w_for, ↓w_put, ↓w_aug, ↓w_augS, ↓w_raise0, ↓w_raise1, ↓w_raise2, ↓w_try, ↓w_tryAs, ↓w_var, ↓w_c, ↓w_op, ↓w_chain, ↓w_notV, ↓w_andV, ↓w_orV, ↓w_ifE, ↓w_tst, ↓w_not, ↓w_and, ↓w_or, ↓w_yes, ↓w_nil, ↓w_cons, ↓w_tup, ↓w_lst, ↓w_lstT, ↓w_cb, ↓w_call, ↓w_callK, ↓w_neg, ↓w_no, ↓w_pt, ↓w_sl, ↓w_fld, ↓w_src, ↓w_rng, ↓w_enu, ↓w_listT, ↓w_app, ↓w_lc, ↓w_xf, ↓w_fldT, ↓w_make, ↓w_makeL, ↓w_run, ↓w_cut, ↓w_pure, ↓w_drop, w_ok, w_ex, w_nx, w_rt, w_bk, w_ct, w_exS, w_some, w_v, w_tr, w_fa, w_tb, w_ti, w_tn, w_L, w_L0, wb_not, cn_f, startD, arr, gN_eq, gTp, gCn, gNl, Option.bind_some, List.filterMap_cons, List.filterMap_nil, List.map_cons, List.map_nil, List.replicate_succ, List.replicate_zero, List.cons_append, List.nil_append, List.getElem?_cons_zero, List.getElem?_cons_succ, List.set_cons_zero, List.set_cons_succ, List.length_cons, List.length_nil, Nat.reduceAdd, Nat.reduceSub, Nat.reduceLeDiff, Nat.reduceEqDiff, Int.reducePow, Int.reduceToNat, Int.reduceNeg, Int.reduceAdd, Int.reduceMul, Int.reduceSub, Int.reduceLT, Int.reduceLE, Int.reduceEq, Nat.zero_add, Int.zero_add, big_eq, true_and, and_true, and_self, dSub_int, dAdd_int, dAddI_int, dLt_int, dLe_int, dGt_int, dGe_int, dEqD_int, bInt_int, bLen_lst, bLen_tup, bMin_int, bMax_int, bAbs_int, dIs_non, dIs_int, dIs_nn, Bool.not_true, Bool.not_false, decide_true, decide_false, reduceIte, Bool.false_eq_true, if_false, if_true, iSeq_lst, iSeq_tup, iSeq_rdl, iEnu_lst, iEnu_tup]
          rw [smZ, sg_mod i]
          by_cases hp : i % 2 = 1
          · simp (implicitDefEqProofs := false) only [show (i : Int) % 2 = 1 by omega, hp, ↓w_lcT, ↓w_mth, ↓w_calm, ↓w_tryM, ↓w_tm0, ↓w_tmN, ↓w_tmS, ↓w_seq, ↓w_next, ↓w_break, ↓w_cont, ↓w_retN, ↓w_asg, ↓w_expr, ↓w_ret, ↓w_if, ↓w_asgG, ↓w_for, ↓w_put, ↓w_aug, ↓w_augS, ↓w_raise0, ↓w_raise1, ↓w_raise2, ↓w_try, ↓w_tryAs, ↓w_var, ↓w_c, ↓w_op, ↓w_chain, ↓w_notV, ↓w_andV, ↓w_orV, ↓w_ifE, ↓w_tst, ↓w_not, ↓w_and, ↓w_or, ↓w_yes, ↓w_nil, ↓w_cons, ↓w_tup, ↓w_lst, ↓w_lstT, ↓w_cb, ↓w_call, ↓w_callK, ↓w_neg, ↓w_no, ↓w_pt, ↓w_sl, ↓w_fld, ↓w_src, ↓w_rng, ↓w_enu, ↓w_listT, ↓w_app, ↓w_lc, ↓w_xf, ↓w_fldT, ↓w_make, ↓w_makeL, ↓w_run, ↓w_cut, ↓w_pure, ↓w_drop, w_ok, w_ex, w_nx, w_rt, w_bk, w_ct, w_exS, w_some, w_v, w_tr, w_fa, w_tb, w_ti, w_tn, w_L, w_L0, wb_not, cn_f, startD, arr, gN_eq, gTp, gCn, gNl, Option.bind_some, List.filterMap_cons, List.filterMap_nil, List.map_cons, List.map_nil, List.replicate_succ, List.replicate_zero, List.cons_append, List.nil_append, List.getElem?_cons_zero, List.getElem?_cons_succ, List.set_cons_zero, List.set_cons_succ, List.length_cons, List.length_nil, Nat.reduceAdd, Nat.reduceSub, Nat.reduceLeDiff, Nat.reduceEqDiff, Int.reducePow, Int.reduceToNat, Int.reduceNeg, Int.reduceAdd, Int.reduceMul, Int.reduceSub, Int.reduceLT, Int.reduceLE, Int.reduceEq, Nat.zero_add, Int.zero_add, big_eq, true_and, and_true, and_self, dSub_int, dAdd_int, dAddI_int, dLt_int, dLe_int, dGt_int, dGe_int, dEqD_int, bInt_int, bLen_lst, bLen_tup, bMin_int, bMax_int, bAbs_int, dIs_non, dIs_int, dIs_nn, Bool.not_true, Bool.not_false, decide_true, decide_false, reduceIte, Bool.false_eq_true, if_false, if_true, iSeq_lst, iSeq_tup, iSeq_rdl, iEnu_lst, iEnu_tup]
            exact ⟨_, _, by rw [Int.neg_mul, Int.neg_mul, Int.one_mul]; rfl⟩
          · simp (implicitDefEqProofs := false) only [show ¬ (i : Int) % 2 = 1 by omega, hp, ↓w_lcT, ↓w_mth, ↓w_calm, ↓w_tryM, ↓w_tm0, ↓w_tmN, ↓w_tmS, ↓w_seq, ↓w_next, ↓w_break, ↓w_cont, ↓w_retN, ↓w_asg, ↓w_expr, ↓w_ret, ↓w_if, ↓w_asgG, ↓w_for, ↓w_put, ↓w_aug, ↓w_augS, ↓w_raise0, ↓w_raise1, ↓w_raise2, ↓w_try, ↓w_tryAs, ↓w_var, ↓w_c, ↓w_op, ↓w_chain, ↓w_notV, ↓w_andV, ↓w_orV, ↓w_ifE, ↓w_tst, ↓w_not, ↓w_and, ↓w_or, ↓w_yes, ↓w_nil, ↓w_cons, ↓w_tup, ↓w_lst, ↓w_lstT, ↓w_cb, ↓w_call, ↓w_callK, ↓w_neg, ↓w_no, ↓w_pt, ↓w_sl, ↓w_fld, ↓w_src, ↓w_rng, ↓w_enu, ↓w_listT, ↓w_app, ↓w_lc, ↓w_xf, ↓w_fldT, ↓w_make, ↓w_makeL, ↓w_run, ↓w_cut, ↓w_pure, ↓w_drop, w_ok, w_ex, w_nx, w_rt, w_bk, w_ct, w_exS, w_some, w_v, w_tr, w_fa, w_tb, w_ti, w_tn, w_L, w_L0, wb_not, cn_f, startD, arr, gN_eq, gTp, gCn, gNl, Option.bind_some, List.filterMap_cons, List.filterMap_nil, List.map_cons, List.map_nil, List.replicate_succ, List.replicate_zero, List.cons_append, List.nil_append, List.getElem?_cons_zero, List.getElem?_cons_succ, List.set_cons_zero, List.set_cons_succ, List.length_cons, List.length_nil, Nat.reduceAdd, Nat.reduceSub, Nat.reduceLeDiff, Nat.reduceEqDiff, Int.reducePow, Int.reduceToNat, Int.reduceNeg, Int.reduceAdd, Int.reduceMul, Int.reduceSub, Int.reduceLT, Int.reduceLE, Int.reduceEq, Nat.zero_add, Int.zero_add, big_eq, true_and, and_true, and_self, dSub_int, dAdd_int, dAddI_int, dLt_int, dLe_int, dGt_int, dGe_int, dEqD_int, bInt_int, bLen_lst, bLen_tup, bMin_int, bMax_int, bAbs_int, dIs_non, dIs_int, dIs_nn, Bool.not_true, Bool.not_false, decide_true, decide_false, reduceIte, Bool.false_eq_true, if_false, if_true, iSeq_lst, iSeq_tup, iSeq_rdl, iEnu_lst, iEnu_tup]
            exact ⟨_, _, by rw [Int.one_mul]⟩
        · rintro L s' ⟨y, z, rfl, rfl⟩
          simp (implicitDefEqProofs := false) only [alt_sum t1 K hK, ↓w_lcT, ↓w_mth, ↓w_calm, ↓w_tryM, ↓w_tm0, ↓w_tmN, ↓w_tmS, ↓w_seq, ↓w_next, ↓w_break, ↓w_cont, ↓w_retN, ↓w_asg, ↓w_expr, ↓w_ret, ↓w_if, ↓w_asgG, ↓w_for, ↓w_put, ↓w_aug, ↓w_augS, ↓w_raise0, ↓w_raise1, ↓w_raise2, ↓w_try, ↓w_tryAs, ↓w_var, ↓w_c, ↓w_op, ↓w_chain, ↓w_notV, ↓w_andV, ↓w_orV, ↓w_ifE, ↓w_tst, ↓w_not, ↓w_and, ↓w_or, ↓w_yes, ↓w_nil, ↓w_cons, ↓w_tup, ↓w_lst, ↓w_lstT, ↓w_cb, ↓w_call, ↓w_callK, ↓w_neg, ↓w_no, ↓w_pt, ↓w_sl, ↓w_fld, ↓w_src, ↓w_rng, ↓w_enu, ↓w_listT, ↓w_app, ↓w_lc, ↓w_xf, ↓w_fldT, ↓w_make, ↓w_makeL, ↓w_run, ↓w_cut, ↓w_pure, ↓w_drop, w_ok, w_ex, w_nx, w_rt, w_bk, w_ct, w_exS, w_some, w_v, w_tr, w_fa, w_tb, w_ti, w_tn, w_L, w_L0, wb_not, cn_f, startD, arr, gN_eq, gTp, gCn, gNl, Option.bind_some, List.filterMap_cons, List.filterMap_nil, List.map_cons, List.map_nil, List.replicate_succ, List.replicate_zero, List.cons_append, List.nil_append, List.getElem?_cons_zero, List.getElem?_cons_succ, List.set_cons_zero, List.set_cons_succ, List.length_cons, List.length_nil, Nat.reduceAdd, Nat.reduceSub, Nat.reduceLeDiff, Nat.reduceEqDiff, Int.reducePow, Int.reduceToNat, Int.reduceNeg, Int.reduceAdd, Int.reduceMul, Int.reduceSub, Int.reduceLT, Int.reduceLE, Int.reduceEq, Nat.zero_add, Int.zero_add, big_eq, true_and, and_true, and_self, dSub_int, dAdd_int, dAddI_int, dLt_int, dLe_int, dGt_int, dGe_int, dEqD_int, bInt_int, bLen_lst, bLen_tup, bMin_int, bMax_int, bAbs_int, dIs_non, dIs_int, dIs_nn, Bool.not_true, Bool.not_false, decide_true, decide_false, reduceIte, Bool.false_eq_true, if_false, if_true, iSeq_lst, iSeq_tup, iSeq_rdl, iEnu_lst, iEnu_tup]
/-! ### machines -/
structure Mc where
  o : Int
  l : Int
  g : Int
namespace Mc
def letter (M : Mc) : Int := 2 * M.o + M.l
def gap (M : Mc) : Int := max M.o M.g
structure Ok (M : Mc) : Prop where
  o0 : 0 ≤ M.o
  o1 : M.o ≤ 1000000000
  l0 : 0 ≤ M.l
  l1 : M.l ≤ 1000000000
  g0 : 1 ≤ M.g
  g1 : M.g ≤ 1000000000
  z : 0 < 2 * M.o + M.l
def d (M : Mc) (c : Cl) : D := .ins c.Machine ["o", "l", "g", "letter", "gap"] [.int M.o, .int M.l, .int M.g, .int M.letter, .int M.gap]
variable {M : Mc}
theorem Ok.letter0 (h : M.Ok) : 1 ≤ M.letter := by
  have := h.z
  unfold letter
  omega
theorem Ok.letter1 (h : M.Ok) : M.letter ≤ 3000000000 := by
  have := h.o1
  have := h.l1
  unfold letter
  omega
theorem Ok.gap0 (h : M.Ok) : 1 ≤ M.gap := by
  have := h.g0
  unfold gap
  omega
theorem Ok.gap1 (h : M.Ok) : M.gap ≤ 1000000000 := by
  have := h.g1
  have := h.o1
  unfold gap
  omega
end Mc
variable {M : Mc}
theorem fld_any {s : S} {n : Str} {r : D} (hn : (List.zip (["o", "l", "g", "letter", "gap"] : List Str) [D.int M.o, .int M.l, .int M.g, .int M.letter, .int M.gap]).lookup n = some r) : fldOf s [c.Machine] n (M.d c) = some r := by
  unfold fldOf
  show (if c.Machine ∈ [c.Machine] then _ else _) = _
  rw [if_pos (List.mem_singleton.mpr rfl)]
  exact hn
theorem fld_o (s : S) : fldOf s [c.Machine] "o" (M.d c) = some (.int M.o) := fld_any rfl
theorem fld_l (s : S) : fldOf s [c.Machine] "l" (M.d c) = some (.int M.l) := fld_any rfl
theorem fld_g (s : S) : fldOf s [c.Machine] "g" (M.d c) = some (.int M.g) := fld_any rfl
theorem fld_letter (s : S) : fldOf s [c.Machine] "letter" (M.d c) = some (.int M.letter) := fld_any rfl
theorem fld_gap (s : S) : fldOf s [c.Machine] "gap" (M.d c) = some (.int M.gap) := fld_any rfl
def hor (M : Mc) (t : Option Nat) : Int := match t with
  | none => 120 * M.letter
  | some _ => 40 * M.letter
theorem horizon_ok (hM : M.Ok) (t : Option Nat) (s : S) : G_horizon c [M.d c, tD t] s = .ok (.int (hor M t)) s := by
  have l0 := hM.letter0
  have l1 := hM.letter1
  apply eq_ok
  unfold G_horizon
  cases t with
  | none =>
    simp (implicitDefEqProofs := false) only [tD, fld_letter, ↓w_lcT, ↓w_mth, ↓w_calm, ↓w_tryM, ↓w_tm0, ↓w_tmN, ↓w_tmS, ↓w_seq, ↓w_next, ↓w_break, ↓w_cont, ↓w_retN, ↓w_asg, ↓w_expr, ↓w_ret, ↓w_if, ↓w_asgG, ↓w_for, ↓w_put, ↓w_aug, ↓w_augS, ↓w_raise0, ↓w_raise1, ↓w_raise2, ↓w_try, ↓w_tryAs, ↓w_var, ↓w_c, ↓w_op, ↓w_chain, ↓w_notV, ↓w_andV, ↓w_orV, ↓w_ifE, ↓w_tst, ↓w_not, ↓w_and, ↓w_or, ↓w_yes, ↓w_nil, ↓w_cons, ↓w_tup, ↓w_lst, ↓w_lstT, ↓w_cb, ↓w_call, ↓w_callK, ↓w_neg, ↓w_no, ↓w_pt, ↓w_sl, ↓w_fld, ↓w_src, ↓w_rng, ↓w_enu, ↓w_listT, ↓w_app, ↓w_lc, ↓w_xf, ↓w_fldT, ↓w_make, ↓w_makeL, ↓w_run, ↓w_cut, ↓w_pure, ↓w_drop, w_ok, w_ex, w_nx, w_rt, w_bk, w_ct, w_exS, w_some, w_v, w_tr, w_fa, w_tb, w_ti, w_tn, w_L, w_L0, wb_not, cn_f, startD, arr, gN_eq, gTp, gCn, gNl, Option.bind_some, List.filterMap_cons, List.filterMap_nil, List.map_cons, List.map_nil, List.replicate_succ, List.replicate_zero, List.cons_append, List.nil_append, List.getElem?_cons_zero, List.getElem?_cons_succ, List.set_cons_zero, List.set_cons_succ, List.length_cons, List.length_nil, Nat.reduceAdd, Nat.reduceSub, Nat.reduceLeDiff, Nat.reduceEqDiff, Int.reducePow, Int.reduceToNat, Int.reduceNeg, Int.reduceAdd, Int.reduceMul, Int.reduceSub, Int.reduceLT, Int.reduceLE, Int.reduceEq, Nat.zero_add, Int.zero_add, big_eq, true_and, and_true, and_self, dSub_int, dAdd_int, dAddI_int, dLt_int, dLe_int, dGt_int, dGe_int, dEqD_int, bInt_int, bLen_lst, bLen_tup, bMin_int, bMax_int, bAbs_int, dIs_non, dIs_int, dIs_nn, Bool.not_true, Bool.not_false, decide_true, decide_false, reduceIte, Bool.false_eq_true, if_false, if_true, iSeq_lst, iSeq_tup, iSeq_rdl, iEnu_lst, iEnu_tup]
    rw [dMul_small (by omega) (by omega) (by omega) (by omega)]
    simp (implicitDefEqProofs := false) only [hor, ↓w_lcT, ↓w_mth, ↓w_calm, ↓w_tryM, ↓w_tm0, ↓w_tmN, ↓w_tmS, ↓w_seq, ↓w_next, ↓w_break, ↓w_cont, ↓w_retN, ↓w_asg, ↓w_expr, ↓w_ret, ↓w_if, ↓w_asgG, ↓w_for, ↓w_put, ↓w_aug, ↓w_augS, ↓w_raise0, ↓w_raise1, ↓w_raise2, ↓w_try, ↓w_tryAs, ↓w_var, ↓w_c, ↓w_op, ↓w_chain, ↓w_notV, ↓w_andV, ↓w_orV, ↓w_ifE, ↓w_tst, ↓w_not, ↓w_and, ↓w_or, ↓w_yes, ↓w_nil, ↓w_cons, ↓w_tup, ↓w_lst, ↓w_lstT, ↓w_cb, ↓w_call, ↓w_callK, ↓w_neg, ↓w_no, ↓w_pt, ↓w_sl, ↓w_fld, ↓w_src, ↓w_rng, ↓w_enu, ↓w_listT, ↓w_app, ↓w_lc, ↓w_xf, ↓w_fldT, ↓w_make, ↓w_makeL, ↓w_run, ↓w_cut, ↓w_pure, ↓w_drop, w_ok, w_ex, w_nx, w_rt, w_bk, w_ct, w_exS, w_some, w_v, w_tr, w_fa, w_tb, w_ti, w_tn, w_L, w_L0, wb_not, cn_f, startD, arr, gN_eq, gTp, gCn, gNl, Option.bind_some, List.filterMap_cons, List.filterMap_nil, List.map_cons, List.map_nil, List.replicate_succ, List.replicate_zero, List.cons_append, List.nil_append, List.getElem?_cons_zero, List.getElem?_cons_succ, List.set_cons_zero, List.set_cons_succ, List.length_cons, List.length_nil, Nat.reduceAdd, Nat.reduceSub, Nat.reduceLeDiff, Nat.reduceEqDiff, Int.reducePow, Int.reduceToNat, Int.reduceNeg, Int.reduceAdd, Int.reduceMul, Int.reduceSub, Int.reduceLT, Int.reduceLE, Int.reduceEq, Nat.zero_add, Int.zero_add, big_eq, true_and, and_true, and_self, dSub_int, dAdd_int, dAddI_int, dLt_int, dLe_int, dGt_int, dGe_int, dEqD_int, bInt_int, bLen_lst, bLen_tup, bMin_int, bMax_int, bAbs_int, dIs_non, dIs_int, dIs_nn, Bool.not_true, Bool.not_false, decide_true, decide_false, reduceIte, Bool.false_eq_true, if_false, if_true, iSeq_lst, iSeq_tup, iSeq_rdl, iEnu_lst, iEnu_tup]
  | some t =>
    simp (implicitDefEqProofs := false) only [tD, fld_letter, ↓w_lcT, ↓w_mth, ↓w_calm, ↓w_tryM, ↓w_tm0, ↓w_tmN, ↓w_tmS, ↓w_seq, ↓w_next, ↓w_break, ↓w_cont, ↓w_retN, ↓w_asg, ↓w_expr, ↓w_ret, ↓w_if, ↓w_asgG, ↓w_for, ↓w_put, ↓w_aug, ↓w_augS, ↓w_raise0, ↓w_raise1, ↓w_raise2, ↓w_try, ↓w_tryAs, ↓w_var, ↓w_c, ↓w_op, ↓w_chain, ↓w_notV, ↓w_andV, ↓w_orV, ↓w_ifE, ↓w_tst, ↓w_not, ↓w_and, ↓w_or, ↓w_yes, ↓w_nil, ↓w_cons, ↓w_tup, ↓w_lst, ↓w_lstT, ↓w_cb, ↓w_call, ↓w_callK, ↓w_neg, ↓w_no, ↓w_pt, ↓w_sl, ↓w_fld, ↓w_src, ↓w_rng, ↓w_enu, ↓w_listT, ↓w_app, ↓w_lc, ↓w_xf, ↓w_fldT, ↓w_make, ↓w_makeL, ↓w_run, ↓w_cut, ↓w_pure, ↓w_drop, w_ok, w_ex, w_nx, w_rt, w_bk, w_ct, w_exS, w_some, w_v, w_tr, w_fa, w_tb, w_ti, w_tn, w_L, w_L0, wb_not, cn_f, startD, arr, gN_eq, gTp, gCn, gNl, Option.bind_some, List.filterMap_cons, List.filterMap_nil, List.map_cons, List.map_nil, List.replicate_succ, List.replicate_zero, List.cons_append, List.nil_append, List.getElem?_cons_zero, List.getElem?_cons_succ, List.set_cons_zero, List.set_cons_succ, List.length_cons, List.length_nil, Nat.reduceAdd, Nat.reduceSub, Nat.reduceLeDiff, Nat.reduceEqDiff, Int.reducePow, Int.reduceToNat, Int.reduceNeg, Int.reduceAdd, Int.reduceMul, Int.reduceSub, Int.reduceLT, Int.reduceLE, Int.reduceEq, Nat.zero_add, Int.zero_add, big_eq, true_and, and_true, and_self, dSub_int, dAdd_int, dAddI_int, dLt_int, dLe_int, dGt_int, dGe_int, dEqD_int, bInt_int, bLen_lst, bLen_tup, bMin_int, bMax_int, bAbs_int, dIs_non, dIs_int, dIs_nn, Bool.not_true, Bool.not_false, decide_true, decide_false, reduceIte, Bool.false_eq_true, if_false, if_true, iSeq_lst, iSeq_tup, iSeq_rdl, iEnu_lst, iEnu_tup]
    rw [dMul_small (by omega) (by omega) (by omega) (by omega)]
    simp (implicitDefEqProofs := false) only [hor, ↓w_lcT, ↓w_mth, ↓w_calm, ↓w_tryM, ↓w_tm0, ↓w_tmN, ↓w_tmS, ↓w_seq, ↓w_next, ↓w_break, ↓w_cont, ↓w_retN, ↓w_asg, ↓w_expr, ↓w_ret, ↓w_if, ↓w_asgG, ↓w_for, ↓w_put, ↓w_aug, ↓w_augS, ↓w_raise0, ↓w_raise1, ↓w_raise2, ↓w_try, ↓w_tryAs, ↓w_var, ↓w_c, ↓w_op, ↓w_chain, ↓w_notV, ↓w_andV, ↓w_orV, ↓w_ifE, ↓w_tst, ↓w_not, ↓w_and, ↓w_or, ↓w_yes, ↓w_nil, ↓w_cons, ↓w_tup, ↓w_lst, ↓w_lstT, ↓w_cb, ↓w_call, ↓w_callK, ↓w_neg, ↓w_no, ↓w_pt, ↓w_sl, ↓w_fld, ↓w_src, ↓w_rng, ↓w_enu, ↓w_listT, ↓w_app, ↓w_lc, ↓w_xf, ↓w_fldT, ↓w_make, ↓w_makeL, ↓w_run, ↓w_cut, ↓w_pure, ↓w_drop, w_ok, w_ex, w_nx, w_rt, w_bk, w_ct, w_exS, w_some, w_v, w_tr, w_fa, w_tb, w_ti, w_tn, w_L, w_L0, wb_not, cn_f, startD, arr, gN_eq, gTp, gCn, gNl, Option.bind_some, List.filterMap_cons, List.filterMap_nil, List.map_cons, List.map_nil, List.replicate_succ, List.replicate_zero, List.cons_append, List.nil_append, List.getElem?_cons_zero, List.getElem?_cons_succ, List.set_cons_zero, List.set_cons_succ, List.length_cons, List.length_nil, Nat.reduceAdd, Nat.reduceSub, Nat.reduceLeDiff, Nat.reduceEqDiff, Int.reducePow, Int.reduceToNat, Int.reduceNeg, Int.reduceAdd, Int.reduceMul, Int.reduceSub, Int.reduceLT, Int.reduceLE, Int.reduceEq, Nat.zero_add, Int.zero_add, big_eq, true_and, and_true, and_self, dSub_int, dAdd_int, dAddI_int, dLt_int, dLe_int, dGt_int, dGe_int, dEqD_int, bInt_int, bLen_lst, bLen_tup, bMin_int, bMax_int, bAbs_int, dIs_non, dIs_int, dIs_nn, Bool.not_true, Bool.not_false, decide_true, decide_false, reduceIte, Bool.false_eq_true, if_false, if_true, iSeq_lst, iSeq_tup, iSeq_rdl, iEnu_lst, iEnu_tup]
/-! ### how many are known -/
def FR (M : Mc) (t : Option Nat) (x : Int) : Int := smZ (x / M.letter + 1).toNat fun d => cz t d ((x - d * M.letter) / M.gap)
def FRs (M : Mc) (t : Option Nat) (x : Int) : List Int → Int
  | [] => 0
  | r :: rs => FR M t (x - r) + FRs M t x rs
theorem cz_nonneg (t : Option Nat) (d : Nat) (m : Int) : 0 ≤ cz t d m := by
  unfold cz
  split <;> omega
theorem FR_nonneg (M : Mc) (t : Option Nat) (x : Int) : 0 ≤ FR M t x := smZ_nonneg fun _ _ => cz_nonneg ..
theorem FRs_nonneg (M : Mc) (t : Option Nat) (x : Int) : ∀ rs : List Int, 0 ≤ FRs M t x rs
  | [] => Int.le_refl _
  | r :: rs => Int.add_nonneg (FR_nonneg ..) (FRs_nonneg M t x rs)
theorem FRs_take (M : Mc) (t : Option Nat) (x : Int) : ∀ (rs : List Int) (i : Nat) (hi : i < rs.length), FRs M t x (rs.take (i + 1)) = FRs M t x (rs.take i) + FR M t (x - rs[i])
  | [], i, hi => absurd hi (Nat.not_lt_zero _)
  | r :: rs, 0, hi => by simp [FRs]
  | r :: rs, i + 1, hi => by
    rw [List.take_succ_cons, List.take_succ_cons, FRs, FRs, FRs_take M t x rs i (by simpa using hi), List.getElem_cons_succ]
    omega
theorem FRs_take_le (M : Mc) (t : Option Nat) (x : Int) : ∀ (rs : List Int) (i : Nat), FRs M t x (rs.take i) ≤ FRs M t x rs
  | [], i => by rw [List.take_nil]; exact Int.le_refl _
  | r :: rs, 0 => FRs_nonneg ..
  | r :: rs, i + 1 => by
    have := FRs_take_le M t x rs i
    rw [List.take_succ_cons, FRs, FRs]
    omega
/-- r is T, or is above e if T is -/
structure Kn (T e r : Int) : Prop where
  le : r ≤ T
  or : r = T ∨ e < r
theorem Kn.eq {T e r : Int} (h : Kn T e r) (hT : T ≤ e) : r = T := by
  rcases h.or with h1 | h1
  · exact h1
  · have := h.le
    omega
theorem Kn.lt {T e r : Int} (h : Kn T e r) (hT : e < T) : e < r := by
  rcases h.or with h1 | h1
  · omega
  · exact h1
theorem known_ok (hM : M.Ok) {t : Option Nat} (ht : OkT t) {x : Int} (hx0 : -1 ≤ x) (hx : x ≤ 1000 * M.letter) {rs : List Int} (hr : ∀ r ∈ rs, 0 ≤ r ∧ r ≤ 1000000000000) (e : Int) (s : S) :
    ∃ r, Kn (FRs M t x rs) e r ∧ G_known_by c [M.d c, .int x, tD t, .lst (rs.map D.int), .int e] s = .ok (.int r) s := by
  have l0 := hM.letter0
  have l1 := hM.letter1
  have g0 := hM.gap0
  have g1 := hM.gap1
  suffices h : @WR _ (G_known_by c [M.d c, .int x, tD t, .lst (rs.map D.int), .int e] s) ⟨fun d s' => ∃ r, d = .int r ∧ s' = s ∧ Kn (FRs M t x rs) e r⟩ ⟨nE⟩ by
    obtain ⟨a, s', h1, r, rfl, rfl, h2⟩ := ex_ok h
    exact ⟨r, h2, h1⟩
  unfold G_known_by
  simp (implicitDefEqProofs := false) only [↓w_lcT, ↓w_mth, ↓w_calm, ↓w_tryM, ↓w_tm0, ↓w_tmN, ↓w_tmS, ↓w_seq, ↓w_next, ↓w_break, ↓w_cont, ↓w_retN, ↓w_asg, ↓w_expr, ↓w_ret, ↓w_if, ↓w_asgG, ↓w_for, ↓w_put, ↓w_aug, ↓w_augS, ↓w_raise0, ↓w_raise1, ↓w_raise2, ↓w_try, ↓w_tryAs, ↓w_var, ↓w_c, ↓w_op, ↓w_chain, ↓w_notV, ↓w_andV, ↓w_orV, ↓w_ifE, ↓w_tst, ↓w_not, ↓w_and, ↓w_or, ↓w_yes, ↓w_nil, ↓w_cons, ↓w_tup, ↓w_lst, ↓w_lstT, ↓w_cb, ↓w_call, ↓w_callK, ↓w_neg, ↓w_no, ↓w_pt, ↓w_sl, ↓w_fld, ↓w_src, ↓w_rng, ↓w_enu, ↓w_listT, ↓w_app, ↓w_lc, ↓w_xf, ↓w_fldT, ↓w_make, ↓w_makeL, ↓w_run, ↓w_cut, ↓w_pure, ↓w_drop, w_ok, w_ex, w_nx, w_rt, w_bk, w_ct, w_exS, w_some, w_v, w_tr, w_fa, w_tb, w_ti, w_tn, w_L, w_L0, wb_not, cn_f, startD, arr, gN_eq, gTp, gCn, gNl, Option.bind_some, List.filterMap_cons, List.filterMap_nil, List.map_cons, List.map_nil, List.replicate_succ, List.replicate_zero, List.cons_append, List.nil_append, List.getElem?_cons_zero, List.getElem?_cons_succ, List.set_cons_zero, List.set_cons_succ, List.length_cons, List.length_nil, Nat.reduceAdd, Nat.reduceSub, Nat.reduceLeDiff, Nat.reduceEqDiff, Int.reducePow, Int.reduceToNat, Int.reduceNeg, Int.reduceAdd, Int.reduceMul, Int.reduceSub, Int.reduceLT, Int.reduceLE, Int.reduceEq, Nat.zero_add, Int.zero_add, big_eq, true_and, and_true, and_self, dSub_int, dAdd_int, dAddI_int, dLt_int, dLe_int, dGt_int, dGe_int, dEqD_int, bInt_int, bLen_lst, bLen_tup, bMin_int, bMax_int, bAbs_int, dIs_non, dIs_int, dIs_nn, Bool.not_true, Bool.not_false, decide_true, decide_false, reduceIte, Bool.false_eq_true, if_false, if_true, iSeq_lst, iSeq_tup, iSeq_rdl, iEnu_lst, iEnu_tup]
  refine ws_lst (fun i L s' => ∃ y1 y2 y3, L = [some (M.d c), some (.int x), some (tD t), some (.lst (rs.map D.int)), some (.int e), some (.int (FRs M t x (rs.take i))), y1, y2, y3] ∧ s = s') ⟨none, none, none, rfl, rfl⟩ ?_ ?_
  · rintro i hi L s' ⟨y1, y2, y3, rfl, rfl⟩
    obtain ⟨r, er⟩ : ∃ r, r = rs[i] := ⟨_, rfl⟩
    have r0 : 0 ≤ r ∧ r ≤ 1000000000000 := by rw [er]; exact hr _ (List.getElem_mem hi)
    have q1 : (x - r) / M.letter ≤ 1000 := Int.ediv_le_of_le_mul (by omega) (by omega)
    have q2 : -4611686018427387904 ≤ (x - r) / M.letter + 1 := by
      have := Int.le_ediv_of_mul_le (a := -10000000000000) (b := x - r) (c := M.letter) (by omega) (by omega)
      omega
    simp (implicitDefEqProofs := false) only [← er, fld_letter, ↓w_lcT, ↓w_mth, ↓w_calm, ↓w_tryM, ↓w_tm0, ↓w_tmN, ↓w_tmS, ↓w_seq, ↓w_next, ↓w_break, ↓w_cont, ↓w_retN, ↓w_asg, ↓w_expr, ↓w_ret, ↓w_if, ↓w_asgG, ↓w_for, ↓w_put, ↓w_aug, ↓w_augS, ↓w_raise0, ↓w_raise1, ↓w_raise2, ↓w_try, ↓w_tryAs, ↓w_var, ↓w_c, ↓w_op, ↓w_chain, ↓w_notV, ↓w_andV, ↓w_orV, ↓w_ifE, ↓w_tst, ↓w_not, ↓w_and, ↓w_or, ↓w_yes, ↓w_nil, ↓w_cons, ↓w_tup, ↓w_lst, ↓w_lstT, ↓w_cb, ↓w_call, ↓w_callK, ↓w_neg, ↓w_no, ↓w_pt, ↓w_sl, ↓w_fld, ↓w_src, ↓w_rng, ↓w_enu, ↓w_listT, ↓w_app, ↓w_lc, ↓w_xf, ↓w_fldT, ↓w_make, ↓w_makeL, ↓w_run, ↓w_cut, ↓w_pure, ↓w_drop, w_ok, w_ex, w_nx, w_rt, w_bk, w_ct, w_exS, w_some, w_v, w_tr, w_fa, w_tb, w_ti, w_tn, w_L, w_L0, wb_not, cn_f, startD, arr, gN_eq, gTp, gCn, gNl, Option.bind_some, List.filterMap_cons, List.filterMap_nil, List.map_cons, List.map_nil, List.replicate_succ, List.replicate_zero, List.cons_append, List.nil_append, List.getElem?_cons_zero, List.getElem?_cons_succ, List.set_cons_zero, List.set_cons_succ, List.length_cons, List.length_nil, Nat.reduceAdd, Nat.reduceSub, Nat.reduceLeDiff, Nat.reduceEqDiff, Int.reducePow, Int.reduceToNat, Int.reduceNeg, Int.reduceAdd, Int.reduceMul, Int.reduceSub, Int.reduceLT, Int.reduceLE, Int.reduceEq, Nat.zero_add, Int.zero_add, big_eq, true_and, and_true, and_self, dSub_int, dAdd_int, dAddI_int, dLt_int, dLe_int, dGt_int, dGe_int, dEqD_int, bInt_int, bLen_lst, bLen_tup, bMin_int, bMax_int, bAbs_int, dIs_non, dIs_int, dIs_nn, Bool.not_true, Bool.not_false, decide_true, decide_false, reduceIte, Bool.false_eq_true, if_false, if_true, iSeq_lst, iSeq_tup, iSeq_rdl, iEnu_lst, iEnu_tup]
    rw [dDiv_small (by omega) (by omega)]
    simp (implicitDefEqProofs := false) only [↓w_lcT, ↓w_mth, ↓w_calm, ↓w_tryM, ↓w_tm0, ↓w_tmN, ↓w_tmS, ↓w_seq, ↓w_next, ↓w_break, ↓w_cont, ↓w_retN, ↓w_asg, ↓w_expr, ↓w_ret, ↓w_if, ↓w_asgG, ↓w_for, ↓w_put, ↓w_aug, ↓w_augS, ↓w_raise0, ↓w_raise1, ↓w_raise2, ↓w_try, ↓w_tryAs, ↓w_var, ↓w_c, ↓w_op, ↓w_chain, ↓w_notV, ↓w_andV, ↓w_orV, ↓w_ifE, ↓w_tst, ↓w_not, ↓w_and, ↓w_or, ↓w_yes, ↓w_nil, ↓w_cons, ↓w_tup, ↓w_lst, ↓w_lstT, ↓w_cb, ↓w_call, ↓w_callK, ↓w_neg, ↓w_no, ↓w_pt, ↓w_sl, ↓w_fld, ↓w_src, ↓w_rng, ↓w_enu, ↓w_listT, ↓w_app, ↓w_lc, ↓w_xf, ↓w_fldT, ↓w_make, ↓w_makeL, ↓w_run, ↓w_cut, ↓w_pure, ↓w_drop, w_ok, w_ex, w_nx, w_rt, w_bk, w_ct, w_exS, w_some, w_v, w_tr, w_fa, w_tb, w_ti, w_tn, w_L, w_L0, wb_not, cn_f, startD, arr, gN_eq, gTp, gCn, gNl, Option.bind_some, List.filterMap_cons, List.filterMap_nil, List.map_cons, List.map_nil, List.replicate_succ, List.replicate_zero, List.cons_append, List.nil_append, List.getElem?_cons_zero, List.getElem?_cons_succ, List.set_cons_zero, List.set_cons_succ, List.length_cons, List.length_nil, Nat.reduceAdd, Nat.reduceSub, Nat.reduceLeDiff, Nat.reduceEqDiff, Int.reducePow, Int.reduceToNat, Int.reduceNeg, Int.reduceAdd, Int.reduceMul, Int.reduceSub, Int.reduceLT, Int.reduceLE, Int.reduceEq, Nat.zero_add, Int.zero_add, big_eq, true_and, and_true, and_self, dSub_int, dAdd_int, dAddI_int, dLt_int, dLe_int, dGt_int, dGe_int, dEqD_int, bInt_int, bLen_lst, bLen_tup, bMin_int, bMax_int, bAbs_int, dIs_non, dIs_int, dIs_nn, Bool.not_true, Bool.not_false, decide_true, decide_false, reduceIte, Bool.false_eq_true, if_false, if_true, iSeq_lst, iSeq_tup, iSeq_rdl, iEnu_lst, iEnu_tup]
    rw [rng1 (by omega) (by omega), w_some]
    have hT := FRs_take M t x rs i hi
    have hT2 := FRs_take_le M t x rs (i + 1)
    rw [← er] at hT
    obtain ⟨A, eA⟩ : ∃ A, A = FRs M t x (rs.take i) := ⟨_, rfl⟩
    rw [← eA] at hT ⊢
    have hF : FR M t (x - r) = smZ ((x - r) / M.letter + 1).toNat fun d => cz t d ((x - r - d * M.letter) / M.gap) := rfl
    refine ws_rng (fun j L s' => ∃ y2 y3, L = [some (M.d c), some (.int x), some (tD t), some (.lst (rs.map D.int)), some (.int e), some (.int (A + smZ j fun d => cz t d ((x - r - d * M.letter) / M.gap))), some (.int r), y2, y3] ∧ s = s') ⟨y2, y3, ?_, rfl⟩ ?_ ?_
    · rw [smZ, Int.add_zero]
    · rintro j L s' hj ⟨y2, y3, rfl, rfl⟩
      simp (implicitDefEqProofs := false) only [fld_letter, ↓w_lcT, ↓w_mth, ↓w_calm, ↓w_tryM, ↓w_tm0, ↓w_tmN, ↓w_tmS, ↓w_seq, ↓w_next, ↓w_break, ↓w_cont, ↓w_retN, ↓w_asg, ↓w_expr, ↓w_ret, ↓w_if, ↓w_asgG, ↓w_for, ↓w_put, ↓w_aug, ↓w_augS, ↓w_raise0, ↓w_raise1, ↓w_raise2, ↓w_try, ↓w_tryAs, ↓w_var, ↓w_c, ↓w_op, ↓w_chain, ↓w_notV, ↓w_andV, ↓w_orV, ↓w_ifE, ↓w_tst, ↓w_not, ↓w_and, ↓w_or, ↓w_yes, ↓w_nil, ↓w_cons, ↓w_tup, ↓w_lst, ↓w_lstT, ↓w_cb, ↓w_call, ↓w_callK, ↓w_neg, ↓w_no, ↓w_pt, ↓w_sl, ↓w_fld, ↓w_src, ↓w_rng, ↓w_enu, ↓w_listT, ↓w_app, ↓w_lc, ↓w_xf, ↓w_fldT, ↓w_make, ↓w_makeL, ↓w_run, ↓w_cut, ↓w_pure, ↓w_drop, w_ok, w_ex, w_nx, w_rt, w_bk, w_ct, w_exS, w_some, w_v, w_tr, w_fa, w_tb, w_ti, w_tn, w_L, w_L0, wb_not, cn_f, startD, arr, gN_eq, gTp, gCn, gNl, Option.bind_some, List.filterMap_cons, List.filterMap_nil, List.map_cons, List.map_nil, List.replicate_succ, List.replicate_zero, List.cons_append, List.nil_append, List.getElem?_cons_zero, List.getElem?_cons_succ, List.set_cons_zero, List.set_cons_succ, List.length_cons, List.length_nil, Nat.reduceAdd, Nat.reduceSub, Nat.reduceLeDiff, Nat.reduceEqDiff, Int.reducePow, Int.reduceToNat, Int.reduceNeg, Int.reduceAdd, Int.reduceMul, Int.reduceSub, Int.reduceLT, Int.reduceLE, Int.reduceEq, Nat.zero_add, Int.zero_add, big_eq, true_and, and_true, and_self, dSub_int, dAdd_int, dAddI_int, dLt_int, dLe_int, dGt_int, dGe_int, dEqD_int, bInt_int, bLen_lst, bLen_tup, bMin_int, bMax_int, bAbs_int, dIs_non, dIs_int, dIs_nn, Bool.not_true, Bool.not_false, decide_true, decide_false, reduceIte, Bool.false_eq_true, if_false, if_true, iSeq_lst, iSeq_tup, iSeq_rdl, iEnu_lst, iEnu_tup]
      rw [dMul_small (by omega) (by omega) (by omega) (by omega)]
      simp (implicitDefEqProofs := false) only [fld_gap, ↓w_lcT, ↓w_mth, ↓w_calm, ↓w_tryM, ↓w_tm0, ↓w_tmN, ↓w_tmS, ↓w_seq, ↓w_next, ↓w_break, ↓w_cont, ↓w_retN, ↓w_asg, ↓w_expr, ↓w_ret, ↓w_if, ↓w_asgG, ↓w_for, ↓w_put, ↓w_aug, ↓w_augS, ↓w_raise0, ↓w_raise1, ↓w_raise2, ↓w_try, ↓w_tryAs, ↓w_var, ↓w_c, ↓w_op, ↓w_chain, ↓w_notV, ↓w_andV, ↓w_orV, ↓w_ifE, ↓w_tst, ↓w_not, ↓w_and, ↓w_or, ↓w_yes, ↓w_nil, ↓w_cons, ↓w_tup, ↓w_lst, ↓w_lstT, ↓w_cb, ↓w_call, ↓w_callK, ↓w_neg, ↓w_no, ↓w_pt, ↓w_sl, ↓w_fld, ↓w_src, ↓w_rng, ↓w_enu, ↓w_listT, ↓w_app, ↓w_lc, ↓w_xf, ↓w_fldT, ↓w_make, ↓w_makeL, ↓w_run, ↓w_cut, ↓w_pure, ↓w_drop, w_ok, w_ex, w_nx, w_rt, w_bk, w_ct, w_exS, w_some, w_v, w_tr, w_fa, w_tb, w_ti, w_tn, w_L, w_L0, wb_not, cn_f, startD, arr, gN_eq, gTp, gCn, gNl, Option.bind_some, List.filterMap_cons, List.filterMap_nil, List.map_cons, List.map_nil, List.replicate_succ, List.replicate_zero, List.cons_append, List.nil_append, List.getElem?_cons_zero, List.getElem?_cons_succ, List.set_cons_zero, List.set_cons_succ, List.length_cons, List.length_nil, Nat.reduceAdd, Nat.reduceSub, Nat.reduceLeDiff, Nat.reduceEqDiff, Int.reducePow, Int.reduceToNat, Int.reduceNeg, Int.reduceAdd, Int.reduceMul, Int.reduceSub, Int.reduceLT, Int.reduceLE, Int.reduceEq, Nat.zero_add, Int.zero_add, big_eq, true_and, and_true, and_self, dSub_int, dAdd_int, dAddI_int, dLt_int, dLe_int, dGt_int, dGe_int, dEqD_int, bInt_int, bLen_lst, bLen_tup, bMin_int, bMax_int, bAbs_int, dIs_non, dIs_int, dIs_nn, Bool.not_true, Bool.not_false, decide_true, decide_false, reduceIte, Bool.false_eq_true, if_false, if_true, iSeq_lst, iSeq_tup, iSeq_rdl, iEnu_lst, iEnu_tup]
      rw [dDiv_small (by omega) (by omega)]
      simp (implicitDefEqProofs := false) only [↓w_lcT, ↓w_mth, ↓w_calm, ↓w_tryM, ↓w_tm0, ↓w_tmN, ↓w_tmS, ↓w_seq, ↓w_next, ↓w_break, ↓w_cont, ↓w_retN, ↓w_asg, ↓w_expr, ↓w_ret, ↓w_if, ↓w_asgG, ↓w_for, ↓w_put, ↓w_aug, ↓w_augS, ↓w_raise0, ↓w_raise1, ↓w_raise2, ↓w_try, ↓w_tryAs, ↓w_var, ↓w_c, ↓w_op, ↓w_chain, ↓w_notV, ↓w_andV, ↓w_orV, ↓w_ifE, ↓w_tst, ↓w_not, ↓w_and, ↓w_or, ↓w_yes, ↓w_nil, ↓w_cons, ↓w_tup, ↓w_lst, ↓w_lstT, ↓w_cb, ↓w_call, ↓w_callK, ↓w_neg, ↓w_no, ↓w_pt, ↓w_sl, ↓w_fld, ↓w_src, ↓w_rng, ↓w_enu, ↓w_listT, ↓w_app, ↓w_lc, ↓w_xf, ↓w_fldT, ↓w_make, ↓w_makeL, ↓w_run, ↓w_cut, ↓w_pure, ↓w_drop, w_ok, w_ex, w_nx, w_rt, w_bk, w_ct, w_exS, w_some, w_v, w_tr, w_fa, w_tb, w_ti, w_tn, w_L, w_L0, wb_not, cn_f, startD, arr, gN_eq, gTp, gCn, gNl, Option.bind_some, List.filterMap_cons, List.filterMap_nil, List.map_cons, List.map_nil, List.replicate_succ, List.replicate_zero, List.cons_append, List.nil_append, List.getElem?_cons_zero, List.getElem?_cons_succ, List.set_cons_zero, List.set_cons_succ, List.length_cons, List.length_nil, Nat.reduceAdd, Nat.reduceSub, Nat.reduceLeDiff, Nat.reduceEqDiff, Int.reducePow, Int.reduceToNat, Int.reduceNeg, Int.reduceAdd, Int.reduceMul, Int.reduceSub, Int.reduceLT, Int.reduceLE, Int.reduceEq, Nat.zero_add, Int.zero_add, big_eq, true_and, and_true, and_self, dSub_int, dAdd_int, dAddI_int, dLt_int, dLe_int, dGt_int, dGe_int, dEqD_int, bInt_int, bLen_lst, bLen_tup, bMin_int, bMax_int, bAbs_int, dIs_non, dIs_int, dIs_nn, Bool.not_true, Bool.not_false, decide_true, decide_false, reduceIte, Bool.false_eq_true, if_false, if_true, iSeq_lst, iSeq_tup, iSeq_rdl, iEnu_lst, iEnu_tup]
      have hd : (x - r - (j : Int) * M.letter) / M.gap < 10 ^ 25 := by
        have : (x - r - (j : Int) * M.letter) / M.gap ≤ 3000000000000 := by
          refine Int.ediv_le_of_le_mul (by omega) ?_
          have := Int.mul_nonneg (show (0 : Int) ≤ j by omega) (show 0 ≤ M.letter by omega)
          omega
        omega
      rw [tuples_ok ht (by omega) hd]
      simp (implicitDefEqProofs := false) only [↓w_lcT, ↓w_mth, ↓w_calm, ↓w_tryM, ↓w_tm0, ↓w_tmN, ↓w_tmS, ↓w_seq, ↓w_next, ↓w_break, ↓w_cont, ↓w_retN, ↓w_asg, ↓w_expr, ↓w_ret, ↓w_if, ↓w_asgG, ↓w_for, ↓w_put, ↓w_aug, ↓w_augS, ↓w_raise0, ↓w_raise1, ↓w_raise2, ↓w_try, ↓w_tryAs, ↓w_var, ↓w_c, ↓w_op, ↓w_chain, ↓w_notV, ↓w_andV, ↓w_orV, ↓w_ifE, ↓w_tst, ↓w_not, ↓w_and, ↓w_or, ↓w_yes, ↓w_nil, ↓w_cons, ↓w_tup, ↓w_lst, ↓w_lstT, ↓w_cb, ↓w_call, ↓w_callK, ↓w_neg, ↓w_no, ↓w_pt, ↓w_sl, ↓w_fld, ↓w_src, ↓w_rng, ↓w_enu, ↓w_listT, ↓w_app, ↓w_lc, ↓w_xf, ↓w_fldT, ↓w_make, ↓w_makeL, ↓w_run, ↓w_cut, ↓w_pure, ↓w_drop, w_ok, w_ex, w_nx, w_rt, w_bk, w_ct, w_exS, w_some, w_v, w_tr, w_fa, w_tb, w_ti, w_tn, w_L, w_L0, wb_not, cn_f, startD, arr, gN_eq, gTp, gCn, gNl, Option.bind_some, List.filterMap_cons, List.filterMap_nil, List.map_cons, List.map_nil, List.replicate_succ, List.replicate_zero, List.cons_append, List.nil_append, List.getElem?_cons_zero, List.getElem?_cons_succ, List.set_cons_zero, List.set_cons_succ, List.length_cons, List.length_nil, Nat.reduceAdd, Nat.reduceSub, Nat.reduceLeDiff, Nat.reduceEqDiff, Int.reducePow, Int.reduceToNat, Int.reduceNeg, Int.reduceAdd, Int.reduceMul, Int.reduceSub, Int.reduceLT, Int.reduceLE, Int.reduceEq, Nat.zero_add, Int.zero_add, big_eq, true_and, and_true, and_self, dSub_int, dAdd_int, dAddI_int, dLt_int, dLe_int, dGt_int, dGe_int, dEqD_int, bInt_int, bLen_lst, bLen_tup, bMin_int, bMax_int, bAbs_int, dIs_non, dIs_int, dIs_nn, Bool.not_true, Bool.not_false, decide_true, decide_false, reduceIte, Bool.false_eq_true, if_false, if_true, iSeq_lst, iSeq_tup, iSeq_rdl, iEnu_lst, iEnu_tup]
      refine wb_dec (fun h1 => ?_) (fun h1 => ?_)
      · simp (implicitDefEqProofs := false) only [↓w_lcT, ↓w_mth, ↓w_calm, ↓w_tryM, ↓w_tm0, ↓w_tmN, ↓w_tmS, ↓w_seq, ↓w_next, ↓w_break, ↓w_cont, ↓w_retN, ↓w_asg, ↓w_expr, ↓w_ret, ↓w_if, ↓w_asgG, ↓w_for, ↓w_put, ↓w_aug, ↓w_augS, ↓w_raise0, ↓w_raise1, ↓w_raise2, ↓w_try, ↓w_tryAs, ↓w_var, ↓w_c, ↓w_op, ↓w_chain, ↓w_notV, ↓w_andV, ↓w_orV, ↓w_ifE, ↓w_tst, ↓w_not, ↓w_and, ↓w_or, ↓w_yes, ↓w_nil, ↓w_cons, ↓w_tup, ↓w_lst, ↓w_lstT, ↓w_cb, ↓w_call, ↓w_callK, ↓w_neg, ↓w_no, ↓w_pt, ↓w_sl, ↓w_fld, ↓w_src, ↓w_rng, ↓w_enu, ↓w_listT, ↓w_app, ↓w_lc, ↓w_xf, ↓w_fldT, ↓w_make, ↓w_makeL, ↓w_run, ↓w_cut, ↓w_pure, ↓w_drop, w_ok, w_ex, w_nx, w_rt, w_bk, w_ct, w_exS, w_some, w_v, w_tr, w_fa, w_tb, w_ti, w_tn, w_L, w_L0, wb_not, cn_f, startD, arr, gN_eq, gTp, gCn, gNl, Option.bind_some, List.filterMap_cons, List.filterMap_nil, List.map_cons, List.map_nil, List.replicate_succ, List.replicate_zero, List.cons_append, List.nil_append, List.getElem?_cons_zero, List.getElem?_cons_succ, List.set_cons_zero, List.set_cons_succ, List.length_cons, List.length_nil, Nat.reduceAdd, Nat.reduceSub, Nat.reduceLeDiff, Nat.reduceEqDiff, Int.reducePow, Int.reduceToNat, Int.reduceNeg, Int.reduceAdd, Int.reduceMul, Int.reduceSub, Int.reduceLT, Int.reduceLE, Int.reduceEq, Nat.zero_add, Int.zero_add, big_eq, true_and, and_true, and_self, dSub_int, dAdd_int, dAddI_int, dLt_int, dLe_int, dGt_int, dGe_int, dEqD_int, bInt_int, bLen_lst, bLen_tup, bMin_int, bMax_int, bAbs_int, dIs_non, dIs_int, dIs_nn, Bool.not_true, Bool.not_false, decide_true, decide_false, reduceIte, Bool.false_eq_true, if_false, if_true, iSeq_lst, iSeq_tup, iSeq_rdl, iEnu_lst, iEnu_tup]
        have hs := smZ_shorter (n := j + 1) (m := ((x - r) / M.letter + 1).toNat) (f := fun d => cz t d ((x - r - d * M.letter) / M.gap)) hj fun _ _ => cz_nonneg ..
        rw [smZ] at hs
        exact ⟨_, rfl, by omega, .inr (by omega)⟩
      · simp (implicitDefEqProofs := false) only [↓w_lcT, ↓w_mth, ↓w_calm, ↓w_tryM, ↓w_tm0, ↓w_tmN, ↓w_tmS, ↓w_seq, ↓w_next, ↓w_break, ↓w_cont, ↓w_retN, ↓w_asg, ↓w_expr, ↓w_ret, ↓w_if, ↓w_asgG, ↓w_for, ↓w_put, ↓w_aug, ↓w_augS, ↓w_raise0, ↓w_raise1, ↓w_raise2, ↓w_try, ↓w_tryAs, ↓w_var, ↓w_c, ↓w_op, ↓w_chain, ↓w_notV, ↓w_andV, ↓w_orV, ↓w_ifE, ↓w_tst, ↓w_not, ↓w_and, ↓w_or, ↓w_yes, ↓w_nil, ↓w_cons, ↓w_tup, ↓w_lst, ↓w_lstT, ↓w_cb, ↓w_call, ↓w_callK, ↓w_neg, ↓w_no, ↓w_pt, ↓w_sl, ↓w_fld, ↓w_src, ↓w_rng, ↓w_enu, ↓w_listT, ↓w_app, ↓w_lc, ↓w_xf, ↓w_fldT, ↓w_make, ↓w_makeL, ↓w_run, ↓w_cut, ↓w_pure, ↓w_drop, w_ok, w_ex, w_nx, w_rt, w_bk, w_ct, w_exS, w_some, w_v, w_tr, w_fa, w_tb, w_ti, w_tn, w_L, w_L0, wb_not, cn_f, startD, arr, gN_eq, gTp, gCn, gNl, Option.bind_some, List.filterMap_cons, List.filterMap_nil, List.map_cons, List.map_nil, List.replicate_succ, List.replicate_zero, List.cons_append, List.nil_append, List.getElem?_cons_zero, List.getElem?_cons_succ, List.set_cons_zero, List.set_cons_succ, List.length_cons, List.length_nil, Nat.reduceAdd, Nat.reduceSub, Nat.reduceLeDiff, Nat.reduceEqDiff, Int.reducePow, Int.reduceToNat, Int.reduceNeg, Int.reduceAdd, Int.reduceMul, Int.reduceSub, Int.reduceLT, Int.reduceLE, Int.reduceEq, Nat.zero_add, Int.zero_add, big_eq, true_and, and_true, and_self, dSub_int, dAdd_int, dAddI_int, dLt_int, dLe_int, dGt_int, dGe_int, dEqD_int, bInt_int, bLen_lst, bLen_tup, bMin_int, bMax_int, bAbs_int, dIs_non, dIs_int, dIs_nn, Bool.not_true, Bool.not_false, decide_true, decide_false, reduceIte, Bool.false_eq_true, if_false, if_true, iSeq_lst, iSeq_tup, iSeq_rdl, iEnu_lst, iEnu_tup]
        exact ⟨_, _, by rw [smZ, Int.add_assoc]⟩
    · rintro L s' ⟨y2, y3, rfl, rfl⟩
      rw [hT, hF]
      exact ⟨_, _, _, rfl, rfl⟩
  · rintro L s' ⟨y1, y2, y3, rfl, rfl⟩
    simp (implicitDefEqProofs := false) only [↓w_lcT, ↓w_mth, ↓w_calm, ↓w_tryM, ↓w_tm0, ↓w_tmN, ↓w_tmS, ↓w_seq, ↓w_next, ↓w_break, ↓w_cont, ↓w_retN, ↓w_asg, ↓w_expr, ↓w_ret, ↓w_if, ↓w_asgG, ↓w_for, ↓w_put, ↓w_aug, ↓w_augS, ↓w_raise0, ↓w_raise1, ↓w_raise2, ↓w_try, ↓w_tryAs, ↓w_var, ↓w_c, ↓w_op, ↓w_chain, ↓w_notV, ↓w_andV, ↓w_orV, ↓w_ifE, ↓w_tst, ↓w_not, ↓w_and, ↓w_or, ↓w_yes, ↓w_nil, ↓w_cons, ↓w_tup, ↓w_lst, ↓w_lstT, ↓w_cb, ↓w_call, ↓w_callK, ↓w_neg, ↓w_no, ↓w_pt, ↓w_sl, ↓w_fld, ↓w_src, ↓w_rng, ↓w_enu, ↓w_listT, ↓w_app, ↓w_lc, ↓w_xf, ↓w_fldT, ↓w_make, ↓w_makeL, ↓w_run, ↓w_cut, ↓w_pure, ↓w_drop, w_ok, w_ex, w_nx, w_rt, w_bk, w_ct, w_exS, w_some, w_v, w_tr, w_fa, w_tb, w_ti, w_tn, w_L, w_L0, wb_not, cn_f, startD, arr, gN_eq, gTp, gCn, gNl, Option.bind_some, List.filterMap_cons, List.filterMap_nil, List.map_cons, List.map_nil, List.replicate_succ, List.replicate_zero, List.cons_append, List.nil_append, List.getElem?_cons_zero, List.getElem?_cons_succ, List.set_cons_zero, List.set_cons_succ, List.length_cons, List.length_nil, Nat.reduceAdd, Nat.reduceSub, Nat.reduceLeDiff, Nat.reduceEqDiff, Int.reducePow, Int.reduceToNat, Int.reduceNeg, Int.reduceAdd, Int.reduceMul, Int.reduceSub, Int.reduceLT, Int.reduceLE, Int.reduceEq, Nat.zero_add, Int.zero_add, big_eq, true_and, and_true, and_self, dSub_int, dAdd_int, dAddI_int, dLt_int, dLe_int, dGt_int, dGe_int, dEqD_int, bInt_int, bLen_lst, bLen_tup, bMin_int, bMax_int, bAbs_int, dIs_non, dIs_int, dIs_nn, Bool.not_true, Bool.not_false, decide_true, decide_false, reduceIte, Bool.false_eq_true, if_false, if_true, iSeq_lst, iSeq_tup, iSeq_rdl, iEnu_lst, iEnu_tup]
    refine ⟨_, rfl, ?_, .inl ?_⟩
    · exact FRs_take_le ..
    · rw [List.take_length]
end Pg

namespace Pg
open PySem L2 SI Mt
variable {c : Cl} {M : Mc}
/-! ### integers and other things -/
theorem isint_int (i : Int) (s : S) : G_is_integer c [.int i] s = .ok (.bl true) s := rfl
/-- no integer -/
def NI (c : Cl) (d : D) : Prop := ∀ s, G_is_integer c [d] s = .ok (.bl false) s
theorem NI.nint {i : Int} (h : NI c (.int i)) : False := by
  have := (h []).symm.trans (isint_int i [])
  cases this
theorem ni_non : NI c .non := fun _ => rfl
theorem ni_bl (b : Bool) : NI c (.bl b) := fun _ => rfl
theorem ni_str (x : Str) : NI c (.str x) := fun _ => rfl
theorem ni_tup (xs : List D) : NI c (.tup xs) := fun _ => rfl
theorem ni_lst (xs : List D) : NI c (.lst xs) := fun _ => rfl
theorem ni_dk (ks : List Key) (xs : List D) : NI c (.dk ks xs) := fun _ => rfl
theorem isi_ins {C : Addr} (hC : C ∈ c.cs) (fs : List Str) (vs : List D) (s : S) {n : String} (hn : n ∈ tyNames) : bIsi c.cs s [.ins C fs vs, .ty n] = some (.bl false) := by
  unfold bIsi isi1
  simp only [hn, if_true, tyD, insOf, hC, Option.map_some]
theorem ni_ins {C : Addr} (hC : C ∈ c.cs) (fs : List Str) (vs : List D) : NI c (.ins C fs vs) := fun s => by
  apply eq_ok
  unfold G_is_integer
  simp (implicitDefEqProofs := false) only [isi_ins hC fs vs s (n := "int") (by decide), ↓w_lcT, ↓w_mth, ↓w_calm, ↓w_tryM, ↓w_tm0, ↓w_tmN, ↓w_tmS, ↓w_seq, ↓w_next, ↓w_break, ↓w_cont, ↓w_retN, ↓w_asg, ↓w_expr, ↓w_ret, ↓w_if, ↓w_asgG, ↓w_for, ↓w_put, ↓w_aug, ↓w_augS, ↓w_raise0, ↓w_raise1, ↓w_raise2, ↓w_try, ↓w_tryAs, ↓w_var, ↓w_c, ↓w_op, ↓w_chain, ↓w_notV, ↓w_andV, ↓w_orV, ↓w_ifE, ↓w_tst, ↓w_not, ↓w_and, ↓w_or, ↓w_yes, ↓w_nil, ↓w_cons, ↓w_tup, ↓w_lst, ↓w_lstT, ↓w_cb, ↓w_call, ↓w_callK, ↓w_neg, ↓w_no, ↓w_pt, ↓w_sl, ↓w_fld, ↓w_src, ↓w_rng, ↓w_enu, ↓w_listT, ↓w_app, ↓w_lc, ↓w_xf, ↓w_fldT, ↓w_make, ↓w_makeL, ↓w_run, ↓w_cut, ↓w_pure, ↓w_drop, w_ok, w_ex, w_nx, w_rt, w_bk, w_ct, w_exS, w_some, w_v, w_tr, w_fa, w_tb, w_ti, w_tn, w_L, w_L0, wb_not, cn_f, startD, arr, gN_eq, gTp, gCn, gNl, Option.bind_some, List.filterMap_cons, List.filterMap_nil, List.map_cons, List.map_nil, List.replicate_succ, List.replicate_zero, List.cons_append, List.nil_append, List.getElem?_cons_zero, List.getElem?_cons_succ, List.set_cons_zero, List.set_cons_succ, List.length_cons, List.length_nil, Nat.reduceAdd, Nat.reduceSub, Nat.reduceLeDiff, Nat.reduceEqDiff, Int.reducePow, Int.reduceToNat, Int.reduceNeg, Int.reduceAdd, Int.reduceMul, Int.reduceSub, Int.reduceLT, Int.reduceLE, Int.reduceEq, Nat.zero_add, Int.zero_add, big_eq, true_and, and_true, and_self, dSub_int, dAdd_int, dAddI_int, dLt_int, dLe_int, dGt_int, dGe_int, dEqD_int, bInt_int, bLen_lst, bLen_tup, bMin_int, bMax_int, bAbs_int, dIs_non, dIs_int, dIs_nn, Bool.not_true, Bool.not_false, decide_true, decide_false, reduceIte, Bool.false_eq_true, if_false, if_true, iSeq_lst, iSeq_tup, iSeq_rdl, iEnu_lst, iEnu_tup]
theorem ni_mc (hC : c.Machine ∈ c.cs) : NI c (M.d c) := ni_ins hC _ _
inductive Th (c : Cl) : D → Prop
  | int (i : Int) : Th c (.int i)
  | ni {d : D} (h : NI c d) : Th c d
/-- an integer from lo to hi -/
def gb (d : D) (lo hi : Int) : Bool := match d with
  | .int i => decide (lo ≤ i) && decide (i ≤ hi)
  | _ => false
theorem gb_ni {d : D} (h : NI c d) (lo hi : Int) : gb d lo hi = false := by
  unfold gb
  split
  · exact h.nint.elim
  · rfl
theorem gb_int {d : D} {lo hi : Int} (h : gb d lo hi = true) : ∃ i, d = .int i ∧ lo ≤ i ∧ i ≤ hi := by
  unfold gb at h
  split at h
  · rename_i i
    simp at h
    exact ⟨i, rfl, h.1, h.2⟩
  · cases h
theorem gb_in {i lo hi : Int} (h0 : lo ≤ i) (h1 : i ≤ hi) : gb (.int i) lo hi = true := by
  unfold gb
  simp [h0, h1]
theorem between_ok {d : D} (h : Th c d) (lo hi : Int) (s : S) : G_between c [d, .int lo, .int hi] s = .ok (.bl (gb d lo hi)) s := by
  apply eq_ok
  unfold G_between
  cases h with
  | int i =>
    unfold gb
    by_cases h : lo ≤ i
    · simp (implicitDefEqProofs := false) only [isint_int, h, Bool.true_and, ↓w_lcT, ↓w_mth, ↓w_calm, ↓w_tryM, ↓w_tm0, ↓w_tmN, ↓w_tmS, ↓w_seq, ↓w_next, ↓w_break, ↓w_cont, ↓w_retN, ↓w_asg, ↓w_expr, ↓w_ret, ↓w_if, ↓w_asgG, ↓w_for, ↓w_put, ↓w_aug, ↓w_augS, ↓w_raise0, ↓w_raise1, ↓w_raise2, ↓w_try, ↓w_tryAs, ↓w_var, ↓w_c, ↓w_op, ↓w_chain, ↓w_notV, ↓w_andV, ↓w_orV, ↓w_ifE, ↓w_tst, ↓w_not, ↓w_and, ↓w_or, ↓w_yes, ↓w_nil, ↓w_cons, ↓w_tup, ↓w_lst, ↓w_lstT, ↓w_cb, ↓w_call, ↓w_callK, ↓w_neg, ↓w_no, ↓w_pt, ↓w_sl, ↓w_fld, ↓w_src, ↓w_rng, ↓w_enu, ↓w_listT, ↓w_app, ↓w_lc, ↓w_xf, ↓w_fldT, ↓w_make, ↓w_makeL, ↓w_run, ↓w_cut, ↓w_pure, ↓w_drop, w_ok, w_ex, w_nx, w_rt, w_bk, w_ct, w_exS, w_some, w_v, w_tr, w_fa, w_tb, w_ti, w_tn, w_L, w_L0, wb_not, cn_f, startD, arr, gN_eq, gTp, gCn, gNl, Option.bind_some, List.filterMap_cons, List.filterMap_nil, List.map_cons, List.map_nil, List.replicate_succ, List.replicate_zero, List.cons_append, List.nil_append, List.getElem?_cons_zero, List.getElem?_cons_succ, List.set_cons_zero, List.set_cons_succ, List.length_cons, List.length_nil, Nat.reduceAdd, Nat.reduceSub, Nat.reduceLeDiff, Nat.reduceEqDiff, Int.reducePow, Int.reduceToNat, Int.reduceNeg, Int.reduceAdd, Int.reduceMul, Int.reduceSub, Int.reduceLT, Int.reduceLE, Int.reduceEq, Nat.zero_add, Int.zero_add, big_eq, true_and, and_true, and_self, dSub_int, dAdd_int, dAddI_int, dLt_int, dLe_int, dGt_int, dGe_int, dEqD_int, bInt_int, bLen_lst, bLen_tup, bMin_int, bMax_int, bAbs_int, dIs_non, dIs_int, dIs_nn, Bool.not_true, Bool.not_false, decide_true, decide_false, reduceIte, Bool.false_eq_true, if_false, if_true, iSeq_lst, iSeq_tup, iSeq_rdl, iEnu_lst, iEnu_tup]
    · simp (implicitDefEqProofs := false) only [isint_int, h, Bool.false_and, ↓w_lcT, ↓w_mth, ↓w_calm, ↓w_tryM, ↓w_tm0, ↓w_tmN, ↓w_tmS, ↓w_seq, ↓w_next, ↓w_break, ↓w_cont, ↓w_retN, ↓w_asg, ↓w_expr, ↓w_ret, ↓w_if, ↓w_asgG, ↓w_for, ↓w_put, ↓w_aug, ↓w_augS, ↓w_raise0, ↓w_raise1, ↓w_raise2, ↓w_try, ↓w_tryAs, ↓w_var, ↓w_c, ↓w_op, ↓w_chain, ↓w_notV, ↓w_andV, ↓w_orV, ↓w_ifE, ↓w_tst, ↓w_not, ↓w_and, ↓w_or, ↓w_yes, ↓w_nil, ↓w_cons, ↓w_tup, ↓w_lst, ↓w_lstT, ↓w_cb, ↓w_call, ↓w_callK, ↓w_neg, ↓w_no, ↓w_pt, ↓w_sl, ↓w_fld, ↓w_src, ↓w_rng, ↓w_enu, ↓w_listT, ↓w_app, ↓w_lc, ↓w_xf, ↓w_fldT, ↓w_make, ↓w_makeL, ↓w_run, ↓w_cut, ↓w_pure, ↓w_drop, w_ok, w_ex, w_nx, w_rt, w_bk, w_ct, w_exS, w_some, w_v, w_tr, w_fa, w_tb, w_ti, w_tn, w_L, w_L0, wb_not, cn_f, startD, arr, gN_eq, gTp, gCn, gNl, Option.bind_some, List.filterMap_cons, List.filterMap_nil, List.map_cons, List.map_nil, List.replicate_succ, List.replicate_zero, List.cons_append, List.nil_append, List.getElem?_cons_zero, List.getElem?_cons_succ, List.set_cons_zero, List.set_cons_succ, List.length_cons, List.length_nil, Nat.reduceAdd, Nat.reduceSub, Nat.reduceLeDiff, Nat.reduceEqDiff, Int.reducePow, Int.reduceToNat, Int.reduceNeg, Int.reduceAdd, Int.reduceMul, Int.reduceSub, Int.reduceLT, Int.reduceLE, Int.reduceEq, Nat.zero_add, Int.zero_add, big_eq, true_and, and_true, and_self, dSub_int, dAdd_int, dAddI_int, dLt_int, dLe_int, dGt_int, dGe_int, dEqD_int, bInt_int, bLen_lst, bLen_tup, bMin_int, bMax_int, bAbs_int, dIs_non, dIs_int, dIs_nn, Bool.not_true, Bool.not_false, decide_true, decide_false, reduceIte, Bool.false_eq_true, if_false, if_true, iSeq_lst, iSeq_tup, iSeq_rdl, iEnu_lst, iEnu_tup]
  | ni h =>
    rw [gb_ni h]
    have h' := h s
    simp (implicitDefEqProofs := false) only [h', ↓w_lcT, ↓w_mth, ↓w_calm, ↓w_tryM, ↓w_tm0, ↓w_tmN, ↓w_tmS, ↓w_seq, ↓w_next, ↓w_break, ↓w_cont, ↓w_retN, ↓w_asg, ↓w_expr, ↓w_ret, ↓w_if, ↓w_asgG, ↓w_for, ↓w_put, ↓w_aug, ↓w_augS, ↓w_raise0, ↓w_raise1, ↓w_raise2, ↓w_try, ↓w_tryAs, ↓w_var, ↓w_c, ↓w_op, ↓w_chain, ↓w_notV, ↓w_andV, ↓w_orV, ↓w_ifE, ↓w_tst, ↓w_not, ↓w_and, ↓w_or, ↓w_yes, ↓w_nil, ↓w_cons, ↓w_tup, ↓w_lst, ↓w_lstT, ↓w_cb, ↓w_call, ↓w_callK, ↓w_neg, ↓w_no, ↓w_pt, ↓w_sl, ↓w_fld, ↓w_src, ↓w_rng, ↓w_enu, ↓w_listT, ↓w_app, ↓w_lc, ↓w_xf, ↓w_fldT, ↓w_make, ↓w_makeL, ↓w_run, ↓w_cut, ↓w_pure, ↓w_drop, w_ok, w_ex, w_nx, w_rt, w_bk, w_ct, w_exS, w_some, w_v, w_tr, w_fa, w_tb, w_ti, w_tn, w_L, w_L0, wb_not, cn_f, startD, arr, gN_eq, gTp, gCn, gNl, Option.bind_some, List.filterMap_cons, List.filterMap_nil, List.map_cons, List.map_nil, List.replicate_succ, List.replicate_zero, List.cons_append, List.nil_append, List.getElem?_cons_zero, List.getElem?_cons_succ, List.set_cons_zero, List.set_cons_succ, List.length_cons, List.length_nil, Nat.reduceAdd, Nat.reduceSub, Nat.reduceLeDiff, Nat.reduceEqDiff, Int.reducePow, Int.reduceToNat, Int.reduceNeg, Int.reduceAdd, Int.reduceMul, Int.reduceSub, Int.reduceLT, Int.reduceLE, Int.reduceEq, Nat.zero_add, Int.zero_add, big_eq, true_and, and_true, and_self, dSub_int, dAdd_int, dAddI_int, dLt_int, dLe_int, dGt_int, dGe_int, dEqD_int, bInt_int, bLen_lst, bLen_tup, bMin_int, bMax_int, bAbs_int, dIs_non, dIs_int, dIs_nn, Bool.not_true, Bool.not_false, decide_true, decide_false, reduceIte, Bool.false_eq_true, if_false, if_true, iSeq_lst, iSeq_tup, iSeq_rdl, iEnu_lst, iEnu_tup]
theorem between_int {i lo hi : Int} (h0 : lo ≤ i) (h1 : i ≤ hi) (s : S) : G_between c [.int i, .int lo, .int hi] s = .ok (.bl true) s := by
  rw [between_ok (.int i), gb_in h0 h1]
theorem count_ok {i lo hi : Int} (h0 : lo ≤ i) (h1 : i ≤ hi) (s : S) : G_checked_count c [.int i, .int lo, .int hi] s = .ok (.int i) s := by
  apply eq_ok
  unfold G_checked_count
  simp (implicitDefEqProofs := false) only [between_int h0 h1, ↓w_lcT, ↓w_mth, ↓w_calm, ↓w_tryM, ↓w_tm0, ↓w_tmN, ↓w_tmS, ↓w_seq, ↓w_next, ↓w_break, ↓w_cont, ↓w_retN, ↓w_asg, ↓w_expr, ↓w_ret, ↓w_if, ↓w_asgG, ↓w_for, ↓w_put, ↓w_aug, ↓w_augS, ↓w_raise0, ↓w_raise1, ↓w_raise2, ↓w_try, ↓w_tryAs, ↓w_var, ↓w_c, ↓w_op, ↓w_chain, ↓w_notV, ↓w_andV, ↓w_orV, ↓w_ifE, ↓w_tst, ↓w_not, ↓w_and, ↓w_or, ↓w_yes, ↓w_nil, ↓w_cons, ↓w_tup, ↓w_lst, ↓w_lstT, ↓w_cb, ↓w_call, ↓w_callK, ↓w_neg, ↓w_no, ↓w_pt, ↓w_sl, ↓w_fld, ↓w_src, ↓w_rng, ↓w_enu, ↓w_listT, ↓w_app, ↓w_lc, ↓w_xf, ↓w_fldT, ↓w_make, ↓w_makeL, ↓w_run, ↓w_cut, ↓w_pure, ↓w_drop, w_ok, w_ex, w_nx, w_rt, w_bk, w_ct, w_exS, w_some, w_v, w_tr, w_fa, w_tb, w_ti, w_tn, w_L, w_L0, wb_not, cn_f, startD, arr, gN_eq, gTp, gCn, gNl, Option.bind_some, List.filterMap_cons, List.filterMap_nil, List.map_cons, List.map_nil, List.replicate_succ, List.replicate_zero, List.cons_append, List.nil_append, List.getElem?_cons_zero, List.getElem?_cons_succ, List.set_cons_zero, List.set_cons_succ, List.length_cons, List.length_nil, Nat.reduceAdd, Nat.reduceSub, Nat.reduceLeDiff, Nat.reduceEqDiff, Int.reducePow, Int.reduceToNat, Int.reduceNeg, Int.reduceAdd, Int.reduceMul, Int.reduceSub, Int.reduceLT, Int.reduceLE, Int.reduceEq, Nat.zero_add, Int.zero_add, big_eq, true_and, and_true, and_self, dSub_int, dAdd_int, dAddI_int, dLt_int, dLe_int, dGt_int, dGe_int, dEqD_int, bInt_int, bLen_lst, bLen_tup, bMin_int, bMax_int, bAbs_int, dIs_non, dIs_int, dIs_nn, Bool.not_true, Bool.not_false, decide_true, decide_false, reduceIte, Bool.false_eq_true, if_false, if_true, iSeq_lst, iSeq_tup, iSeq_rdl, iEnu_lst, iEnu_tup]
theorem count_bad {d : D} {lo hi : Int} (h : Th c d) (hb : gb d lo hi = false) (s : S) : G_checked_count c [d, .int lo, .int hi] s = .ex c.InvalidCount [] [] s := by
  apply eq_ex
  unfold G_checked_count
  simp (implicitDefEqProofs := false) only [between_ok h, hb, ↓w_lcT, ↓w_mth, ↓w_calm, ↓w_tryM, ↓w_tm0, ↓w_tmN, ↓w_tmS, ↓w_seq, ↓w_next, ↓w_break, ↓w_cont, ↓w_retN, ↓w_asg, ↓w_expr, ↓w_ret, ↓w_if, ↓w_asgG, ↓w_for, ↓w_put, ↓w_aug, ↓w_augS, ↓w_raise0, ↓w_raise1, ↓w_raise2, ↓w_try, ↓w_tryAs, ↓w_var, ↓w_c, ↓w_op, ↓w_chain, ↓w_notV, ↓w_andV, ↓w_orV, ↓w_ifE, ↓w_tst, ↓w_not, ↓w_and, ↓w_or, ↓w_yes, ↓w_nil, ↓w_cons, ↓w_tup, ↓w_lst, ↓w_lstT, ↓w_cb, ↓w_call, ↓w_callK, ↓w_neg, ↓w_no, ↓w_pt, ↓w_sl, ↓w_fld, ↓w_src, ↓w_rng, ↓w_enu, ↓w_listT, ↓w_app, ↓w_lc, ↓w_xf, ↓w_fldT, ↓w_make, ↓w_makeL, ↓w_run, ↓w_cut, ↓w_pure, ↓w_drop, w_ok, w_ex, w_nx, w_rt, w_bk, w_ct, w_exS, w_some, w_v, w_tr, w_fa, w_tb, w_ti, w_tn, w_L, w_L0, wb_not, cn_f, startD, arr, gN_eq, gTp, gCn, gNl, Option.bind_some, List.filterMap_cons, List.filterMap_nil, List.map_cons, List.map_nil, List.replicate_succ, List.replicate_zero, List.cons_append, List.nil_append, List.getElem?_cons_zero, List.getElem?_cons_succ, List.set_cons_zero, List.set_cons_succ, List.length_cons, List.length_nil, Nat.reduceAdd, Nat.reduceSub, Nat.reduceLeDiff, Nat.reduceEqDiff, Int.reducePow, Int.reduceToNat, Int.reduceNeg, Int.reduceAdd, Int.reduceMul, Int.reduceSub, Int.reduceLT, Int.reduceLE, Int.reduceEq, Nat.zero_add, Int.zero_add, big_eq, true_and, and_true, and_self, dSub_int, dAdd_int, dAddI_int, dLt_int, dLe_int, dGt_int, dGe_int, dEqD_int, bInt_int, bLen_lst, bLen_tup, bMin_int, bMax_int, bAbs_int, dIs_non, dIs_int, dIs_nn, Bool.not_true, Bool.not_false, decide_true, decide_false, reduceIte, Bool.false_eq_true, if_false, if_true, iSeq_lst, iSeq_tup, iSeq_rdl, iEnu_lst, iEnu_tup]
theorem turns_ok {t : Option Nat} (h : OkT t) (s : S) : G_checked_turns c [tD t] s = .ok (tD t) s := by
  apply eq_ok
  unfold G_checked_turns
  cases t with
  | none => simp (implicitDefEqProofs := false) only [tD, ↓w_lcT, ↓w_mth, ↓w_calm, ↓w_tryM, ↓w_tm0, ↓w_tmN, ↓w_tmS, ↓w_seq, ↓w_next, ↓w_break, ↓w_cont, ↓w_retN, ↓w_asg, ↓w_expr, ↓w_ret, ↓w_if, ↓w_asgG, ↓w_for, ↓w_put, ↓w_aug, ↓w_augS, ↓w_raise0, ↓w_raise1, ↓w_raise2, ↓w_try, ↓w_tryAs, ↓w_var, ↓w_c, ↓w_op, ↓w_chain, ↓w_notV, ↓w_andV, ↓w_orV, ↓w_ifE, ↓w_tst, ↓w_not, ↓w_and, ↓w_or, ↓w_yes, ↓w_nil, ↓w_cons, ↓w_tup, ↓w_lst, ↓w_lstT, ↓w_cb, ↓w_call, ↓w_callK, ↓w_neg, ↓w_no, ↓w_pt, ↓w_sl, ↓w_fld, ↓w_src, ↓w_rng, ↓w_enu, ↓w_listT, ↓w_app, ↓w_lc, ↓w_xf, ↓w_fldT, ↓w_make, ↓w_makeL, ↓w_run, ↓w_cut, ↓w_pure, ↓w_drop, w_ok, w_ex, w_nx, w_rt, w_bk, w_ct, w_exS, w_some, w_v, w_tr, w_fa, w_tb, w_ti, w_tn, w_L, w_L0, wb_not, cn_f, startD, arr, gN_eq, gTp, gCn, gNl, Option.bind_some, List.filterMap_cons, List.filterMap_nil, List.map_cons, List.map_nil, List.replicate_succ, List.replicate_zero, List.cons_append, List.nil_append, List.getElem?_cons_zero, List.getElem?_cons_succ, List.set_cons_zero, List.set_cons_succ, List.length_cons, List.length_nil, Nat.reduceAdd, Nat.reduceSub, Nat.reduceLeDiff, Nat.reduceEqDiff, Int.reducePow, Int.reduceToNat, Int.reduceNeg, Int.reduceAdd, Int.reduceMul, Int.reduceSub, Int.reduceLT, Int.reduceLE, Int.reduceEq, Nat.zero_add, Int.zero_add, big_eq, true_and, and_true, and_self, dSub_int, dAdd_int, dAddI_int, dLt_int, dLe_int, dGt_int, dGe_int, dEqD_int, bInt_int, bLen_lst, bLen_tup, bMin_int, bMax_int, bAbs_int, dIs_non, dIs_int, dIs_nn, Bool.not_true, Bool.not_false, decide_true, decide_false, reduceIte, Bool.false_eq_true, if_false, if_true, iSeq_lst, iSeq_tup, iSeq_rdl, iEnu_lst, iEnu_tup]
  | some t =>
    have := h t rfl
    simp (implicitDefEqProofs := false) only [tD, between_int (i := (t : Int)) (lo := 1) (hi := 1000000000000) (by omega) (by omega), ↓w_lcT, ↓w_mth, ↓w_calm, ↓w_tryM, ↓w_tm0, ↓w_tmN, ↓w_tmS, ↓w_seq, ↓w_next, ↓w_break, ↓w_cont, ↓w_retN, ↓w_asg, ↓w_expr, ↓w_ret, ↓w_if, ↓w_asgG, ↓w_for, ↓w_put, ↓w_aug, ↓w_augS, ↓w_raise0, ↓w_raise1, ↓w_raise2, ↓w_try, ↓w_tryAs, ↓w_var, ↓w_c, ↓w_op, ↓w_chain, ↓w_notV, ↓w_andV, ↓w_orV, ↓w_ifE, ↓w_tst, ↓w_not, ↓w_and, ↓w_or, ↓w_yes, ↓w_nil, ↓w_cons, ↓w_tup, ↓w_lst, ↓w_lstT, ↓w_cb, ↓w_call, ↓w_callK, ↓w_neg, ↓w_no, ↓w_pt, ↓w_sl, ↓w_fld, ↓w_src, ↓w_rng, ↓w_enu, ↓w_listT, ↓w_app, ↓w_lc, ↓w_xf, ↓w_fldT, ↓w_make, ↓w_makeL, ↓w_run, ↓w_cut, ↓w_pure, ↓w_drop, w_ok, w_ex, w_nx, w_rt, w_bk, w_ct, w_exS, w_some, w_v, w_tr, w_fa, w_tb, w_ti, w_tn, w_L, w_L0, wb_not, cn_f, startD, arr, gN_eq, gTp, gCn, gNl, Option.bind_some, List.filterMap_cons, List.filterMap_nil, List.map_cons, List.map_nil, List.replicate_succ, List.replicate_zero, List.cons_append, List.nil_append, List.getElem?_cons_zero, List.getElem?_cons_succ, List.set_cons_zero, List.set_cons_succ, List.length_cons, List.length_nil, Nat.reduceAdd, Nat.reduceSub, Nat.reduceLeDiff, Nat.reduceEqDiff, Int.reducePow, Int.reduceToNat, Int.reduceNeg, Int.reduceAdd, Int.reduceMul, Int.reduceSub, Int.reduceLT, Int.reduceLE, Int.reduceEq, Nat.zero_add, Int.zero_add, big_eq, true_and, and_true, and_self, dSub_int, dAdd_int, dAddI_int, dLt_int, dLe_int, dGt_int, dGe_int, dEqD_int, bInt_int, bLen_lst, bLen_tup, bMin_int, bMax_int, bAbs_int, dIs_non, dIs_int, dIs_nn, Bool.not_true, Bool.not_false, decide_true, decide_false, reduceIte, Bool.false_eq_true, if_false, if_true, iSeq_lst, iSeq_tup, iSeq_rdl, iEnu_lst, iEnu_tup]
theorem turns_bad {d : D} (h : Th c d) (hn : d ≠ .non) (hb : gb d 1 1000000000000 = false) (s : S) : G_checked_turns c [d] s = .ex c.InvalidTurns [] [] s := by
  apply eq_ex
  unfold G_checked_turns
  simp (implicitDefEqProofs := false) only [dIs_nn hn, between_ok h, hb, ↓w_lcT, ↓w_mth, ↓w_calm, ↓w_tryM, ↓w_tm0, ↓w_tmN, ↓w_tmS, ↓w_seq, ↓w_next, ↓w_break, ↓w_cont, ↓w_retN, ↓w_asg, ↓w_expr, ↓w_ret, ↓w_if, ↓w_asgG, ↓w_for, ↓w_put, ↓w_aug, ↓w_augS, ↓w_raise0, ↓w_raise1, ↓w_raise2, ↓w_try, ↓w_tryAs, ↓w_var, ↓w_c, ↓w_op, ↓w_chain, ↓w_notV, ↓w_andV, ↓w_orV, ↓w_ifE, ↓w_tst, ↓w_not, ↓w_and, ↓w_or, ↓w_yes, ↓w_nil, ↓w_cons, ↓w_tup, ↓w_lst, ↓w_lstT, ↓w_cb, ↓w_call, ↓w_callK, ↓w_neg, ↓w_no, ↓w_pt, ↓w_sl, ↓w_fld, ↓w_src, ↓w_rng, ↓w_enu, ↓w_listT, ↓w_app, ↓w_lc, ↓w_xf, ↓w_fldT, ↓w_make, ↓w_makeL, ↓w_run, ↓w_cut, ↓w_pure, ↓w_drop, w_ok, w_ex, w_nx, w_rt, w_bk, w_ct, w_exS, w_some, w_v, w_tr, w_fa, w_tb, w_ti, w_tn, w_L, w_L0, wb_not, cn_f, startD, arr, gN_eq, gTp, gCn, gNl, Option.bind_some, List.filterMap_cons, List.filterMap_nil, List.map_cons, List.map_nil, List.replicate_succ, List.replicate_zero, List.cons_append, List.nil_append, List.getElem?_cons_zero, List.getElem?_cons_succ, List.set_cons_zero, List.set_cons_succ, List.length_cons, List.length_nil, Nat.reduceAdd, Nat.reduceSub, Nat.reduceLeDiff, Nat.reduceEqDiff, Int.reducePow, Int.reduceToNat, Int.reduceNeg, Int.reduceAdd, Int.reduceMul, Int.reduceSub, Int.reduceLT, Int.reduceLE, Int.reduceEq, Nat.zero_add, Int.zero_add, big_eq, true_and, and_true, and_self, dSub_int, dAdd_int, dAddI_int, dLt_int, dLe_int, dGt_int, dGe_int, dEqD_int, bInt_int, bLen_lst, bLen_tup, bMin_int, bMax_int, bAbs_int, dIs_non, dIs_int, dIs_nn, Bool.not_true, Bool.not_false, decide_true, decide_false, reduceIte, Bool.false_eq_true, if_false, if_true, iSeq_lst, iSeq_tup, iSeq_rdl, iEnu_lst, iEnu_tup]
/-! ### roots -/
theorem isiT_lst (xs : List D) (s : S) : bIsiT c.cs s [.lst xs, .tup [.ty "list", .ty "tuple"]] = some (.bl true) := rfl
theorem isiT_tup (xs : List D) (s : S) : bIsiT c.cs s [.tup xs, .tup [.ty "list", .ty "tuple"]] = some (.bl true) := rfl
/-- ascending from lo on, at most 10 ** 12 -/
def Asc : Int → List Int → Prop
  | _, [] => True
  | lo, r :: rs => lo ≤ r ∧ r ≤ 1000000000000 ∧ Asc r rs
theorem Asc.mono {lo lo' : Int} (h : lo' ≤ lo) : ∀ {rs : List Int}, Asc lo rs → Asc lo' rs
  | [], _ => trivial
  | r :: rs, ⟨h1, h2, h3⟩ => ⟨by omega, h2, h3⟩
theorem Asc.mem {lo : Int} : ∀ {rs : List Int}, Asc lo rs → ∀ r ∈ rs, lo ≤ r ∧ r ≤ 1000000000000
  | r :: rs, ⟨h1, h2, h3⟩, x, hx => by
    rcases List.mem_cons.mp hx with rfl | hx
    · exact ⟨h1, h2⟩
    · exact (h3.mono h1).mem x hx
structure OkR (rs : List Int) : Prop where
  l0 : 1 ≤ rs.length
  l1 : rs.length ≤ 6
  asc : Asc 0 rs
theorem OkR.mem {rs : List Int} (h : OkR rs) : ∀ r ∈ rs, 0 ≤ r ∧ r ≤ 1000000000000 := h.asc.mem
theorem okR0 : OkR [0] := ⟨by decide, by decide, by decide, by decide, trivial⟩
def lastOr : Int → List Int → Int
  | lo, [] => lo
  | _, r :: rs => lastOr r rs
theorem asc_at {lo : Int} : ∀ {rs : List Int} {i : Nat} (hi : i < rs.length), Asc lo rs → lastOr lo (rs.take i) ≤ rs[i] ∧ rs[i] ≤ 1000000000000 ∧ lastOr lo (rs.take (i + 1)) = rs[i]
  | r :: rs, 0, hi, ⟨h1, h2, h3⟩ => ⟨h1, h2, by simp [lastOr]⟩
  | r :: rs, i + 1, hi, ⟨h1, h2, h3⟩ => by
    have := asc_at (lo := r) (rs := rs) (i := i) (by simpa using hi) h3
    simpa only [List.take_succ_cons, lastOr, List.getElem_cons_succ] using this
theorem roots_run {rs : List Int} (h : OkR rs) (d : D) (hd : d = .lst (rs.map .int) ∨ d = .tup (rs.map .int)) (s : S) : G_checked_roots c [d] s = .ok (.lst (rs.map .int)) s := by
  have hi1 : bIsiT c.cs s [d, .tup [.ty "list", .ty "tuple"]] = some (.bl true) := by
    rcases hd with rfl | rfl <;> rfl
  have hl : bLen s [d] = some (.int rs.length) := by
    rcases hd with rfl | rfl <;> simp
  have he : iEnu s d = some ⟨enumI 0 (rs.map .int), none⟩ := by
    rcases hd with rfl | rfl <;> rfl
  have hb : bList s [d] = some (.lst (rs.map .int)) := by
    rcases hd with rfl | rfl <;> rfl
  apply eq_ok
  have := h.l0
  have := h.l1
  unfold G_checked_roots
  simp (implicitDefEqProofs := false) only [hi1, hl, show (1 : Int) ≤ rs.length by omega, show (rs.length : Int) ≤ 6 by omega, he, ↓w_lcT, ↓w_mth, ↓w_calm, ↓w_tryM, ↓w_tm0, ↓w_tmN, ↓w_tmS, ↓w_seq, ↓w_next, ↓w_break, ↓w_cont, ↓w_retN, ↓w_asg, ↓w_expr, ↓w_ret, ↓w_if, ↓w_asgG, ↓w_for, ↓w_put, ↓w_aug, ↓w_augS, ↓w_raise0, ↓w_raise1, ↓w_raise2, ↓w_try, ↓w_tryAs, ↓w_var, ↓w_c, ↓w_op, ↓w_chain, ↓w_notV, ↓w_andV, ↓w_orV, ↓w_ifE, ↓w_tst, ↓w_not, ↓w_and, ↓w_or, ↓w_yes, ↓w_nil, ↓w_cons, ↓w_tup, ↓w_lst, ↓w_lstT, ↓w_cb, ↓w_call, ↓w_callK, ↓w_neg, ↓w_no, ↓w_pt, ↓w_sl, ↓w_fld, ↓w_src, ↓w_rng, ↓w_enu, ↓w_listT, ↓w_app, ↓w_lc, ↓w_xf, ↓w_fldT, ↓w_make, ↓w_makeL, ↓w_run, ↓w_cut, ↓w_pure, ↓w_drop, w_ok, w_ex, w_nx, w_rt, w_bk, w_ct, w_exS, w_some, w_v, w_tr, w_fa, w_tb, w_ti, w_tn, w_L, w_L0, wb_not, cn_f, startD, arr, gN_eq, gTp, gCn, gNl, Option.bind_some, List.filterMap_cons, List.filterMap_nil, List.map_cons, List.map_nil, List.replicate_succ, List.replicate_zero, List.cons_append, List.nil_append, List.getElem?_cons_zero, List.getElem?_cons_succ, List.set_cons_zero, List.set_cons_succ, List.length_cons, List.length_nil, Nat.reduceAdd, Nat.reduceSub, Nat.reduceLeDiff, Nat.reduceEqDiff, Int.reducePow, Int.reduceToNat, Int.reduceNeg, Int.reduceAdd, Int.reduceMul, Int.reduceSub, Int.reduceLT, Int.reduceLE, Int.reduceEq, Nat.zero_add, Int.zero_add, big_eq, true_and, and_true, and_self, dSub_int, dAdd_int, dAddI_int, dLt_int, dLe_int, dGt_int, dGe_int, dEqD_int, bInt_int, bLen_lst, bLen_tup, bMin_int, bMax_int, bAbs_int, dIs_non, dIs_int, dIs_nn, Bool.not_true, Bool.not_false, decide_true, decide_false, reduceIte, Bool.false_eq_true, if_false, if_true, iSeq_lst, iSeq_tup, iSeq_rdl, iEnu_lst, iEnu_tup]
  refine ws_for (fun i L s' => ∃ y z, L = [some d, some (.int (lastOr 0 (rs.take i))), y, z] ∧ s = s') _ 0 ⟨none, none, rfl, rfl⟩ ?_ ?_
  · rintro i x L s' hx ⟨y, z, rfl, rfl⟩
    rw [enum_get, List.getElem?_map] at hx
    simp only [Option.map_map, Option.map_eq_some_iff, Function.comp] at hx
    obtain ⟨r, hr, rfl⟩ := hx
    obtain ⟨hi, rfl⟩ := List.getElem?_eq_some_iff.mp hr
    obtain ⟨h1, h2, h3⟩ := asc_at hi h.asc
    refine ⟨rfl, ?_⟩
    rw [Nat.zero_add] at *
    simp (implicitDefEqProofs := false) only [between_int h1 h2, ↓w_lcT, ↓w_mth, ↓w_calm, ↓w_tryM, ↓w_tm0, ↓w_tmN, ↓w_tmS, ↓w_seq, ↓w_next, ↓w_break, ↓w_cont, ↓w_retN, ↓w_asg, ↓w_expr, ↓w_ret, ↓w_if, ↓w_asgG, ↓w_for, ↓w_put, ↓w_aug, ↓w_augS, ↓w_raise0, ↓w_raise1, ↓w_raise2, ↓w_try, ↓w_tryAs, ↓w_var, ↓w_c, ↓w_op, ↓w_chain, ↓w_notV, ↓w_andV, ↓w_orV, ↓w_ifE, ↓w_tst, ↓w_not, ↓w_and, ↓w_or, ↓w_yes, ↓w_nil, ↓w_cons, ↓w_tup, ↓w_lst, ↓w_lstT, ↓w_cb, ↓w_call, ↓w_callK, ↓w_neg, ↓w_no, ↓w_pt, ↓w_sl, ↓w_fld, ↓w_src, ↓w_rng, ↓w_enu, ↓w_listT, ↓w_app, ↓w_lc, ↓w_xf, ↓w_fldT, ↓w_make, ↓w_makeL, ↓w_run, ↓w_cut, ↓w_pure, ↓w_drop, w_ok, w_ex, w_nx, w_rt, w_bk, w_ct, w_exS, w_some, w_v, w_tr, w_fa, w_tb, w_ti, w_tn, w_L, w_L0, wb_not, cn_f, startD, arr, gN_eq, gTp, gCn, gNl, Option.bind_some, List.filterMap_cons, List.filterMap_nil, List.map_cons, List.map_nil, List.replicate_succ, List.replicate_zero, List.cons_append, List.nil_append, List.getElem?_cons_zero, List.getElem?_cons_succ, List.set_cons_zero, List.set_cons_succ, List.length_cons, List.length_nil, Nat.reduceAdd, Nat.reduceSub, Nat.reduceLeDiff, Nat.reduceEqDiff, Int.reducePow, Int.reduceToNat, Int.reduceNeg, Int.reduceAdd, Int.reduceMul, Int.reduceSub, Int.reduceLT, Int.reduceLE, Int.reduceEq, Nat.zero_add, Int.zero_add, big_eq, true_and, and_true, and_self, dSub_int, dAdd_int, dAddI_int, dLt_int, dLe_int, dGt_int, dGe_int, dEqD_int, bInt_int, bLen_lst, bLen_tup, bMin_int, bMax_int, bAbs_int, dIs_non, dIs_int, dIs_nn, Bool.not_true, Bool.not_false, decide_true, decide_false, reduceIte, Bool.false_eq_true, if_false, if_true, iSeq_lst, iSeq_tup, iSeq_rdl, iEnu_lst, iEnu_tup]
    exact ⟨_, _, by rw [h3]⟩
  · rintro L s' ⟨y, z, rfl, rfl⟩
    refine ⟨rfl, ?_⟩
    simp (implicitDefEqProofs := false) only [hb, ↓w_lcT, ↓w_mth, ↓w_calm, ↓w_tryM, ↓w_tm0, ↓w_tmN, ↓w_tmS, ↓w_seq, ↓w_next, ↓w_break, ↓w_cont, ↓w_retN, ↓w_asg, ↓w_expr, ↓w_ret, ↓w_if, ↓w_asgG, ↓w_for, ↓w_put, ↓w_aug, ↓w_augS, ↓w_raise0, ↓w_raise1, ↓w_raise2, ↓w_try, ↓w_tryAs, ↓w_var, ↓w_c, ↓w_op, ↓w_chain, ↓w_notV, ↓w_andV, ↓w_orV, ↓w_ifE, ↓w_tst, ↓w_not, ↓w_and, ↓w_or, ↓w_yes, ↓w_nil, ↓w_cons, ↓w_tup, ↓w_lst, ↓w_lstT, ↓w_cb, ↓w_call, ↓w_callK, ↓w_neg, ↓w_no, ↓w_pt, ↓w_sl, ↓w_fld, ↓w_src, ↓w_rng, ↓w_enu, ↓w_listT, ↓w_app, ↓w_lc, ↓w_xf, ↓w_fldT, ↓w_make, ↓w_makeL, ↓w_run, ↓w_cut, ↓w_pure, ↓w_drop, w_ok, w_ex, w_nx, w_rt, w_bk, w_ct, w_exS, w_some, w_v, w_tr, w_fa, w_tb, w_ti, w_tn, w_L, w_L0, wb_not, cn_f, startD, arr, gN_eq, gTp, gCn, gNl, Option.bind_some, List.filterMap_cons, List.filterMap_nil, List.map_cons, List.map_nil, List.replicate_succ, List.replicate_zero, List.cons_append, List.nil_append, List.getElem?_cons_zero, List.getElem?_cons_succ, List.set_cons_zero, List.set_cons_succ, List.length_cons, List.length_nil, Nat.reduceAdd, Nat.reduceSub, Nat.reduceLeDiff, Nat.reduceEqDiff, Int.reducePow, Int.reduceToNat, Int.reduceNeg, Int.reduceAdd, Int.reduceMul, Int.reduceSub, Int.reduceLT, Int.reduceLE, Int.reduceEq, Nat.zero_add, Int.zero_add, big_eq, true_and, and_true, and_self, dSub_int, dAdd_int, dAddI_int, dLt_int, dLe_int, dGt_int, dGe_int, dEqD_int, bInt_int, bLen_lst, bLen_tup, bMin_int, bMax_int, bAbs_int, dIs_non, dIs_int, dIs_nn, Bool.not_true, Bool.not_false, decide_true, decide_false, reduceIte, Bool.false_eq_true, if_false, if_true, iSeq_lst, iSeq_tup, iSeq_rdl, iEnu_lst, iEnu_tup]
theorem time_ok (hM : M.Ok) {t : Option Nat} {x : Int} (h0 : 0 ≤ x) (h1 : x ≤ hor M t) (s : S) : G_checked_time c [M.d c, .int x, tD t] s = .ok (.int x) s := by
  apply eq_ok
  unfold G_checked_time
  simp (implicitDefEqProofs := false) only [horizon_ok hM t, between_int h0 h1, ↓w_lcT, ↓w_mth, ↓w_calm, ↓w_tryM, ↓w_tm0, ↓w_tmN, ↓w_tmS, ↓w_seq, ↓w_next, ↓w_break, ↓w_cont, ↓w_retN, ↓w_asg, ↓w_expr, ↓w_ret, ↓w_if, ↓w_asgG, ↓w_for, ↓w_put, ↓w_aug, ↓w_augS, ↓w_raise0, ↓w_raise1, ↓w_raise2, ↓w_try, ↓w_tryAs, ↓w_var, ↓w_c, ↓w_op, ↓w_chain, ↓w_notV, ↓w_andV, ↓w_orV, ↓w_ifE, ↓w_tst, ↓w_not, ↓w_and, ↓w_or, ↓w_yes, ↓w_nil, ↓w_cons, ↓w_tup, ↓w_lst, ↓w_lstT, ↓w_cb, ↓w_call, ↓w_callK, ↓w_neg, ↓w_no, ↓w_pt, ↓w_sl, ↓w_fld, ↓w_src, ↓w_rng, ↓w_enu, ↓w_listT, ↓w_app, ↓w_lc, ↓w_xf, ↓w_fldT, ↓w_make, ↓w_makeL, ↓w_run, ↓w_cut, ↓w_pure, ↓w_drop, w_ok, w_ex, w_nx, w_rt, w_bk, w_ct, w_exS, w_some, w_v, w_tr, w_fa, w_tb, w_ti, w_tn, w_L, w_L0, wb_not, cn_f, startD, arr, gN_eq, gTp, gCn, gNl, Option.bind_some, List.filterMap_cons, List.filterMap_nil, List.map_cons, List.map_nil, List.replicate_succ, List.replicate_zero, List.cons_append, List.nil_append, List.getElem?_cons_zero, List.getElem?_cons_succ, List.set_cons_zero, List.set_cons_succ, List.length_cons, List.length_nil, Nat.reduceAdd, Nat.reduceSub, Nat.reduceLeDiff, Nat.reduceEqDiff, Int.reducePow, Int.reduceToNat, Int.reduceNeg, Int.reduceAdd, Int.reduceMul, Int.reduceSub, Int.reduceLT, Int.reduceLE, Int.reduceEq, Nat.zero_add, Int.zero_add, big_eq, true_and, and_true, and_self, dSub_int, dAdd_int, dAddI_int, dLt_int, dLe_int, dGt_int, dGe_int, dEqD_int, bInt_int, bLen_lst, bLen_tup, bMin_int, bMax_int, bAbs_int, dIs_non, dIs_int, dIs_nn, Bool.not_true, Bool.not_false, decide_true, decide_false, reduceIte, Bool.false_eq_true, if_false, if_true, iSeq_lst, iSeq_tup, iSeq_rdl, iEnu_lst, iEnu_tup]
theorem time_bad (hM : M.Ok) {t : Option Nat} {d : D} (h : Th c d) (hb : gb d 0 (hor M t) = false) (s : S) : G_checked_time c [M.d c, d, tD t] s = .ex c.InvalidTime [] [] s := by
  apply eq_ex
  unfold G_checked_time
  simp (implicitDefEqProofs := false) only [horizon_ok hM t, between_ok h, hb, ↓w_lcT, ↓w_mth, ↓w_calm, ↓w_tryM, ↓w_tm0, ↓w_tmN, ↓w_tmS, ↓w_seq, ↓w_next, ↓w_break, ↓w_cont, ↓w_retN, ↓w_asg, ↓w_expr, ↓w_ret, ↓w_if, ↓w_asgG, ↓w_for, ↓w_put, ↓w_aug, ↓w_augS, ↓w_raise0, ↓w_raise1, ↓w_raise2, ↓w_try, ↓w_tryAs, ↓w_var, ↓w_c, ↓w_op, ↓w_chain, ↓w_notV, ↓w_andV, ↓w_orV, ↓w_ifE, ↓w_tst, ↓w_not, ↓w_and, ↓w_or, ↓w_yes, ↓w_nil, ↓w_cons, ↓w_tup, ↓w_lst, ↓w_lstT, ↓w_cb, ↓w_call, ↓w_callK, ↓w_neg, ↓w_no, ↓w_pt, ↓w_sl, ↓w_fld, ↓w_src, ↓w_rng, ↓w_enu, ↓w_listT, ↓w_app, ↓w_lc, ↓w_xf, ↓w_fldT, ↓w_make, ↓w_makeL, ↓w_run, ↓w_cut, ↓w_pure, ↓w_drop, w_ok, w_ex, w_nx, w_rt, w_bk, w_ct, w_exS, w_some, w_v, w_tr, w_fa, w_tb, w_ti, w_tn, w_L, w_L0, wb_not, cn_f, startD, arr, gN_eq, gTp, gCn, gNl, Option.bind_some, List.filterMap_cons, List.filterMap_nil, List.map_cons, List.map_nil, List.replicate_succ, List.replicate_zero, List.cons_append, List.nil_append, List.getElem?_cons_zero, List.getElem?_cons_succ, List.set_cons_zero, List.set_cons_succ, List.length_cons, List.length_nil, Nat.reduceAdd, Nat.reduceSub, Nat.reduceLeDiff, Nat.reduceEqDiff, Int.reducePow, Int.reduceToNat, Int.reduceNeg, Int.reduceAdd, Int.reduceMul, Int.reduceSub, Int.reduceLT, Int.reduceLE, Int.reduceEq, Nat.zero_add, Int.zero_add, big_eq, true_and, and_true, and_self, dSub_int, dAdd_int, dAddI_int, dLt_int, dLe_int, dGt_int, dGe_int, dEqD_int, bInt_int, bLen_lst, bLen_tup, bMin_int, bMax_int, bAbs_int, dIs_non, dIs_int, dIs_nn, Bool.not_true, Bool.not_false, decide_true, decide_false, reduceIte, Bool.false_eq_true, if_false, if_true, iSeq_lst, iSeq_tup, iSeq_rdl, iEnu_lst, iEnu_tup]
/-! ### Machine(..) -/
theorem mk_ok (hM : M.Ok) (s : S) : mkD c.Machine 4 (G_Machine___init__ c) [.int M.o, .int M.l, .int M.g] s = .ok (M.d c) s := by
  have o0 := hM.o0
  have o1 := hM.o1
  apply eq_ok
  rw [w_mk]
  unfold G_Machine___init__
  have hm : ∀ s, dMul s (.int 2) (.int M.o) = some (.int (2 * M.o)) := fun s => dMul_small (by omega) (by omega) (by omega) (by omega)
  have f0 : fldPut (s ++ [.ins c.Machine [] []]) [c.Machine] "o" (.ref s.length) (.int M.o) = some (s ++ [.ins c.Machine ["o"] [.int M.o]]) := fld_app s (List.mem_singleton.mpr rfl) (by show 0 < 1000; decide)
  have f1 : fldPut (s ++ [.ins c.Machine ["o"] [.int M.o]]) [c.Machine] "l" (.ref s.length) (.int M.l) = some (s ++ [.ins c.Machine ["o", "l"] [.int M.o, .int M.l]]) := fld_app s (List.mem_singleton.mpr rfl) (by show 1 < 1000; decide)
  have f2 : fldPut (s ++ [.ins c.Machine ["o", "l"] [.int M.o, .int M.l]]) [c.Machine] "g" (.ref s.length) (.int M.g) = some (s ++ [.ins c.Machine ["o", "l", "g"] [.int M.o, .int M.l, .int M.g]]) := fld_app s (List.mem_singleton.mpr rfl) (by show 2 < 1000; decide)
  have f3 : fldPut (s ++ [.ins c.Machine ["o", "l", "g"] [.int M.o, .int M.l, .int M.g]]) [c.Machine] "letter" (.ref s.length) (.int (2 * M.o + M.l)) = some (s ++ [.ins c.Machine ["o", "l", "g", "letter"] [.int M.o, .int M.l, .int M.g, .int (2 * M.o + M.l)]]) := fld_app s (List.mem_singleton.mpr rfl) (by show 3 < 1000; decide)
  have f4 : fldPut (s ++ [.ins c.Machine ["o", "l", "g", "letter"] [.int M.o, .int M.l, .int M.g, .int (2 * M.o + M.l)]]) [c.Machine] "gap" (.ref s.length) (.int (max M.o M.g)) = some (s ++ [.ins c.Machine ["o", "l", "g", "letter", "gap"] [.int M.o, .int M.l, .int M.g, .int (2 * M.o + M.l), .int (max M.o M.g)]]) := fld_app s (List.mem_singleton.mpr rfl) (by show 4 < 1000; decide)
  have gi : insOf (s ++ [.ins c.Machine ["o", "l", "g", "letter", "gap"] [.int M.o, .int M.l, .int M.g, .int (2 * M.o + M.l), .int (max M.o M.g)]]) (.ref s.length) = some ((c.Machine, (["o", "l", "g", "letter", "gap"] : List Str), [D.int M.o, .int M.l, .int M.g, .int (2 * M.o + M.l), .int (max M.o M.g)])) := by
    unfold insOf
    simp only [get_app]
  simp (implicitDefEqProofs := false) only [between_int hM.o0 hM.o1, between_int hM.l0 hM.l1, between_int hM.g0 hM.g1, hm, show ¬ 2 * M.o + M.l = 0 by have := hM.z; omega, f0, f1, f2, f3, f4, gi, List.take_left, ↓w_lcT, ↓w_mth, ↓w_calm, ↓w_tryM, ↓w_tm0, ↓w_tmN, ↓w_tmS, ↓w_seq, ↓w_next, ↓w_break, ↓w_cont, ↓w_retN, ↓w_asg, ↓w_expr, ↓w_ret, ↓w_if, ↓w_asgG, ↓w_for, ↓w_put, ↓w_aug, ↓w_augS, ↓w_raise0, ↓w_raise1, ↓w_raise2, ↓w_try, ↓w_tryAs, ↓w_var, ↓w_c, ↓w_op, ↓w_chain, ↓w_notV, ↓w_andV, ↓w_orV, ↓w_ifE, ↓w_tst, ↓w_not, ↓w_and, ↓w_or, ↓w_yes, ↓w_nil, ↓w_cons, ↓w_tup, ↓w_lst, ↓w_lstT, ↓w_cb, ↓w_call, ↓w_callK, ↓w_neg, ↓w_no, ↓w_pt, ↓w_sl, ↓w_fld, ↓w_src, ↓w_rng, ↓w_enu, ↓w_listT, ↓w_app, ↓w_lc, ↓w_xf, ↓w_fldT, ↓w_make, ↓w_makeL, ↓w_run, ↓w_cut, ↓w_pure, ↓w_drop, w_ok, w_ex, w_nx, w_rt, w_bk, w_ct, w_exS, w_some, w_v, w_tr, w_fa, w_tb, w_ti, w_tn, w_L, w_L0, wb_not, cn_f, startD, arr, gN_eq, gTp, gCn, gNl, Option.bind_some, List.filterMap_cons, List.filterMap_nil, List.map_cons, List.map_nil, List.replicate_succ, List.replicate_zero, List.cons_append, List.nil_append, List.getElem?_cons_zero, List.getElem?_cons_succ, List.set_cons_zero, List.set_cons_succ, List.length_cons, List.length_nil, Nat.reduceAdd, Nat.reduceSub, Nat.reduceLeDiff, Nat.reduceEqDiff, Int.reducePow, Int.reduceToNat, Int.reduceNeg, Int.reduceAdd, Int.reduceMul, Int.reduceSub, Int.reduceLT, Int.reduceLE, Int.reduceEq, Nat.zero_add, Int.zero_add, big_eq, true_and, and_true, and_self, dSub_int, dAdd_int, dAddI_int, dLt_int, dLe_int, dGt_int, dGe_int, dEqD_int, bInt_int, bLen_lst, bLen_tup, bMin_int, bMax_int, bAbs_int, dIs_non, dIs_int, dIs_nn, Bool.not_true, Bool.not_false, decide_true, decide_false, reduceIte, Bool.false_eq_true, if_false, if_true, iSeq_lst, iSeq_tup, iSeq_rdl, iEnu_lst, iEnu_tup]
  exact ⟨rfl, rfl⟩
/-! ### reach, least_time -/
def MOST : Int := 10000000000000000000000000000000000000000
theorem hor_le (hM : M.Ok) (t : Option Nat) : hor M t ≤ 120 * M.letter := by
  have := hM.letter0
  unfold hor
  split <;> omega
theorem hor_pos (hM : M.Ok) (t : Option Nat) : 40 * M.letter ≤ hor M t := by
  have := hM.letter0
  unfold hor
  split <;> omega
/-- what is taken for roots -/
def RtD (rs : List Int) (d : D) : Prop := d = .lst (rs.map .int) ∨ d = .tup (rs.map .int)
theorem rtd0 : RtD [0] (.tup [.int 0]) := .inr rfl
theorem reach_ok (hM : M.Ok) {t : Option Nat} (ht : OkT t) {rs : List Int} (hr : OkR rs) {d : D} (hd : RtD rs d) {x : Int} (h0 : 0 ≤ x) (h1 : x ≤ hor M t) (hT : FRs M t x rs ≤ MOST) (s : S) : G_reach c [M.d c, .int x, tD t, d] s = .ok (.int (FRs M t x rs)) s := by
  have l0 := hM.letter0
  have := hor_le hM t
  obtain ⟨r, hk, e⟩ := known_ok (c := c) hM ht (x := x) (by omega) (by omega) hr.mem MOST s
  have er := hk.eq hT
  subst er
  apply eq_ok
  unfold G_reach
  unfold MOST at e hT
  simp (implicitDefEqProofs := false) only [turns_ok ht, roots_run hr d hd, time_ok hM h0 h1, e, show ¬ 10000000000000000000000000000000000000000 < FRs M t x rs by omega, ↓w_lcT, ↓w_mth, ↓w_calm, ↓w_tryM, ↓w_tm0, ↓w_tmN, ↓w_tmS, ↓w_seq, ↓w_next, ↓w_break, ↓w_cont, ↓w_retN, ↓w_asg, ↓w_expr, ↓w_ret, ↓w_if, ↓w_asgG, ↓w_for, ↓w_put, ↓w_aug, ↓w_augS, ↓w_raise0, ↓w_raise1, ↓w_raise2, ↓w_try, ↓w_tryAs, ↓w_var, ↓w_c, ↓w_op, ↓w_chain, ↓w_notV, ↓w_andV, ↓w_orV, ↓w_ifE, ↓w_tst, ↓w_not, ↓w_and, ↓w_or, ↓w_yes, ↓w_nil, ↓w_cons, ↓w_tup, ↓w_lst, ↓w_lstT, ↓w_cb, ↓w_call, ↓w_callK, ↓w_neg, ↓w_no, ↓w_pt, ↓w_sl, ↓w_fld, ↓w_src, ↓w_rng, ↓w_enu, ↓w_listT, ↓w_app, ↓w_lc, ↓w_xf, ↓w_fldT, ↓w_make, ↓w_makeL, ↓w_run, ↓w_cut, ↓w_pure, ↓w_drop, w_ok, w_ex, w_nx, w_rt, w_bk, w_ct, w_exS, w_some, w_v, w_tr, w_fa, w_tb, w_ti, w_tn, w_L, w_L0, wb_not, cn_f, startD, arr, gN_eq, gTp, gCn, gNl, Option.bind_some, List.filterMap_cons, List.filterMap_nil, List.map_cons, List.map_nil, List.replicate_succ, List.replicate_zero, List.cons_append, List.nil_append, List.getElem?_cons_zero, List.getElem?_cons_succ, List.set_cons_zero, List.set_cons_succ, List.length_cons, List.length_nil, Nat.reduceAdd, Nat.reduceSub, Nat.reduceLeDiff, Nat.reduceEqDiff, Int.reducePow, Int.reduceToNat, Int.reduceNeg, Int.reduceAdd, Int.reduceMul, Int.reduceSub, Int.reduceLT, Int.reduceLE, Int.reduceEq, Nat.zero_add, Int.zero_add, big_eq, true_and, and_true, and_self, dSub_int, dAdd_int, dAddI_int, dLt_int, dLe_int, dGt_int, dGe_int, dEqD_int, bInt_int, bLen_lst, bLen_tup, bMin_int, bMax_int, bAbs_int, dIs_non, dIs_int, dIs_nn, Bool.not_true, Bool.not_false, decide_true, decide_false, reduceIte, Bool.false_eq_true, if_false, if_true, iSeq_lst, iSeq_tup, iSeq_rdl, iEnu_lst, iEnu_tup]
theorem reach_lim (hM : M.Ok) {t : Option Nat} (ht : OkT t) {rs : List Int} (hr : OkR rs) {d : D} (hd : RtD rs d) {x : Int} (h0 : 0 ≤ x) (h1 : x ≤ hor M t) (hT : MOST < FRs M t x rs) (s : S) : G_reach c [M.d c, .int x, tD t, d] s = .ex c.LimitExceeded ["limit"] [.str "count"] s := by
  have l0 := hM.letter0
  have := hor_le hM t
  obtain ⟨r, hk, e⟩ := known_ok (c := c) hM ht (x := x) (by omega) (by omega) hr.mem MOST s
  have er := hk.lt hT
  apply eq_ex
  unfold G_reach
  unfold MOST at e er
  simp (implicitDefEqProofs := false) only [turns_ok ht, roots_run hr d hd, time_ok hM h0 h1, e, er, ↓w_lcT, ↓w_mth, ↓w_calm, ↓w_tryM, ↓w_tm0, ↓w_tmN, ↓w_tmS, ↓w_seq, ↓w_next, ↓w_break, ↓w_cont, ↓w_retN, ↓w_asg, ↓w_expr, ↓w_ret, ↓w_if, ↓w_asgG, ↓w_for, ↓w_put, ↓w_aug, ↓w_augS, ↓w_raise0, ↓w_raise1, ↓w_raise2, ↓w_try, ↓w_tryAs, ↓w_var, ↓w_c, ↓w_op, ↓w_chain, ↓w_notV, ↓w_andV, ↓w_orV, ↓w_ifE, ↓w_tst, ↓w_not, ↓w_and, ↓w_or, ↓w_yes, ↓w_nil, ↓w_cons, ↓w_tup, ↓w_lst, ↓w_lstT, ↓w_cb, ↓w_call, ↓w_callK, ↓w_neg, ↓w_no, ↓w_pt, ↓w_sl, ↓w_fld, ↓w_src, ↓w_rng, ↓w_enu, ↓w_listT, ↓w_app, ↓w_lc, ↓w_xf, ↓w_fldT, ↓w_make, ↓w_makeL, ↓w_run, ↓w_cut, ↓w_pure, ↓w_drop, w_ok, w_ex, w_nx, w_rt, w_bk, w_ct, w_exS, w_some, w_v, w_tr, w_fa, w_tb, w_ti, w_tn, w_L, w_L0, wb_not, cn_f, startD, arr, gN_eq, gTp, gCn, gNl, Option.bind_some, List.filterMap_cons, List.filterMap_nil, List.map_cons, List.map_nil, List.replicate_succ, List.replicate_zero, List.cons_append, List.nil_append, List.getElem?_cons_zero, List.getElem?_cons_succ, List.set_cons_zero, List.set_cons_succ, List.length_cons, List.length_nil, Nat.reduceAdd, Nat.reduceSub, Nat.reduceLeDiff, Nat.reduceEqDiff, Int.reducePow, Int.reduceToNat, Int.reduceNeg, Int.reduceAdd, Int.reduceMul, Int.reduceSub, Int.reduceLT, Int.reduceLE, Int.reduceEq, Nat.zero_add, Int.zero_add, big_eq, true_and, and_true, and_self, dSub_int, dAdd_int, dAddI_int, dLt_int, dLe_int, dGt_int, dGe_int, dEqD_int, bInt_int, bLen_lst, bLen_tup, bMin_int, bMax_int, bAbs_int, dIs_non, dIs_int, dIs_nn, Bool.not_true, Bool.not_false, decide_true, decide_false, reduceIte, Bool.false_eq_true, if_false, if_true, iSeq_lst, iSeq_tup, iSeq_rdl, iEnu_lst, iEnu_tup]
end Pg

namespace SI
open PySem L2 Pg Mt
variable {c : Cl} {Q : Cn (D → S → Prop)} {E : Cn (Addr → List Str → List D → S → Prop)} {v : SrcV} {n : Nat} {r : S} {lim : Int}
theorem SrcV.Ok.mono {m : Nat} (h : v.Ok n) (hm : n ≤ m) : v.Ok m := ⟨h.i0, h.a0, h.b0, by have := h.bn; omega, h.d0, h.dn, h.cs⟩
/-- a draw -/
theorem draw_wp (ok : v.Ok n) (hn : n < 2 ^ 60) (h0 : 0 < lim) (h1 : lim < 2 ^ 200) (h : ∀ x v', 0 ≤ x → x < lim → SrcV.Ok v' (n + 1) → Q (.int x) (v'.o :: r)) : @WR _ (drawG [.ref 0, .int lim] (v.o :: r)) Q E := by
  obtain ⟨x, v', a, b, k, e⟩ := draw_ok (s := v.o :: r) (k := 0) rfl ok hn h0 h1
  rw [e]
  exact h x v' a b k
theorem big_wp (ok : v.Ok n) (hn : n + 5 < 2 ^ 60) (h0 : 0 < lim) (h : ∀ x v', 0 ≤ x → x < lim → SrcV.Ok v' (n + 5) → Q (.int x) (v'.o :: r)) : @WR _ (bigG [.ref 0, .int lim] (v.o :: r)) Q E := by
  obtain ⟨x, v', a, b, k, e⟩ := big_ok (s := v.o :: r) (k := 0) rfl ok hn h0
  rw [e]
  exact h x v' a b k
theorem src_wp {ns : List Int} (hl : ns.length ≤ 63) (hb : ∀ z ∈ ns, Builtin.Int.intBits z ≤ 1048576) (h : ∀ v : SrcV, v.Ok 0 → Q (.ref 0) [v.o]) : @WR _ (srcG [.rdl (ns.map D.int)] []) Q E := by
  rw [src_ok ns hl]
  exact h _ (src_start hb)
/-! items of a written list -/
theorem ix0 (s : S) (a : D) (xs : List D) : dIx s (.lst (a :: xs)) (.int 0) = some a := by
  rw [dIx_lst, atI_in (by decide) (by simp only [List.length_cons]; omega)]
  rfl
theorem it0 (s : S) (a : D) (xs : List D) : dIx s (.tup (a :: xs)) (.int 0) = some a := by
  rw [dIx_tup, atI_in (by decide) (by simp only [List.length_cons]; omega)]
  rfl
theorem it1 (s : S) (a b : D) (xs : List D) : dIx s (.tup (a :: b :: xs)) (.int 1) = some b := by
  rw [dIx_tup, atI_in (by decide) (by simp only [List.length_cons]; omega)]
  rfl
theorem it2 (s : S) (a b d : D) (xs : List D) : dIx s (.tup (a :: b :: d :: xs)) (.int 2) = some d := by
  rw [dIx_tup, atI_in (by decide) (by simp only [List.length_cons]; omega)]
  rfl
theorem it3 (s : S) (a b d e : D) (xs : List D) : dIx s (.tup (a :: b :: d :: e :: xs)) (.int 3) = some e := by
  rw [dIx_tup, atI_in (by decide) (by simp only [List.length_cons]; omega)]
  rfl
/-- the item at a drawn place has what all items have -/
theorem pick {s : S} {xs : List D} {i : Int} {P : D → Prop} (h0 : 0 ≤ i) (h1 : i < xs.length) (hp : ∀ x ∈ xs, P x) : ∃ x, dIx s (.lst xs) (.int i) = some x ∧ P x := by
  have hl : i.toNat < xs.length := by omega
  refine ⟨xs[i.toNat], ?_, hp _ (List.getElem_mem hl)⟩
  rw [dIx_lst, atI_in h0 h1, List.getElem?_eq_getElem hl]
theorem wo_pick {s : S} {xs : List D} {i : Int} {Q : Cn (D → Prop)} (P : D → Prop) (h0 : 0 ≤ i) (h1 : i < xs.length) (hp : ∀ x ∈ xs, P x) (h : ∀ x, P x → Q x) : @WO _ (dIx s (.lst xs) (.int i)) Q := by
  obtain ⟨x, e, hx⟩ := pick (s := s) h0 h1 hp
  rw [e]
  exact h x hx
theorem pow_lit {s : S} {i j : Int} {r : Int} (h : powOk i j = true) (e : i ^ j.toNat = r) : dPow s (.int i) (.int j) = some (.int r) := by
  rw [dPow_lit, if_pos h, e]
theorem pow9 (s : S) : dPow s (.int 10) (.int 9) = some (.int 1000000000) := pow_lit rfl rfl
theorem pow12 (s : S) : dPow s (.int 10) (.int 12) = some (.int 1000000000000) := pow_lit rfl rfl
theorem pow15 (s : S) : dPow s (.int 10) (.int 15) = some (.int 1000000000000000) := pow_lit rfl rfl
/-! ### numbers of a machine -/
def numG : List D → S → R D := runF 6
  ((sSeq (sAsg 1 (fCall 2 drawG (fCons (fVar 0) (fCons (fC (.int 6)) fNil))))
    (sSeq (sAsg 2 (fOp dIx (fLst (fCons (fTup (fCons (fC (.int 3)) (fCons (fC (.int 5)) (fCons (fC (.int 6)) fNil)))) (fCons (fTup (fCons (fC (.int 1)) (fCons (fC (.int 12)) (fCons (fC (.int 4)) fNil)))) (fCons (fTup (fCons (fC (.int 4)) (fCons (fC (.int 2)) (fCons (fC (.int 3)) fNil)))) (fCons (fTup (fCons (fC (.int 1)) (fCons (fC (.int 4)) (fCons (fC (.int 40)) fNil)))) (fCons (fTup (fCons (fC (.int 1000)) (fCons (fC (.int 1000)) (fCons (fC (.int 1000)) fNil)))) (fCons (fTup (fCons (fOp dAdd (fOp dPow (fC (.int 10)) (fC (.int 9))) (fC (.int 1))) (fCons (fOp dAdd (fOp dPow (fC (.int 10)) (fC (.int 9))) (fC (.int 1))) (fCons (fOp dPow (fC (.int 10)) (fC (.int 9))) fNil)))) fNil))))))) (fVar 1)))
    (sSeq (sAsg 3 (fCall 2 bigG (fCons (fVar 0) (fCons (fOp dIx (fVar 2) (fC (.int 0))) fNil))))
    (sSeq (sAsg 4 (fCall 2 bigG (fCons (fVar 0) (fCons (fOp dIx (fVar 2) (fC (.int 1))) fNil))))
    (sSeq (sAsg 5 (fOp dAdd (fC (.int 1)) (fCall 2 bigG (fCons (fVar 0) (fCons (fOp dIx (fVar 2) (fC (.int 2))) fNil)))))
    (sSeq (sIf (fTst (fOp (dEqD false) (fOp dAdd (fOp dMul (fC (.int 2)) (fVar 3)) (fVar 4)) (fC (.int 0)))) (sAsg 4 (fC (.int 1))) sNext)
    (sRet (fTup (fCons (fVar 3) (fCons (fVar 4) (fCons (fVar 5) fNil))))))))))))
theorem num_wp (ok : v.Ok n) (hn : n + 16 < 2 ^ 60) (h : ∀ (M : Mc) (v' : SrcV), M.Ok → v'.Ok (n + 16) → Q (.tup [.int M.o, .int M.l, .int M.g]) (v'.o :: r)) : @WR _ (numG [.ref 0] (v.o :: r)) Q E := by
  unfold numG
  simp (implicitDefEqProofs := false) only [↓w_lcT, ↓w_mth, ↓w_calm, ↓w_tryM, ↓w_tm0, ↓w_tmN, ↓w_tmS, ↓w_seq, ↓w_next, ↓w_break, ↓w_cont, ↓w_retN, ↓w_asg, ↓w_expr, ↓w_ret, ↓w_if, ↓w_asgG, ↓w_for, ↓w_put, ↓w_aug, ↓w_augS, ↓w_raise0, ↓w_raise1, ↓w_raise2, ↓w_try, ↓w_tryAs, ↓w_var, ↓w_c, ↓w_op, ↓w_chain, ↓w_notV, ↓w_andV, ↓w_orV, ↓w_ifE, ↓w_tst, ↓w_not, ↓w_and, ↓w_or, ↓w_yes, ↓w_nil, ↓w_cons, ↓w_tup, ↓w_lst, ↓w_lstT, ↓w_cb, ↓w_call, ↓w_callK, ↓w_neg, ↓w_no, ↓w_pt, ↓w_sl, ↓w_fld, ↓w_src, ↓w_rng, ↓w_enu, ↓w_listT, ↓w_app, ↓w_lc, ↓w_xf, ↓w_fldT, ↓w_make, ↓w_makeL, ↓w_run, ↓w_cut, ↓w_pure, ↓w_drop, w_ok, w_ex, w_nx, w_rt, w_bk, w_ct, w_exS, w_some, w_v, w_tr, w_fa, w_tb, w_ti, w_tn, w_L, w_L0, wb_not, cn_f, startD, arr, gN_eq, gTp, gCn, gNl, Option.bind_some, List.filterMap_cons, List.filterMap_nil, List.map_cons, List.map_nil, List.replicate_succ, List.replicate_zero, List.cons_append, List.nil_append, List.getElem?_cons_zero, List.getElem?_cons_succ, List.set_cons_zero, List.set_cons_succ, List.length_cons, List.length_nil, Nat.reduceAdd, Nat.reduceSub, Nat.reduceLeDiff, Nat.reduceEqDiff, Int.reducePow, Int.reduceToNat, Int.reduceNeg, Int.reduceAdd, Int.reduceMul, Int.reduceSub, Int.reduceLT, Int.reduceLE, Int.reduceEq, Nat.zero_add, Int.zero_add, big_eq, true_and, and_true, and_self, dSub_int, dAdd_int, dAddI_int, dLt_int, dLe_int, dGt_int, dGe_int, dEqD_int, bInt_int, bLen_lst, bLen_tup, bMin_int, bMax_int, bAbs_int, dIs_non, dIs_int, dIs_nn, Bool.not_true, Bool.not_false, decide_true, decide_false, reduceIte, Bool.false_eq_true, if_false, if_true, iSeq_lst, iSeq_tup, iSeq_rdl, iEnu_lst, iEnu_tup]
  refine draw_wp ok (by omega) (by decide) (by decide +kernel) fun k v1 k0 k1 ok1 => ?_
  simp (implicitDefEqProofs := false) only [pow9, ↓w_lcT, ↓w_mth, ↓w_calm, ↓w_tryM, ↓w_tm0, ↓w_tmN, ↓w_tmS, ↓w_seq, ↓w_next, ↓w_break, ↓w_cont, ↓w_retN, ↓w_asg, ↓w_expr, ↓w_ret, ↓w_if, ↓w_asgG, ↓w_for, ↓w_put, ↓w_aug, ↓w_augS, ↓w_raise0, ↓w_raise1, ↓w_raise2, ↓w_try, ↓w_tryAs, ↓w_var, ↓w_c, ↓w_op, ↓w_chain, ↓w_notV, ↓w_andV, ↓w_orV, ↓w_ifE, ↓w_tst, ↓w_not, ↓w_and, ↓w_or, ↓w_yes, ↓w_nil, ↓w_cons, ↓w_tup, ↓w_lst, ↓w_lstT, ↓w_cb, ↓w_call, ↓w_callK, ↓w_neg, ↓w_no, ↓w_pt, ↓w_sl, ↓w_fld, ↓w_src, ↓w_rng, ↓w_enu, ↓w_listT, ↓w_app, ↓w_lc, ↓w_xf, ↓w_fldT, ↓w_make, ↓w_makeL, ↓w_run, ↓w_cut, ↓w_pure, ↓w_drop, w_ok, w_ex, w_nx, w_rt, w_bk, w_ct, w_exS, w_some, w_v, w_tr, w_fa, w_tb, w_ti, w_tn, w_L, w_L0, wb_not, cn_f, startD, arr, gN_eq, gTp, gCn, gNl, Option.bind_some, List.filterMap_cons, List.filterMap_nil, List.map_cons, List.map_nil, List.replicate_succ, List.replicate_zero, List.cons_append, List.nil_append, List.getElem?_cons_zero, List.getElem?_cons_succ, List.set_cons_zero, List.set_cons_succ, List.length_cons, List.length_nil, Nat.reduceAdd, Nat.reduceSub, Nat.reduceLeDiff, Nat.reduceEqDiff, Int.reducePow, Int.reduceToNat, Int.reduceNeg, Int.reduceAdd, Int.reduceMul, Int.reduceSub, Int.reduceLT, Int.reduceLE, Int.reduceEq, Nat.zero_add, Int.zero_add, big_eq, true_and, and_true, and_self, dSub_int, dAdd_int, dAddI_int, dLt_int, dLe_int, dGt_int, dGe_int, dEqD_int, bInt_int, bLen_lst, bLen_tup, bMin_int, bMax_int, bAbs_int, dIs_non, dIs_int, dIs_nn, Bool.not_true, Bool.not_false, decide_true, decide_false, reduceIte, Bool.false_eq_true, if_false, if_true, iSeq_lst, iSeq_tup, iSeq_rdl, iEnu_lst, iEnu_tup]
  refine wo_pick (fun x => ∃ a b g : Int, x = .tup [.int a, .int b, .int g] ∧ 1 ≤ a ∧ a ≤ 1000000001 ∧ 1 ≤ b ∧ b ≤ 1000000001 ∧ 1 ≤ g ∧ g ≤ 1000000000) k0 (by simpa using k1) ?_ ?_
  · intro x hx
    simp only [List.mem_cons, List.not_mem_nil, or_false] at hx
    rcases hx with rfl | rfl | rfl | rfl | rfl | rfl <;> exact ⟨_, _, _, rfl, by decide, by decide, by decide, by decide, by decide, by decide⟩
  rintro x ⟨a, b, g, rfl, a0, a1, b0, b1, g0, g1⟩
  simp (implicitDefEqProofs := false) only [it0, ↓w_lcT, ↓w_mth, ↓w_calm, ↓w_tryM, ↓w_tm0, ↓w_tmN, ↓w_tmS, ↓w_seq, ↓w_next, ↓w_break, ↓w_cont, ↓w_retN, ↓w_asg, ↓w_expr, ↓w_ret, ↓w_if, ↓w_asgG, ↓w_for, ↓w_put, ↓w_aug, ↓w_augS, ↓w_raise0, ↓w_raise1, ↓w_raise2, ↓w_try, ↓w_tryAs, ↓w_var, ↓w_c, ↓w_op, ↓w_chain, ↓w_notV, ↓w_andV, ↓w_orV, ↓w_ifE, ↓w_tst, ↓w_not, ↓w_and, ↓w_or, ↓w_yes, ↓w_nil, ↓w_cons, ↓w_tup, ↓w_lst, ↓w_lstT, ↓w_cb, ↓w_call, ↓w_callK, ↓w_neg, ↓w_no, ↓w_pt, ↓w_sl, ↓w_fld, ↓w_src, ↓w_rng, ↓w_enu, ↓w_listT, ↓w_app, ↓w_lc, ↓w_xf, ↓w_fldT, ↓w_make, ↓w_makeL, ↓w_run, ↓w_cut, ↓w_pure, ↓w_drop, w_ok, w_ex, w_nx, w_rt, w_bk, w_ct, w_exS, w_some, w_v, w_tr, w_fa, w_tb, w_ti, w_tn, w_L, w_L0, wb_not, cn_f, startD, arr, gN_eq, gTp, gCn, gNl, Option.bind_some, List.filterMap_cons, List.filterMap_nil, List.map_cons, List.map_nil, List.replicate_succ, List.replicate_zero, List.cons_append, List.nil_append, List.getElem?_cons_zero, List.getElem?_cons_succ, List.set_cons_zero, List.set_cons_succ, List.length_cons, List.length_nil, Nat.reduceAdd, Nat.reduceSub, Nat.reduceLeDiff, Nat.reduceEqDiff, Int.reducePow, Int.reduceToNat, Int.reduceNeg, Int.reduceAdd, Int.reduceMul, Int.reduceSub, Int.reduceLT, Int.reduceLE, Int.reduceEq, Nat.zero_add, Int.zero_add, big_eq, true_and, and_true, and_self, dSub_int, dAdd_int, dAddI_int, dLt_int, dLe_int, dGt_int, dGe_int, dEqD_int, bInt_int, bLen_lst, bLen_tup, bMin_int, bMax_int, bAbs_int, dIs_non, dIs_int, dIs_nn, Bool.not_true, Bool.not_false, decide_true, decide_false, reduceIte, Bool.false_eq_true, if_false, if_true, iSeq_lst, iSeq_tup, iSeq_rdl, iEnu_lst, iEnu_tup]
  refine big_wp ok1 (by omega) (by omega) fun o v2 o0 o1 ok2 => ?_
  simp (implicitDefEqProofs := false) only [it1, ↓w_lcT, ↓w_mth, ↓w_calm, ↓w_tryM, ↓w_tm0, ↓w_tmN, ↓w_tmS, ↓w_seq, ↓w_next, ↓w_break, ↓w_cont, ↓w_retN, ↓w_asg, ↓w_expr, ↓w_ret, ↓w_if, ↓w_asgG, ↓w_for, ↓w_put, ↓w_aug, ↓w_augS, ↓w_raise0, ↓w_raise1, ↓w_raise2, ↓w_try, ↓w_tryAs, ↓w_var, ↓w_c, ↓w_op, ↓w_chain, ↓w_notV, ↓w_andV, ↓w_orV, ↓w_ifE, ↓w_tst, ↓w_not, ↓w_and, ↓w_or, ↓w_yes, ↓w_nil, ↓w_cons, ↓w_tup, ↓w_lst, ↓w_lstT, ↓w_cb, ↓w_call, ↓w_callK, ↓w_neg, ↓w_no, ↓w_pt, ↓w_sl, ↓w_fld, ↓w_src, ↓w_rng, ↓w_enu, ↓w_listT, ↓w_app, ↓w_lc, ↓w_xf, ↓w_fldT, ↓w_make, ↓w_makeL, ↓w_run, ↓w_cut, ↓w_pure, ↓w_drop, w_ok, w_ex, w_nx, w_rt, w_bk, w_ct, w_exS, w_some, w_v, w_tr, w_fa, w_tb, w_ti, w_tn, w_L, w_L0, wb_not, cn_f, startD, arr, gN_eq, gTp, gCn, gNl, Option.bind_some, List.filterMap_cons, List.filterMap_nil, List.map_cons, List.map_nil, List.replicate_succ, List.replicate_zero, List.cons_append, List.nil_append, List.getElem?_cons_zero, List.getElem?_cons_succ, List.set_cons_zero, List.set_cons_succ, List.length_cons, List.length_nil, Nat.reduceAdd, Nat.reduceSub, Nat.reduceLeDiff, Nat.reduceEqDiff, Int.reducePow, Int.reduceToNat, Int.reduceNeg, Int.reduceAdd, Int.reduceMul, Int.reduceSub, Int.reduceLT, Int.reduceLE, Int.reduceEq, Nat.zero_add, Int.zero_add, big_eq, true_and, and_true, and_self, dSub_int, dAdd_int, dAddI_int, dLt_int, dLe_int, dGt_int, dGe_int, dEqD_int, bInt_int, bLen_lst, bLen_tup, bMin_int, bMax_int, bAbs_int, dIs_non, dIs_int, dIs_nn, Bool.not_true, Bool.not_false, decide_true, decide_false, reduceIte, Bool.false_eq_true, if_false, if_true, iSeq_lst, iSeq_tup, iSeq_rdl, iEnu_lst, iEnu_tup]
  refine big_wp ok2 (by omega) (by omega) fun l v3 l0 l1 ok3 => ?_
  simp (implicitDefEqProofs := false) only [it2, ↓w_lcT, ↓w_mth, ↓w_calm, ↓w_tryM, ↓w_tm0, ↓w_tmN, ↓w_tmS, ↓w_seq, ↓w_next, ↓w_break, ↓w_cont, ↓w_retN, ↓w_asg, ↓w_expr, ↓w_ret, ↓w_if, ↓w_asgG, ↓w_for, ↓w_put, ↓w_aug, ↓w_augS, ↓w_raise0, ↓w_raise1, ↓w_raise2, ↓w_try, ↓w_tryAs, ↓w_var, ↓w_c, ↓w_op, ↓w_chain, ↓w_notV, ↓w_andV, ↓w_orV, ↓w_ifE, ↓w_tst, ↓w_not, ↓w_and, ↓w_or, ↓w_yes, ↓w_nil, ↓w_cons, ↓w_tup, ↓w_lst, ↓w_lstT, ↓w_cb, ↓w_call, ↓w_callK, ↓w_neg, ↓w_no, ↓w_pt, ↓w_sl, ↓w_fld, ↓w_src, ↓w_rng, ↓w_enu, ↓w_listT, ↓w_app, ↓w_lc, ↓w_xf, ↓w_fldT, ↓w_make, ↓w_makeL, ↓w_run, ↓w_cut, ↓w_pure, ↓w_drop, w_ok, w_ex, w_nx, w_rt, w_bk, w_ct, w_exS, w_some, w_v, w_tr, w_fa, w_tb, w_ti, w_tn, w_L, w_L0, wb_not, cn_f, startD, arr, gN_eq, gTp, gCn, gNl, Option.bind_some, List.filterMap_cons, List.filterMap_nil, List.map_cons, List.map_nil, List.replicate_succ, List.replicate_zero, List.cons_append, List.nil_append, List.getElem?_cons_zero, List.getElem?_cons_succ, List.set_cons_zero, List.set_cons_succ, List.length_cons, List.length_nil, Nat.reduceAdd, Nat.reduceSub, Nat.reduceLeDiff, Nat.reduceEqDiff, Int.reducePow, Int.reduceToNat, Int.reduceNeg, Int.reduceAdd, Int.reduceMul, Int.reduceSub, Int.reduceLT, Int.reduceLE, Int.reduceEq, Nat.zero_add, Int.zero_add, big_eq, true_and, and_true, and_self, dSub_int, dAdd_int, dAddI_int, dLt_int, dLe_int, dGt_int, dGe_int, dEqD_int, bInt_int, bLen_lst, bLen_tup, bMin_int, bMax_int, bAbs_int, dIs_non, dIs_int, dIs_nn, Bool.not_true, Bool.not_false, decide_true, decide_false, reduceIte, Bool.false_eq_true, if_false, if_true, iSeq_lst, iSeq_tup, iSeq_rdl, iEnu_lst, iEnu_tup]
  refine big_wp ok3 (by omega) (by omega) fun g' v4 g0' g1' ok4 => ?_
  simp (implicitDefEqProofs := false) only [↓w_lcT, ↓w_mth, ↓w_calm, ↓w_tryM, ↓w_tm0, ↓w_tmN, ↓w_tmS, ↓w_seq, ↓w_next, ↓w_break, ↓w_cont, ↓w_retN, ↓w_asg, ↓w_expr, ↓w_ret, ↓w_if, ↓w_asgG, ↓w_for, ↓w_put, ↓w_aug, ↓w_augS, ↓w_raise0, ↓w_raise1, ↓w_raise2, ↓w_try, ↓w_tryAs, ↓w_var, ↓w_c, ↓w_op, ↓w_chain, ↓w_notV, ↓w_andV, ↓w_orV, ↓w_ifE, ↓w_tst, ↓w_not, ↓w_and, ↓w_or, ↓w_yes, ↓w_nil, ↓w_cons, ↓w_tup, ↓w_lst, ↓w_lstT, ↓w_cb, ↓w_call, ↓w_callK, ↓w_neg, ↓w_no, ↓w_pt, ↓w_sl, ↓w_fld, ↓w_src, ↓w_rng, ↓w_enu, ↓w_listT, ↓w_app, ↓w_lc, ↓w_xf, ↓w_fldT, ↓w_make, ↓w_makeL, ↓w_run, ↓w_cut, ↓w_pure, ↓w_drop, w_ok, w_ex, w_nx, w_rt, w_bk, w_ct, w_exS, w_some, w_v, w_tr, w_fa, w_tb, w_ti, w_tn, w_L, w_L0, wb_not, cn_f, startD, arr, gN_eq, gTp, gCn, gNl, Option.bind_some, List.filterMap_cons, List.filterMap_nil, List.map_cons, List.map_nil, List.replicate_succ, List.replicate_zero, List.cons_append, List.nil_append, List.getElem?_cons_zero, List.getElem?_cons_succ, List.set_cons_zero, List.set_cons_succ, List.length_cons, List.length_nil, Nat.reduceAdd, Nat.reduceSub, Nat.reduceLeDiff, Nat.reduceEqDiff, Int.reducePow, Int.reduceToNat, Int.reduceNeg, Int.reduceAdd, Int.reduceMul, Int.reduceSub, Int.reduceLT, Int.reduceLE, Int.reduceEq, Nat.zero_add, Int.zero_add, big_eq, true_and, and_true, and_self, dSub_int, dAdd_int, dAddI_int, dLt_int, dLe_int, dGt_int, dGe_int, dEqD_int, bInt_int, bLen_lst, bLen_tup, bMin_int, bMax_int, bAbs_int, dIs_non, dIs_int, dIs_nn, Bool.not_true, Bool.not_false, decide_true, decide_false, reduceIte, Bool.false_eq_true, if_false, if_true, iSeq_lst, iSeq_tup, iSeq_rdl, iEnu_lst, iEnu_tup]
  rw [dMul_small (by omega) (by omega) (by omega) (by omega)]
  simp (implicitDefEqProofs := false) only [↓w_lcT, ↓w_mth, ↓w_calm, ↓w_tryM, ↓w_tm0, ↓w_tmN, ↓w_tmS, ↓w_seq, ↓w_next, ↓w_break, ↓w_cont, ↓w_retN, ↓w_asg, ↓w_expr, ↓w_ret, ↓w_if, ↓w_asgG, ↓w_for, ↓w_put, ↓w_aug, ↓w_augS, ↓w_raise0, ↓w_raise1, ↓w_raise2, ↓w_try, ↓w_tryAs, ↓w_var, ↓w_c, ↓w_op, ↓w_chain, ↓w_notV, ↓w_andV, ↓w_orV, ↓w_ifE, ↓w_tst, ↓w_not, ↓w_and, ↓w_or, ↓w_yes, ↓w_nil, ↓w_cons, ↓w_tup, ↓w_lst, ↓w_lstT, ↓w_cb, ↓w_call, ↓w_callK, ↓w_neg, ↓w_no, ↓w_pt, ↓w_sl, ↓w_fld, ↓w_src, ↓w_rng, ↓w_enu, ↓w_listT, ↓w_app, ↓w_lc, ↓w_xf, ↓w_fldT, ↓w_make, ↓w_makeL, ↓w_run, ↓w_cut, ↓w_pure, ↓w_drop, w_ok, w_ex, w_nx, w_rt, w_bk, w_ct, w_exS, w_some, w_v, w_tr, w_fa, w_tb, w_ti, w_tn, w_L, w_L0, wb_not, cn_f, startD, arr, gN_eq, gTp, gCn, gNl, Option.bind_some, List.filterMap_cons, List.filterMap_nil, List.map_cons, List.map_nil, List.replicate_succ, List.replicate_zero, List.cons_append, List.nil_append, List.getElem?_cons_zero, List.getElem?_cons_succ, List.set_cons_zero, List.set_cons_succ, List.length_cons, List.length_nil, Nat.reduceAdd, Nat.reduceSub, Nat.reduceLeDiff, Nat.reduceEqDiff, Int.reducePow, Int.reduceToNat, Int.reduceNeg, Int.reduceAdd, Int.reduceMul, Int.reduceSub, Int.reduceLT, Int.reduceLE, Int.reduceEq, Nat.zero_add, Int.zero_add, big_eq, true_and, and_true, and_self, dSub_int, dAdd_int, dAddI_int, dLt_int, dLe_int, dGt_int, dGe_int, dEqD_int, bInt_int, bLen_lst, bLen_tup, bMin_int, bMax_int, bAbs_int, dIs_non, dIs_int, dIs_nn, Bool.not_true, Bool.not_false, decide_true, decide_false, reduceIte, Bool.false_eq_true, if_false, if_true, iSeq_lst, iSeq_tup, iSeq_rdl, iEnu_lst, iEnu_tup]
  refine wb_dec (fun hz => ?_) (fun hz => ?_)
  · simp (implicitDefEqProofs := false) only [↓w_lcT, ↓w_mth, ↓w_calm, ↓w_tryM, ↓w_tm0, ↓w_tmN, ↓w_tmS, ↓w_seq, ↓w_next, ↓w_break, ↓w_cont, ↓w_retN, ↓w_asg, ↓w_expr, ↓w_ret, ↓w_if, ↓w_asgG, ↓w_for, ↓w_put, ↓w_aug, ↓w_augS, ↓w_raise0, ↓w_raise1, ↓w_raise2, ↓w_try, ↓w_tryAs, ↓w_var, ↓w_c, ↓w_op, ↓w_chain, ↓w_notV, ↓w_andV, ↓w_orV, ↓w_ifE, ↓w_tst, ↓w_not, ↓w_and, ↓w_or, ↓w_yes, ↓w_nil, ↓w_cons, ↓w_tup, ↓w_lst, ↓w_lstT, ↓w_cb, ↓w_call, ↓w_callK, ↓w_neg, ↓w_no, ↓w_pt, ↓w_sl, ↓w_fld, ↓w_src, ↓w_rng, ↓w_enu, ↓w_listT, ↓w_app, ↓w_lc, ↓w_xf, ↓w_fldT, ↓w_make, ↓w_makeL, ↓w_run, ↓w_cut, ↓w_pure, ↓w_drop, w_ok, w_ex, w_nx, w_rt, w_bk, w_ct, w_exS, w_some, w_v, w_tr, w_fa, w_tb, w_ti, w_tn, w_L, w_L0, wb_not, cn_f, startD, arr, gN_eq, gTp, gCn, gNl, Option.bind_some, List.filterMap_cons, List.filterMap_nil, List.map_cons, List.map_nil, List.replicate_succ, List.replicate_zero, List.cons_append, List.nil_append, List.getElem?_cons_zero, List.getElem?_cons_succ, List.set_cons_zero, List.set_cons_succ, List.length_cons, List.length_nil, Nat.reduceAdd, Nat.reduceSub, Nat.reduceLeDiff, Nat.reduceEqDiff, Int.reducePow, Int.reduceToNat, Int.reduceNeg, Int.reduceAdd, Int.reduceMul, Int.reduceSub, Int.reduceLT, Int.reduceLE, Int.reduceEq, Nat.zero_add, Int.zero_add, big_eq, true_and, and_true, and_self, dSub_int, dAdd_int, dAddI_int, dLt_int, dLe_int, dGt_int, dGe_int, dEqD_int, bInt_int, bLen_lst, bLen_tup, bMin_int, bMax_int, bAbs_int, dIs_non, dIs_int, dIs_nn, Bool.not_true, Bool.not_false, decide_true, decide_false, reduceIte, Bool.false_eq_true, if_false, if_true, iSeq_lst, iSeq_tup, iSeq_rdl, iEnu_lst, iEnu_tup]
    exact h ⟨o, 1, 1 + g'⟩ v4 ⟨o0, by show o ≤ _; omega, by show (0 : Int) ≤ 1; decide, by show (1 : Int) ≤ _; decide, by show 1 ≤ 1 + g'; omega, by show 1 + g' ≤ _; omega, by show 0 < 2 * o + 1; omega⟩ (ok4.mono (by omega))
  · simp (implicitDefEqProofs := false) only [↓w_lcT, ↓w_mth, ↓w_calm, ↓w_tryM, ↓w_tm0, ↓w_tmN, ↓w_tmS, ↓w_seq, ↓w_next, ↓w_break, ↓w_cont, ↓w_retN, ↓w_asg, ↓w_expr, ↓w_ret, ↓w_if, ↓w_asgG, ↓w_for, ↓w_put, ↓w_aug, ↓w_augS, ↓w_raise0, ↓w_raise1, ↓w_raise2, ↓w_try, ↓w_tryAs, ↓w_var, ↓w_c, ↓w_op, ↓w_chain, ↓w_notV, ↓w_andV, ↓w_orV, ↓w_ifE, ↓w_tst, ↓w_not, ↓w_and, ↓w_or, ↓w_yes, ↓w_nil, ↓w_cons, ↓w_tup, ↓w_lst, ↓w_lstT, ↓w_cb, ↓w_call, ↓w_callK, ↓w_neg, ↓w_no, ↓w_pt, ↓w_sl, ↓w_fld, ↓w_src, ↓w_rng, ↓w_enu, ↓w_listT, ↓w_app, ↓w_lc, ↓w_xf, ↓w_fldT, ↓w_make, ↓w_makeL, ↓w_run, ↓w_cut, ↓w_pure, ↓w_drop, w_ok, w_ex, w_nx, w_rt, w_bk, w_ct, w_exS, w_some, w_v, w_tr, w_fa, w_tb, w_ti, w_tn, w_L, w_L0, wb_not, cn_f, startD, arr, gN_eq, gTp, gCn, gNl, Option.bind_some, List.filterMap_cons, List.filterMap_nil, List.map_cons, List.map_nil, List.replicate_succ, List.replicate_zero, List.cons_append, List.nil_append, List.getElem?_cons_zero, List.getElem?_cons_succ, List.set_cons_zero, List.set_cons_succ, List.length_cons, List.length_nil, Nat.reduceAdd, Nat.reduceSub, Nat.reduceLeDiff, Nat.reduceEqDiff, Int.reducePow, Int.reduceToNat, Int.reduceNeg, Int.reduceAdd, Int.reduceMul, Int.reduceSub, Int.reduceLT, Int.reduceLE, Int.reduceEq, Nat.zero_add, Int.zero_add, big_eq, true_and, and_true, and_self, dSub_int, dAdd_int, dAddI_int, dLt_int, dLe_int, dGt_int, dGe_int, dEqD_int, bInt_int, bLen_lst, bLen_tup, bMin_int, bMax_int, bAbs_int, dIs_non, dIs_int, dIs_nn, Bool.not_true, Bool.not_false, decide_true, decide_false, reduceIte, Bool.false_eq_true, if_false, if_true, iSeq_lst, iSeq_tup, iSeq_rdl, iEnu_lst, iEnu_tup]
    exact h ⟨o, l, 1 + g'⟩ v4 ⟨o0, by show o ≤ _; omega, l0, by show l ≤ _; omega, by show 1 ≤ 1 + g'; omega, by show 1 + g' ≤ _; omega, by show 0 < 2 * o + l; omega⟩ (ok4.mono (by omega))
def timesG : List D → S → R D := runF 1
  ((sRet (fTup (fCons (fOp dAdd (fOp dMul (fC (.int 2)) (fOp dIx (fVar 0) (fC (.int 0)))) (fOp dIx (fVar 0) (fC (.int 1)))) (fCons (fCB bMax (fCons (fOp dIx (fVar 0) (fC (.int 0))) (fCons (fOp dIx (fVar 0) (fC (.int 2))) fNil))) fNil)))))
theorem times_ok {M : Mc} (hM : M.Ok) (s : S) : timesG [.tup [.int M.o, .int M.l, .int M.g]] s = .ok (.tup [.int M.letter, .int M.gap]) s := by
  have := hM.o0
  have := hM.o1
  apply eq_ok
  unfold timesG
  simp (implicitDefEqProofs := false) only [it0, it1, it2, ↓w_lcT, ↓w_mth, ↓w_calm, ↓w_tryM, ↓w_tm0, ↓w_tmN, ↓w_tmS, ↓w_seq, ↓w_next, ↓w_break, ↓w_cont, ↓w_retN, ↓w_asg, ↓w_expr, ↓w_ret, ↓w_if, ↓w_asgG, ↓w_for, ↓w_put, ↓w_aug, ↓w_augS, ↓w_raise0, ↓w_raise1, ↓w_raise2, ↓w_try, ↓w_tryAs, ↓w_var, ↓w_c, ↓w_op, ↓w_chain, ↓w_notV, ↓w_andV, ↓w_orV, ↓w_ifE, ↓w_tst, ↓w_not, ↓w_and, ↓w_or, ↓w_yes, ↓w_nil, ↓w_cons, ↓w_tup, ↓w_lst, ↓w_lstT, ↓w_cb, ↓w_call, ↓w_callK, ↓w_neg, ↓w_no, ↓w_pt, ↓w_sl, ↓w_fld, ↓w_src, ↓w_rng, ↓w_enu, ↓w_listT, ↓w_app, ↓w_lc, ↓w_xf, ↓w_fldT, ↓w_make, ↓w_makeL, ↓w_run, ↓w_cut, ↓w_pure, ↓w_drop, w_ok, w_ex, w_nx, w_rt, w_bk, w_ct, w_exS, w_some, w_v, w_tr, w_fa, w_tb, w_ti, w_tn, w_L, w_L0, wb_not, cn_f, startD, arr, gN_eq, gTp, gCn, gNl, Option.bind_some, List.filterMap_cons, List.filterMap_nil, List.map_cons, List.map_nil, List.replicate_succ, List.replicate_zero, List.cons_append, List.nil_append, List.getElem?_cons_zero, List.getElem?_cons_succ, List.set_cons_zero, List.set_cons_succ, List.length_cons, List.length_nil, Nat.reduceAdd, Nat.reduceSub, Nat.reduceLeDiff, Nat.reduceEqDiff, Int.reducePow, Int.reduceToNat, Int.reduceNeg, Int.reduceAdd, Int.reduceMul, Int.reduceSub, Int.reduceLT, Int.reduceLE, Int.reduceEq, Nat.zero_add, Int.zero_add, big_eq, true_and, and_true, and_self, dSub_int, dAdd_int, dAddI_int, dLt_int, dLe_int, dGt_int, dGe_int, dEqD_int, bInt_int, bLen_lst, bLen_tup, bMin_int, bMax_int, bAbs_int, dIs_non, dIs_int, dIs_nn, Bool.not_true, Bool.not_false, decide_true, decide_false, reduceIte, Bool.false_eq_true, if_false, if_true, iSeq_lst, iSeq_tup, iSeq_rdl, iEnu_lst, iEnu_tup]
  rw [dMul_small (by omega) (by omega) (by omega) (by omega)]
  simp (implicitDefEqProofs := false) only [it0, it1, it2, ↓w_lcT, ↓w_mth, ↓w_calm, ↓w_tryM, ↓w_tm0, ↓w_tmN, ↓w_tmS, ↓w_seq, ↓w_next, ↓w_break, ↓w_cont, ↓w_retN, ↓w_asg, ↓w_expr, ↓w_ret, ↓w_if, ↓w_asgG, ↓w_for, ↓w_put, ↓w_aug, ↓w_augS, ↓w_raise0, ↓w_raise1, ↓w_raise2, ↓w_try, ↓w_tryAs, ↓w_var, ↓w_c, ↓w_op, ↓w_chain, ↓w_notV, ↓w_andV, ↓w_orV, ↓w_ifE, ↓w_tst, ↓w_not, ↓w_and, ↓w_or, ↓w_yes, ↓w_nil, ↓w_cons, ↓w_tup, ↓w_lst, ↓w_lstT, ↓w_cb, ↓w_call, ↓w_callK, ↓w_neg, ↓w_no, ↓w_pt, ↓w_sl, ↓w_fld, ↓w_src, ↓w_rng, ↓w_enu, ↓w_listT, ↓w_app, ↓w_lc, ↓w_xf, ↓w_fldT, ↓w_make, ↓w_makeL, ↓w_run, ↓w_cut, ↓w_pure, ↓w_drop, w_ok, w_ex, w_nx, w_rt, w_bk, w_ct, w_exS, w_some, w_v, w_tr, w_fa, w_tb, w_ti, w_tn, w_L, w_L0, wb_not, cn_f, startD, arr, gN_eq, gTp, gCn, gNl, Option.bind_some, List.filterMap_cons, List.filterMap_nil, List.map_cons, List.map_nil, List.replicate_succ, List.replicate_zero, List.cons_append, List.nil_append, List.getElem?_cons_zero, List.getElem?_cons_succ, List.set_cons_zero, List.set_cons_succ, List.length_cons, List.length_nil, Nat.reduceAdd, Nat.reduceSub, Nat.reduceLeDiff, Nat.reduceEqDiff, Int.reducePow, Int.reduceToNat, Int.reduceNeg, Int.reduceAdd, Int.reduceMul, Int.reduceSub, Int.reduceLT, Int.reduceLE, Int.reduceEq, Nat.zero_add, Int.zero_add, big_eq, true_and, and_true, and_self, dSub_int, dAdd_int, dAddI_int, dLt_int, dLe_int, dGt_int, dGe_int, dEqD_int, bInt_int, bLen_lst, bLen_tup, bMin_int, bMax_int, bAbs_int, dIs_non, dIs_int, dIs_nn, Bool.not_true, Bool.not_false, decide_true, decide_false, reduceIte, Bool.false_eq_true, if_false, if_true, iSeq_lst, iSeq_tup, iSeq_rdl, iEnu_lst, iEnu_tup]
  rfl
end SI

/-! the tracked list that came last -/
namespace SI
open PySem L2
variable {o p : O} {r : S} {xs : List D}
theorem rl_get : (o :: (r ++ [p]))[r.length + 1]? = some p := by simp
theorem rl_isl : isLst (r.length + 1) (o :: (r ++ [.lst xs])) = true := by
  unfold isLst
  rw [rl_get]
theorem rl_set (p' : O) : (o :: (r ++ [p])).set (r.length + 1) p' = o :: (r ++ [p']) := by simp
theorem rl_app (y : D) (h : xs.length < 1000000) : appOf (r.length + 1) y (o :: (r ++ [.lst xs])) = some (o :: (r ++ [.lst (xs ++ [y])])) := by
  unfold appOf
  rw [rl_get]
  show (if xs.length < big then _ else _) = _
  rw [if_pos (show xs.length < big from h), rl_set]
theorem rl_seq : seqOf (o :: (r ++ [.lst xs])) (.ref (r.length + 1)) = some xs := by
  unfold seqOf
  simp only [rl_get]
theorem rl_lst : lstOf (o :: (r ++ [.lst xs])) (.ref (r.length + 1)) = some xs := by
  unfold lstOf
  simp only [rl_get]
theorem rl_list : bList (o :: (r ++ [.lst xs])) [.ref (r.length + 1)] = some (.lst xs) := by
  show (seqOf _ _).map D.lst = _
  rw [rl_seq]
  rfl
theorem rl_tuple : bTuple (o :: (r ++ [.lst xs])) [.ref (r.length + 1)] = some (.tup xs) := by
  show (lstOf _ _).map D.tup = _
  rw [rl_lst]
  rfl
theorem rl_len : bLen (o :: (r ++ [.lst xs])) [.ref (r.length + 1)] = some (.int xs.length) := by
  show (seqOf _ _).map _ = _
  rw [rl_seq]
  rfl
theorem rl_ix (i : Int) : dIx (o :: (r ++ [.lst xs])) (.ref (r.length + 1)) (.int i) = L2.atI xs i := by
  unfold dIx
  simp only [rl_seq]
  rfl
theorem rl_iseq : iSeq (o :: (r ++ [.lst xs])) (.ref (r.length + 1)) = some ⟨xs, some (r.length + 1, xs)⟩ := by
  unfold iSeq
  simp only [rl_get]
theorem rl_chk {on : List D} : chk ⟨on, some (r.length + 1, xs)⟩ (o :: (r ++ [.lst xs])) = true := by
  unfold chk
  simp only [rl_get, decide_true]
/-! the same behind any store -/
theorem ap_isl : isLst r.length (r ++ [.lst xs]) = true := by
  unfold isLst
  rw [get_app]
theorem ap_app (y : D) (h : xs.length < 1000000) : appOf r.length y (r ++ [.lst xs]) = some (r ++ [.lst (xs ++ [y])]) := by
  unfold appOf
  rw [get_app]
  show (if xs.length < big then _ else _) = _
  rw [if_pos (show xs.length < big from h), set_app]
theorem ap_seq : seqOf (r ++ [.lst xs]) (.ref r.length) = some xs := by
  unfold seqOf
  simp only [get_app]
theorem ap_len : bLen (r ++ [.lst xs]) [.ref r.length] = some (.int xs.length) := by
  show (seqOf _ _).map _ = _
  rw [ap_seq]
  rfl
theorem ap_ix (i : Int) : dIx (r ++ [.lst xs]) (.ref r.length) (.int i) = L2.atI xs i := by
  unfold dIx
  simp only [ap_seq]
  rfl
theorem ap_iseq : iSeq (r ++ [.lst xs]) (.ref r.length) = some ⟨xs, some (r.length, xs)⟩ := by
  unfold iSeq
  simp only [get_app]
theorem ap_chk {on : List D} : chk ⟨on, some (r.length, xs)⟩ (r ++ [.lst xs]) = true := by
  unfold chk
  simp only [get_app, decide_true]
theorem fins_ints (n : Nat) (s : S) : ∀ rs : List Int, finsS n s (rs.map D.int) = some (rs.map D.int)
  | [] => rfl
  | x :: rs => by
    rw [List.map_cons, finsS, fins_ints n s rs]
    rfl
theorem fin_ints (rs : List Int) : fin2 r.length (r ++ [.lst (rs.map D.int)]) (.ref r.length) = some (.lst (rs.map D.int)) := by
  unfold fin2
  dsimp only
  rw [if_neg (Nat.lt_irrefl _), get_app]
  dsimp only
  rw [fins_ints]
  rfl
theorem atI_map {α : Type} {f : α → D} {ys : List α} {i : Nat} {y : α} (h : ys[i]? = some y) : L2.atI (ys.map f) (i : Int) = some (f y) := by
  obtain ⟨hi, e⟩ := List.getElem?_eq_some_iff.mp h
  rw [atI_in (by omega) (by rw [List.length_map]; omega), Int.toNat_natCast, List.getElem?_map, h]
  rfl
/-! texts that are written in the law -/
theorem shaped_str {x : Str} (h : PyData.strOk x = true) : SeqAt.shaped (.str x) = true := by
  simp [SeqAt.shaped, PyData.canLay0, PyData.depth, h]
theorem dEqD_str (neg : Bool) (s : S) (x y : Str) (hx : PyData.strOk x = true) (hy : PyData.strOk y = true) : dEqD neg s (.str x) (.str y) = some (.bl (if neg = true then !(x == y) else x == y)) := by
  unfold dEqD
  simp only [toPyT, toPy, PyData.eqv]
  rw [if_pos ⟨shaped_str hx, shaped_str hy⟩]
theorem eqS {s : S} {x y : Str} {b : Bool} (hx : PyData.strOk x = true) (hy : PyData.strOk y = true) (hb : (x == y) = b) : dEqD false s (.str x) (.str y) = some (.bl b) := by
  rw [dEqD_str false s x y hx hy, hb]
  rfl
theorem neS {s : S} {x y : Str} {b : Bool} (hx : PyData.strOk x = true) (hy : PyData.strOk y = true) (hb : (x == y) = !b) : dEqD true s (.str x) (.str y) = some (.bl b) := by
  rw [dEqD_str true s x y hx hy, hb]
  cases b <;> rfl
theorem eq_si {a : Str} (ha : PyData.strOk a = true) (neg : Bool) (s : S) (x y : Int) : dEqD neg s (.tup [.str a, .int x]) (.tup [.str a, .int y]) = some (.bl (if neg = true then !decide (x = y) else decide (x = y))) := by
  unfold dEqD
  simp only [toPyT, toPy, toPys, Option.map, PyData.eqv, PyData.eqvAll]
  rw [if_pos ⟨by simp [SeqAt.shaped, PyData.canLay0, PyData.canLayAll0, PyData.depth, PyData.depthAll, ha], by simp [SeqAt.shaped, PyData.canLay0, PyData.canLayAll0, PyData.depth, PyData.depthAll, ha]⟩]
  by_cases h : x = y
  · simp [h]
  · have e : (x == y) = false := by simp [h]
    simp [h, e]
theorem eq_ss {a b : Str} (ha : PyData.strOk a = true) (hb : PyData.strOk b = true) (neg : Bool) (s : S) : dEqD neg s (.tup [.str a, .str b]) (.tup [.str a, .str b]) = some (.bl (!neg)) := by
  unfold dEqD
  simp only [toPyT, toPy, toPys, Option.map, PyData.eqv, PyData.eqvAll]
  rw [if_pos ⟨by simp [SeqAt.shaped, PyData.canLay0, PyData.canLayAll0, PyData.depth, PyData.depthAll, ha, hb], by simp [SeqAt.shaped, PyData.canLay0, PyData.canLayAll0, PyData.depth, PyData.depthAll, ha, hb]⟩]
  cases neg <;> simp
end SI

/-! == of data with itself -/
namespace SI
open PySem L2
/-- data of at most n levels -/
def dOk : Nat → D → Bool
  | _, .non => true
  | _, .bl _ => true
  | _, .int _ => true
  | _, .str x => PyData.strOk x
  | n + 1, .tup xs => xs.all (dOk n)
  | n + 1, .lst xs => xs.all (dOk n)
  | _, _ => false
theorem toPy_ok (s : S) : ∀ (n : Nat) (d : D), dOk n d = true → ∃ y, toPy s d = some y ∧ y.canLay0 = true ∧ y.depth ≤ n := by
  intro n
  induction n with
  | zero =>
    intro d h
    cases d <;> simp only [dOk, Bool.false_eq_true] at h <;> exact ⟨_, rfl, by simp [PyData.canLay0, *], by simp [PyData.depth]⟩
  | succ n ih =>
    have all : ∀ xs : List D, xs.all (dOk n) = true → ∃ ys, toPys s xs = some ys ∧ PyData.canLayAll0 ys = true ∧ PyData.depthAll ys ≤ n := fun xs => by
      induction xs with
      | nil => exact fun _ => ⟨[], rfl, rfl, by simp [PyData.depthAll]⟩
      | cons x xs ih2 =>
        intro h
        simp only [List.all_cons, Bool.and_eq_true] at h
        obtain ⟨y, e1, e2, e3⟩ := ih x h.1
        obtain ⟨ys, e4, e5, e6⟩ := ih2 h.2
        refine ⟨y :: ys, by simp only [toPys, e1, e4], by simp [PyData.canLayAll0, e2, e5], ?_⟩
        simp only [PyData.depthAll]
        omega
    intro d h
    cases d <;> simp only [dOk, Bool.false_eq_true] at h
    · exact ⟨_, rfl, by simp [PyData.canLay0, *], by simp [PyData.depth]⟩
    · exact ⟨_, rfl, by simp [PyData.canLay0, *], by simp [PyData.depth]⟩
    · exact ⟨_, rfl, by simp [PyData.canLay0, *], by simp [PyData.depth]⟩
    · exact ⟨_, rfl, by simp [PyData.canLay0, *], by simp [PyData.depth]⟩
    · obtain ⟨ys, e1, e2, e3⟩ := all _ h
      refine ⟨.tuple ys, by simp only [toPy, e1, Option.map_some], by simpa [PyData.canLay0] using e2, ?_⟩
      simp only [PyData.depth]
      omega
    · obtain ⟨ys, e1, e2, e3⟩ := all _ h
      refine ⟨.list ys, by simp only [toPy, e1, Option.map_some], by simpa [PyData.canLay0] using e2, ?_⟩
      simp only [PyData.depth]
      omega
theorem shaped_of {y : PyData} (h1 : y.canLay0 = true) (h2 : y.depth ≤ 64) : SeqAt.shaped y = true := by
  unfold SeqAt.shaped
  simp [h1, h2]
theorem eq_py {neg : Bool} {s : S} {a b : D} {y : PyData} (ha : toPyT s a = some y) (hb : toPyT s b = some y) (h1 : y.canLay0 = true) (h2 : y.depth ≤ 64) : dEqD neg s a b = some (.bl (!neg)) := by
  unfold dEqD
  rw [ha, hb]
  simp only [shaped_of h1 h2, and_self, if_true, SeqAt.eqv_refl y h1]
  cases neg <;> rfl
theorem toPyT_eq {s : S} {d : D} (h : ∀ n, d ≠ .ref n) : toPyT s d = toPy s d := by
  unfold toPyT
  split
  · exact absurd rfl (h _)
  · rfl
theorem dOk_ref {n k : Nat} (h : dOk n (.ref k) = true) : False := by
  cases n <;> simp [dOk] at h
/-- a thing == itself -/
theorem eq_self {neg : Bool} {s : S} {d : D} {n : Nat} (h : dOk n d = true) (hn : n ≤ 60) : dEqD neg s d d = some (.bl (!neg)) := by
  obtain ⟨y, e1, e2, e3⟩ := toPy_ok s n d h
  have e4 : toPyT s d = some y := by
    rw [toPyT_eq fun k e => by subst e; exact dOk_ref h]
    exact e1
  exact eq_py e4 e4 e2 (by omega)
/-- a list == the tracked list of the same items -/
theorem eq_ref {neg : Bool} {s : S} {xs : List D} {n k : Nat} (h : dOk n (.lst xs) = true) (hn : n ≤ 60) (hs : s[k]? = some (.lst xs)) : dEqD neg s (.lst xs) (.ref k) = some (.bl (!neg)) := by
  obtain ⟨y, e1, e2, e3⟩ := toPy_ok s n _ h
  refine eq_py (y := y) e1 ?_ e2 (by omega)
  unfold toPyT
  dsimp only
  rw [hs]
  exact e1
theorem dOk_ints (n : Nat) (rs : List Int) : dOk (n + 1) (.lst (rs.map D.int)) = true := by
  simp only [dOk, List.all_map, List.all_eq_true]
  intro x _
  cases n <;> rfl
theorem dOk_intsT (n : Nat) (rs : List Int) : dOk (n + 1) (.tup (rs.map D.int)) = true := by
  simp only [dOk, List.all_map, List.all_eq_true]
  intro x _
  cases n <;> rfl
/-- for x in a tracked list that stays -/
theorem ws_trk {α : Type} {f : α → D} {q : Tg} {body : FS} {B : Bs} {xs : List α} {r : Src} {L : Lc} {s : S} (I : Nat → Lc → S → Prop) (h0 : I 0 L s) (hc : ∀ i L s, I i L s → chk r s = true)
    (hs : ∀ i (hi : i < xs.length) L s, I i L s → @WO _ (q (f xs[i]) L) ⟨fun L1 => @WS (body L1 s) ⟨I (i + 1), B.rt, B.nx, I (i + 1), B.ex⟩⟩)
    (he : ∀ L s, I xs.length L s → B.nx L s) : @WS (forL q body r (xs.map f) L s) B := by
  refine ws_for I (xs.map f) 0 h0 (fun i d L s e hi => ⟨hc _ _ _ hi, ?_⟩) (fun L s hi => ⟨hc _ _ _ hi, he L s ?_⟩)
  · rw [Nat.zero_add] at hi ⊢
    rw [List.getElem?_map] at e
    obtain ⟨x, ex, rfl⟩ := Option.map_eq_some_iff.mp e
    obtain ⟨hj, ej⟩ := List.getElem?_eq_some_iff.mp ex
    subst ej
    exact hs i hj L s hi
  · rw [Nat.zero_add, List.length_map] at hi
    exact hi
end SI

/-! list comprehensions over plain data -/
namespace SI
open PySem L2
variable {L : Lc} {s : S} {Q : Cn (D → S → Prop)} {E : Cn (Addr → List Str → List D → S → Prop)}
theorem lc_run {α : Type} {q : Tg} {t : F Bool} {fe : F D} {r : Src} {L0 : Lc} {s : S} (f : α → D) (p : α → Bool) (g : α → D) (hc : ∀ acc, chk r (s ++ [.lst acc]) = true) : ∀ (xs : List α) (acc : List D), acc.length + xs.length ≤ 1000000 →
    (∀ x ∈ xs, ∀ acc, @WO _ (q (f x) L0) ⟨fun L1 => @WR _ (t L1 (s ++ [.lst acc])) ⟨fun b s' => b = p x ∧ s' = s ++ [.lst acc] ∧ (p x = true → @WR _ (fe L1 (s ++ [.lst acc])) ⟨fun y s'' => y = g x ∧ s'' = s ++ [.lst acc]⟩ ⟨nE⟩)⟩ ⟨nE⟩⟩) →
    lcL q t fe r L0 s.length (xs.map f) (s ++ [.lst acc]) = .ok () (s ++ [.lst (acc ++ (xs.filter p).map g)])
  | [], acc, _, _ => by
    rw [List.map_nil, lcL, if_pos (hc acc)]
    simp
  | x :: xs, acc, hl, hx => by
    have h1 := hx x (List.mem_cons_self ..) acc
    rw [List.map_cons, lcL, if_pos (hc acc)]
    cases eq : q (f x) L0 with
    | none =>
      rw [eq] at h1
      exact h1.elim
    | some L1 =>
      rw [eq] at h1
      have h1' : @WR _ (t L1 (s ++ [.lst acc])) ⟨fun b s' => b = p x ∧ s' = s ++ [.lst acc] ∧ (p x = true → @WR _ (fe L1 (s ++ [.lst acc])) ⟨fun y s'' => y = g x ∧ s'' = s ++ [.lst acc]⟩ ⟨nE⟩)⟩ ⟨nE⟩ := h1
      obtain ⟨b, s', e1, rfl, rfl, h2⟩ := ex_ok h1'
      dsimp only
      rw [e1, R_bind_ok]
      rw [List.length_cons] at hl
      cases hp : p x with
      | true =>
        obtain ⟨y, s'', e2, rfl, rfl⟩ := ex_ok (h2 hp)
        rw [if_pos rfl, e2, R_bind_ok, get_app]
        dsimp only
        rw [if_pos (show acc.length < big by show acc.length < 1000000; omega), set_app, lc_run f p g hc xs _ (by simp; omega) fun z hz => hx z (List.mem_cons_of_mem _ hz)]
        simp [hp]
      | false =>
        rw [if_neg (by simp), lc_run f p g hc xs acc (by omega) fun z hz => hx z (List.mem_cons_of_mem _ hz)]
        simp [hp]
theorem lc_wp {α : Type} {q : Tg} {t : F Bool} {fe : F D} {vs : List Nat} {r : Src} (xs : List α) (f : α → D) (p : α → Bool) (g : α → D) (hr : r.items = xs.map f) (hc : ∀ acc, chk r (s ++ [.lst acc]) = true) (hl : xs.length ≤ 1000000)
    (hx : ∀ x ∈ xs, ∀ acc, @WO _ (q (f x) (wipeD L vs)) ⟨fun L1 => @WR _ (t L1 (s ++ [.lst acc])) ⟨fun b s' => b = p x ∧ s' = s ++ [.lst acc] ∧ (p x = true → @WR _ (fe L1 (s ++ [.lst acc])) ⟨fun y s'' => y = g x ∧ s'' = s ++ [.lst acc]⟩ ⟨nE⟩)⟩ ⟨nE⟩⟩)
    (hb1 : s.all (O.bel s.length) = true) (hb2 : D.bels s.length ((xs.filter p).map g) = true) (hQ : Q (.lst ((xs.filter p).map g)) s) : @WR _ (lcE q t fe vs L r s) Q E := by
  have e := lc_run (L0 := wipeD L vs) (s := s) (fe := fe) (r := r) f p g hc xs [] (by simpa using hl) hx
  unfold lcE
  rw [hr, e, List.nil_append]
  show @WR _ (match (s ++ [O.lst ((xs.filter p).map g)])[s.length]? with
    | some (.lst ys) => _
    | _ => .bad) Q E
  rw [get_app]
  dsimp only
  rw [List.take_left, if_pos ⟨hb1, hb2⟩]
  exact hQ
/-- without a test -/
theorem lc_all {α : Type} {q : Tg} {fe : F D} {vs : List Nat} {r : Src} (xs : List α) (f g : α → D) (hr : r.items = xs.map f) (hc : ∀ acc, chk r (s ++ [.lst acc]) = true) (hl : xs.length ≤ 1000000)
    (hx : ∀ x ∈ xs, ∀ acc, @WO _ (q (f x) (wipeD L vs)) ⟨fun L1 => @WR _ (fe L1 (s ++ [.lst acc])) ⟨fun y s'' => y = g x ∧ s'' = s ++ [.lst acc]⟩ ⟨nE⟩⟩)
    (hb1 : s.all (O.bel s.length) = true) (hb2 : D.bels s.length (xs.map g) = true) (hQ : Q (.lst (xs.map g)) s) : @WR _ (lcE q fYes fe vs L r s) Q E := by
  have ef : xs.filter (fun _ => true) = xs := by simp
  refine lc_wp xs f (fun _ => true) g hr hc hl (fun x h acc => ?_) hb1 (by rw [ef]; exact hb2) (by rw [ef]; exact hQ)
  have h1 := hx x h acc
  cases eq : q (f x) (wipeD L vs) with
  | none =>
    rw [eq] at h1
    exact h1.elim
  | some L1 =>
    rw [eq] at h1
    exact ⟨rfl, rfl, fun _ => h1⟩
theorem lcT_all {α : Type} {q : Tg} {fe : F D} {vs : List Nat} {r : Src} (xs : List α) (f g : α → D) (hr : r.items = xs.map f) (hc : ∀ acc, chk r (s ++ [.lst acc]) = true) (hl : xs.length ≤ 1000000)
    (hx : ∀ x ∈ xs, ∀ acc, @WO _ (q (f x) (wipeD L vs)) ⟨fun L1 => @WR _ (fe L1 (s ++ [.lst acc])) ⟨fun y s'' => y = g x ∧ s'' = s ++ [.lst acc]⟩ ⟨nE⟩⟩)
    (hQ : Q (.ref s.length) (s ++ [.lst (xs.map g)])) : @WR _ (lcTE q fYes fe vs L r s) Q E := by
  have ef : xs.filter (fun _ => true) = xs := by simp
  have e := lc_run (q := q) (L0 := wipeD L vs) (s := s) (t := fYes) (fe := fe) (r := r) f (fun _ => true) g hc xs [] (by simpa using hl) (fun x h acc => by
    have h1 := hx x h acc
    cases eq : q (f x) (wipeD L vs) with
    | none =>
      rw [eq] at h1
      exact h1.elim
    | some L1 =>
      rw [eq] at h1
      exact ⟨rfl, rfl, fun _ => h1⟩)
  unfold lcTE
  rw [hr, e, List.nil_append, ef]
  show @WR _ (match (s ++ [O.lst (xs.map g)])[s.length]? with
    | some (.lst ys) => _
    | _ => .bad) Q E
  rw [get_app]
  exact hQ
theorem rg_map (lo : Int) (n : Nat) : rgItems lo n = (List.range n).map fun (k : Nat) => D.int (lo + (k : Int)) := rfl
theorem bels_ints (n : Nat) (rs : List Int) : D.bels n (rs.map D.int) = true := bels_intsC n rs
theorem bel_src (v : SrcV) (n : Nat) : O.bel n v.o = true := src_bel v n
end SI
namespace SI
open PySem L2
theorem ap_ixL {r : S} {xs : List D} (i : Int) : dIxL (r ++ [.lst xs]) (.ref r.length) (.int i) = L2.atI xs i := by
  unfold dIxL lstOf
  simp only [get_app]
  rfl
theorem ap_put {r : S} {xs : List D} {k : Nat} (h : k < xs.length) (d : D) : dPut (r ++ [.lst xs]) (.ref r.length) (.int k) d = some (r ++ [.lst (xs.set k d)]) := by
  unfold dPut
  simp only [get_app]
  unfold ixN
  rw [if_pos (by omega), if_pos (by omega)]
  simp only [Option.bind_some, Int.toNat_natCast, set_app]
theorem set_range {α : Type} (n k : Nat) (f : Nat → α) (v : α) : ((List.range n).map f).set k v = (List.range n).map fun u => if u = k then v else f u := by
  apply List.ext_getElem?
  intro i
  rw [List.getElem?_set, List.getElem?_map, List.getElem?_map, List.length_map, List.length_range]
  by_cases h : k = i
  · subst h
    by_cases hk : k < n
    · rw [List.getElem?_range hk]
      simp [hk]
    · rw [List.getElem?_eq_none (by simpa using hk)]
      simp [hk]
  · rw [if_neg h]
    by_cases hi : i < n
    · rw [List.getElem?_range hi]
      simp [show ¬ i = k from fun e => h e.symm]
    · rw [List.getElem?_eq_none (by simpa using hi)]
      rfl
theorem at_range {n k : Nat} (h : k < n) (f : Nat → D) : L2.atI ((List.range n).map f) (k : Int) = some (f k) := atI_map (by rw [List.getElem?_range h])
end SI

/-! the least period of rounds -/
namespace Pg
open PySem L2 SI Mt
variable {c : Cl} {M : Mc}
/-- no receiving overlaps a sending -/
def Clr (l d : Int) (k : Nat) (p : Int) : Prop := ∀ q : Nat, 1 ≤ q → q ≤ k → ¬ (l < q * p ∧ q * p < d)
def clrB (l d : Int) (k : Nat) (p : Int) : Bool := (List.range k).all fun i => !(decide (l < ((i + 1 : Nat) : Int) * p) && decide (((i + 1 : Nat) : Int) * p < d))
theorem clrB_iff {l d : Int} {k : Nat} {p : Int} : clrB l d k p = true ↔ Clr l d k p := by
  unfold clrB Clr
  rw [List.all_eq_true]
  constructor
  · intro h q q0 q1 hq
    have := h (q - 1) (List.mem_range.mpr (by omega))
    rw [show q - 1 + 1 = q by omega] at this
    simp [hq.1, hq.2] at this
  · intro h i hi
    have := h (i + 1) (by omega) (by have := List.mem_range.mp hi; omega)
    by_cases h1 : l < ((i + 1 : Nat) : Int) * p
    · have h2 : ¬ ((i + 1 : Nat) : Int) * p < d := fun z => this ⟨h1, z⟩
      simp only [h1, h2, decide_true, decide_false, Bool.and_false, Bool.not_false]
    · simp only [h1, decide_false, Bool.false_and, Bool.not_false]
theorem clr_big {l d p : Int} (h : d ≤ p) (h0 : 0 ≤ p) (k : Nat) : Clr l d k p := fun q q0 _ hq => by
  have : 1 * p ≤ q * p := Int.mul_le_mul_of_nonneg_right (by omega) h0
  omega
/-- d by q, rounded up -/
def cdv (d : Int) (q : Nat) : Int := (d + q - 1) / q
theorem cdv_le {d p : Int} {q : Nat} (q0 : 1 ≤ q) : cdv d q ≤ p ↔ d ≤ q * p := by
  unfold cdv
  constructor
  · intro h
    have := Int.lt_mul_of_ediv_lt (a := d + q - 1) (b := p + 1) (c := q) (by omega) (by omega)
    rw [Int.add_mul, Int.mul_comm p q] at this
    omega
  · intro h
    have : (d + q - 1) / q < p + 1 := Int.ediv_lt_of_lt_mul (by omega) (by rw [Int.add_mul, Int.mul_comm p q]; omega)
    omega
theorem cdv_lt {d p : Int} {q : Nat} (q0 : 1 ≤ q) : p < cdv d q ↔ q * p < d := by
  have := cdv_le (d := d) (p := p) q0
  omega
/-- what may be the least period -/
def cds (d g : Int) (k : Nat) : List Int := g :: ((List.range k).map fun i => cdv d (i + 1)).filter fun x => decide (g < x)
structure LP (l d g : Int) (k : Nat) (p : Int) : Prop where
  ge : g ≤ p
  clr : Clr l d k p
  le : ∀ p', g ≤ p' → Clr l d k p' → p ≤ p'
theorem LP.uniq {l d g : Int} {k : Nat} {p p' : Int} (h : LP l d g k p) (h' : LP l d g k p') : p = p' :=
  Int.le_antisymm (h.le _ h'.ge h'.clr) (h'.le _ h.ge h.clr)
theorem cand {l d g : Int} {k : Nat} : ∀ (n : Nat) {p : Int}, g ≤ p → (p - g).toNat ≤ n → Clr l d k p → ∃ x ∈ (cds d g k).filter (clrB l d k), x ≤ p
  | 0, p, h1, h2, h3 => by
    have e : p = g := by omega
    subst e
    exact ⟨p, List.mem_filter.mpr ⟨List.mem_cons_self .., clrB_iff.mpr h3⟩, Int.le_refl _⟩
  | n + 1, p, h1, h2, h3 => by
    by_cases e : p = g
    · subst e
      exact ⟨p, List.mem_filter.mpr ⟨List.mem_cons_self .., clrB_iff.mpr h3⟩, Int.le_refl _⟩
    · by_cases hc : Clr l d k (p - 1)
      · obtain ⟨x, hx, hl⟩ := cand (l := l) (d := d) (g := g) (k := k) n (p := p - 1) (by omega) (by omega) hc
        exact ⟨x, hx, by omega⟩
      · obtain ⟨q, hq⟩ := Classical.not_forall.mp hc
        obtain ⟨q0, hq⟩ := Classical.not_imp.mp hq
        obtain ⟨q1, hq⟩ := Classical.not_imp.mp hq
        obtain ⟨a, b⟩ := Classical.not_not.mp hq
        have h4 := h3 q q0 q1
        have e1 : (q : Int) * p = q * (p - 1) + q := by rw [Int.mul_sub, Int.mul_one]; omega
        have h5 : d ≤ q * p := by
          rcases Int.lt_or_le (q * p) d with z | z
          · exact absurd ⟨by omega, z⟩ h4
          · exact z
        have e2 : p = cdv d q := by
          have a1 := (cdv_le (d := d) q0).mpr h5
          have a2 := (cdv_lt (d := d) (p := p - 1) q0).mpr b
          omega
        refine ⟨p, List.mem_filter.mpr ⟨List.mem_cons_of_mem _ (List.mem_filter.mpr ⟨List.mem_map.mpr ⟨q - 1, List.mem_range.mpr (by omega), ?_⟩, by simp; omega⟩), clrB_iff.mpr h3⟩, Int.le_refl _⟩
        rw [show q - 1 + 1 = q by omega, ← e2]
theorem cds_ge {d g : Int} {k : Nat} {x : Int} (h : x ∈ cds d g k) : g ≤ x := by
  rcases List.mem_cons.mp h with rfl | e
  · exact Int.le_refl _
  · have := (List.mem_filter.mp e).2
    simp at this
    omega
theorem lp_ex (l : Int) {d g : Int} (g0 : 0 ≤ g) (k : Nat) : ∃ p, lsI ((cds d g k).filter (clrB l d k)) = some p ∧ LP l d g k p ∧ p ≤ max g d := by
  have key : ∀ {p' : Int}, g ≤ p' → Clr l d k p' → ∃ x ∈ (cds d g k).filter (clrB l d k), x ≤ p' := fun h1 h2 => cand _ h1 (Nat.le_refl _) h2
  obtain ⟨x, hx, hl⟩ := key (p' := max g d) (by omega) (clr_big (by omega) (by omega) k)
  cases e : lsI ((cds d g k).filter (clrB l d k)) with
  | none =>
    cases e' : (cds d g k).filter (clrB l d k) with
    | nil => rw [e'] at hx; cases hx
    | cons => rw [e'] at e; cases e
  | some p =>
    obtain ⟨m1, m2⟩ := lsI_mem e
    obtain ⟨m3, m4⟩ := List.mem_filter.mp m1
    refine ⟨p, rfl, ⟨cds_ge m3, clrB_iff.mp m4, fun p' h1 h2 => ?_⟩, by have := m2 x hx; omega⟩
    obtain ⟨y, hy, hl'⟩ := key h1 h2
    have := m2 y hy
    omega
theorem qp_ok (s : S) {q : Nat} {p : Int} (hq : q ≤ 100) (p0 : 0 ≤ p) (p1 : p ≤ 10 ^ 20) : dMul s (.int q) (.int p) = some (.int (q * p)) := dMul_small (by omega) (by omega) (by omega) (by omega)
theorem clear_ok (hM : M.Ok) {n : Nat} (hn : n ≤ 42) {p : Int} (p0 : 0 ≤ p) (p1 : p ≤ 10 ^ 20) (s : S) : G_is_clear c [M.d c, .int n, .int p] s = .ok (.bl (clrB M.l M.letter (n - 2) p)) s := by
  apply eq_ok
  unfold G_is_clear
  simp (implicitDefEqProofs := false) only [↓w_lcT, ↓w_mth, ↓w_calm, ↓w_tryM, ↓w_tm0, ↓w_tmN, ↓w_tmS, ↓w_seq, ↓w_next, ↓w_break, ↓w_cont, ↓w_retN, ↓w_asg, ↓w_expr, ↓w_ret, ↓w_if, ↓w_asgG, ↓w_for, ↓w_put, ↓w_aug, ↓w_augS, ↓w_raise0, ↓w_raise1, ↓w_raise2, ↓w_try, ↓w_tryAs, ↓w_var, ↓w_c, ↓w_op, ↓w_chain, ↓w_notV, ↓w_andV, ↓w_orV, ↓w_ifE, ↓w_tst, ↓w_not, ↓w_and, ↓w_or, ↓w_yes, ↓w_nil, ↓w_cons, ↓w_tup, ↓w_lst, ↓w_lstT, ↓w_cb, ↓w_call, ↓w_callK, ↓w_neg, ↓w_no, ↓w_pt, ↓w_sl, ↓w_fld, ↓w_src, ↓w_rng, ↓w_enu, ↓w_listT, ↓w_app, ↓w_lc, ↓w_xf, ↓w_fldT, ↓w_make, ↓w_makeL, ↓w_run, ↓w_cut, ↓w_pure, ↓w_drop, w_ok, w_ex, w_nx, w_rt, w_bk, w_ct, w_exS, w_some, w_v, w_tr, w_fa, w_tb, w_ti, w_tn, w_L, w_L0, wb_not, cn_f, startD, arr, gN_eq, gTp, gCn, gNl, Option.bind_some, List.filterMap_cons, List.filterMap_nil, List.map_cons, List.map_nil, List.replicate_succ, List.replicate_zero, List.cons_append, List.nil_append, List.getElem?_cons_zero, List.getElem?_cons_succ, List.set_cons_zero, List.set_cons_succ, List.length_cons, List.length_nil, Nat.reduceAdd, Nat.reduceSub, Nat.reduceLeDiff, Nat.reduceEqDiff, Int.reducePow, Int.reduceToNat, Int.reduceNeg, Int.reduceAdd, Int.reduceMul, Int.reduceSub, Int.reduceLT, Int.reduceLE, Int.reduceEq, Nat.zero_add, Int.zero_add, big_eq, true_and, and_true, and_self, dSub_int, dAdd_int, dAddI_int, dLt_int, dLe_int, dGt_int, dGe_int, dEqD_int, bInt_int, bLen_lst, bLen_tup, bMin_int, bMax_int, bAbs_int, dIs_non, dIs_int, dIs_nn, Bool.not_true, Bool.not_false, decide_true, decide_false, reduceIte, Bool.false_eq_true, if_false, if_true, iSeq_lst, iSeq_tup, iSeq_rdl, iEnu_lst, iEnu_tup]
  rw [rng2 (by decide) (by decide) (by omega) (by omega), w_some, show ((n : Int) - 1 - 1).toNat = n - 2 by omega]
  refine ws_rng (fun i L s' => ∃ y3, L = [some (M.d c), some (.int n), some (.int p), y3] ∧ s = s' ∧ clrB M.l M.letter i p = true) ⟨none, rfl, rfl, rfl⟩ ?_ ?_
  · rintro i L s' hi ⟨y3, rfl, rfl, hc⟩
    have eq1 : (1 : Int) + i = ((i + 1 : Nat) : Int) := by omega
    have stp : clrB M.l M.letter (i + 1) p = !(decide (M.l < ((i + 1 : Nat) : Int) * p) && decide (((i + 1 : Nat) : Int) * p < M.letter)) := by
      have : clrB M.l M.letter (i + 1) p = (clrB M.l M.letter i p && !(decide (M.l < ((i + 1 : Nat) : Int) * p) && decide (((i + 1 : Nat) : Int) * p < M.letter))) := by
        unfold clrB
        rw [List.range_succ, List.all_append]
        simp
      rw [this, hc, Bool.true_and]
    rw [eq1]
    simp (implicitDefEqProofs := false) only [fld_l, fld_letter, qp_ok s (show i + 1 ≤ 100 by omega) p0 p1, ↓w_lcT, ↓w_mth, ↓w_calm, ↓w_tryM, ↓w_tm0, ↓w_tmN, ↓w_tmS, ↓w_seq, ↓w_next, ↓w_break, ↓w_cont, ↓w_retN, ↓w_asg, ↓w_expr, ↓w_ret, ↓w_if, ↓w_asgG, ↓w_for, ↓w_put, ↓w_aug, ↓w_augS, ↓w_raise0, ↓w_raise1, ↓w_raise2, ↓w_try, ↓w_tryAs, ↓w_var, ↓w_c, ↓w_op, ↓w_chain, ↓w_notV, ↓w_andV, ↓w_orV, ↓w_ifE, ↓w_tst, ↓w_not, ↓w_and, ↓w_or, ↓w_yes, ↓w_nil, ↓w_cons, ↓w_tup, ↓w_lst, ↓w_lstT, ↓w_cb, ↓w_call, ↓w_callK, ↓w_neg, ↓w_no, ↓w_pt, ↓w_sl, ↓w_fld, ↓w_src, ↓w_rng, ↓w_enu, ↓w_listT, ↓w_app, ↓w_lc, ↓w_xf, ↓w_fldT, ↓w_make, ↓w_makeL, ↓w_run, ↓w_cut, ↓w_pure, ↓w_drop, w_ok, w_ex, w_nx, w_rt, w_bk, w_ct, w_exS, w_some, w_v, w_tr, w_fa, w_tb, w_ti, w_tn, w_L, w_L0, wb_not, cn_f, startD, arr, gN_eq, gTp, gCn, gNl, Option.bind_some, List.filterMap_cons, List.filterMap_nil, List.map_cons, List.map_nil, List.replicate_succ, List.replicate_zero, List.cons_append, List.nil_append, List.getElem?_cons_zero, List.getElem?_cons_succ, List.set_cons_zero, List.set_cons_succ, List.length_cons, List.length_nil, Nat.reduceAdd, Nat.reduceSub, Nat.reduceLeDiff, Nat.reduceEqDiff, Int.reducePow, Int.reduceToNat, Int.reduceNeg, Int.reduceAdd, Int.reduceMul, Int.reduceSub, Int.reduceLT, Int.reduceLE, Int.reduceEq, Nat.zero_add, Int.zero_add, big_eq, true_and, and_true, and_self, dSub_int, dAdd_int, dAddI_int, dLt_int, dLe_int, dGt_int, dGe_int, dEqD_int, bInt_int, bLen_lst, bLen_tup, bMin_int, bMax_int, bAbs_int, dIs_non, dIs_int, dIs_nn, Bool.not_true, Bool.not_false, decide_true, decide_false, reduceIte, Bool.false_eq_true, if_false, if_true, iSeq_lst, iSeq_tup, iSeq_rdl, iEnu_lst, iEnu_tup]
    refine wb_dec (fun h1 => ?_) (fun h1 => ?_)
    · simp (implicitDefEqProofs := false) only [fld_l, fld_letter, ↓w_lcT, ↓w_mth, ↓w_calm, ↓w_tryM, ↓w_tm0, ↓w_tmN, ↓w_tmS, ↓w_seq, ↓w_next, ↓w_break, ↓w_cont, ↓w_retN, ↓w_asg, ↓w_expr, ↓w_ret, ↓w_if, ↓w_asgG, ↓w_for, ↓w_put, ↓w_aug, ↓w_augS, ↓w_raise0, ↓w_raise1, ↓w_raise2, ↓w_try, ↓w_tryAs, ↓w_var, ↓w_c, ↓w_op, ↓w_chain, ↓w_notV, ↓w_andV, ↓w_orV, ↓w_ifE, ↓w_tst, ↓w_not, ↓w_and, ↓w_or, ↓w_yes, ↓w_nil, ↓w_cons, ↓w_tup, ↓w_lst, ↓w_lstT, ↓w_cb, ↓w_call, ↓w_callK, ↓w_neg, ↓w_no, ↓w_pt, ↓w_sl, ↓w_fld, ↓w_src, ↓w_rng, ↓w_enu, ↓w_listT, ↓w_app, ↓w_lc, ↓w_xf, ↓w_fldT, ↓w_make, ↓w_makeL, ↓w_run, ↓w_cut, ↓w_pure, ↓w_drop, w_ok, w_ex, w_nx, w_rt, w_bk, w_ct, w_exS, w_some, w_v, w_tr, w_fa, w_tb, w_ti, w_tn, w_L, w_L0, wb_not, cn_f, startD, arr, gN_eq, gTp, gCn, gNl, Option.bind_some, List.filterMap_cons, List.filterMap_nil, List.map_cons, List.map_nil, List.replicate_succ, List.replicate_zero, List.cons_append, List.nil_append, List.getElem?_cons_zero, List.getElem?_cons_succ, List.set_cons_zero, List.set_cons_succ, List.length_cons, List.length_nil, Nat.reduceAdd, Nat.reduceSub, Nat.reduceLeDiff, Nat.reduceEqDiff, Int.reducePow, Int.reduceToNat, Int.reduceNeg, Int.reduceAdd, Int.reduceMul, Int.reduceSub, Int.reduceLT, Int.reduceLE, Int.reduceEq, Nat.zero_add, Int.zero_add, big_eq, true_and, and_true, and_self, dSub_int, dAdd_int, dAddI_int, dLt_int, dLe_int, dGt_int, dGe_int, dEqD_int, bInt_int, bLen_lst, bLen_tup, bMin_int, bMax_int, bAbs_int, dIs_non, dIs_int, dIs_nn, Bool.not_true, Bool.not_false, decide_true, decide_false, reduceIte, Bool.false_eq_true, if_false, if_true, iSeq_lst, iSeq_tup, iSeq_rdl, iEnu_lst, iEnu_tup]
      refine wb_dec (fun h2 => ?_) (fun h2 => ?_)
      · simp (implicitDefEqProofs := false) only [↓w_lcT, ↓w_mth, ↓w_calm, ↓w_tryM, ↓w_tm0, ↓w_tmN, ↓w_tmS, ↓w_seq, ↓w_next, ↓w_break, ↓w_cont, ↓w_retN, ↓w_asg, ↓w_expr, ↓w_ret, ↓w_if, ↓w_asgG, ↓w_for, ↓w_put, ↓w_aug, ↓w_augS, ↓w_raise0, ↓w_raise1, ↓w_raise2, ↓w_try, ↓w_tryAs, ↓w_var, ↓w_c, ↓w_op, ↓w_chain, ↓w_notV, ↓w_andV, ↓w_orV, ↓w_ifE, ↓w_tst, ↓w_not, ↓w_and, ↓w_or, ↓w_yes, ↓w_nil, ↓w_cons, ↓w_tup, ↓w_lst, ↓w_lstT, ↓w_cb, ↓w_call, ↓w_callK, ↓w_neg, ↓w_no, ↓w_pt, ↓w_sl, ↓w_fld, ↓w_src, ↓w_rng, ↓w_enu, ↓w_listT, ↓w_app, ↓w_lc, ↓w_xf, ↓w_fldT, ↓w_make, ↓w_makeL, ↓w_run, ↓w_cut, ↓w_pure, ↓w_drop, w_ok, w_ex, w_nx, w_rt, w_bk, w_ct, w_exS, w_some, w_v, w_tr, w_fa, w_tb, w_ti, w_tn, w_L, w_L0, wb_not, cn_f, startD, arr, gN_eq, gTp, gCn, gNl, Option.bind_some, List.filterMap_cons, List.filterMap_nil, List.map_cons, List.map_nil, List.replicate_succ, List.replicate_zero, List.cons_append, List.nil_append, List.getElem?_cons_zero, List.getElem?_cons_succ, List.set_cons_zero, List.set_cons_succ, List.length_cons, List.length_nil, Nat.reduceAdd, Nat.reduceSub, Nat.reduceLeDiff, Nat.reduceEqDiff, Int.reducePow, Int.reduceToNat, Int.reduceNeg, Int.reduceAdd, Int.reduceMul, Int.reduceSub, Int.reduceLT, Int.reduceLE, Int.reduceEq, Nat.zero_add, Int.zero_add, big_eq, true_and, and_true, and_self, dSub_int, dAdd_int, dAddI_int, dLt_int, dLe_int, dGt_int, dGe_int, dEqD_int, bInt_int, bLen_lst, bLen_tup, bMin_int, bMax_int, bAbs_int, dIs_non, dIs_int, dIs_nn, Bool.not_true, Bool.not_false, decide_true, decide_false, reduceIte, Bool.false_eq_true, if_false, if_true, iSeq_lst, iSeq_tup, iSeq_rdl, iEnu_lst, iEnu_tup]
        cases hb : clrB M.l M.letter (n - 2) p with
        | false => rfl
        | true => exact absurd ⟨h1, h2⟩ (clrB_iff.mp hb (i + 1) (by omega) (by omega))
      · simp (implicitDefEqProofs := false) only [↓w_lcT, ↓w_mth, ↓w_calm, ↓w_tryM, ↓w_tm0, ↓w_tmN, ↓w_tmS, ↓w_seq, ↓w_next, ↓w_break, ↓w_cont, ↓w_retN, ↓w_asg, ↓w_expr, ↓w_ret, ↓w_if, ↓w_asgG, ↓w_for, ↓w_put, ↓w_aug, ↓w_augS, ↓w_raise0, ↓w_raise1, ↓w_raise2, ↓w_try, ↓w_tryAs, ↓w_var, ↓w_c, ↓w_op, ↓w_chain, ↓w_notV, ↓w_andV, ↓w_orV, ↓w_ifE, ↓w_tst, ↓w_not, ↓w_and, ↓w_or, ↓w_yes, ↓w_nil, ↓w_cons, ↓w_tup, ↓w_lst, ↓w_lstT, ↓w_cb, ↓w_call, ↓w_callK, ↓w_neg, ↓w_no, ↓w_pt, ↓w_sl, ↓w_fld, ↓w_src, ↓w_rng, ↓w_enu, ↓w_listT, ↓w_app, ↓w_lc, ↓w_xf, ↓w_fldT, ↓w_make, ↓w_makeL, ↓w_run, ↓w_cut, ↓w_pure, ↓w_drop, w_ok, w_ex, w_nx, w_rt, w_bk, w_ct, w_exS, w_some, w_v, w_tr, w_fa, w_tb, w_ti, w_tn, w_L, w_L0, wb_not, cn_f, startD, arr, gN_eq, gTp, gCn, gNl, Option.bind_some, List.filterMap_cons, List.filterMap_nil, List.map_cons, List.map_nil, List.replicate_succ, List.replicate_zero, List.cons_append, List.nil_append, List.getElem?_cons_zero, List.getElem?_cons_succ, List.set_cons_zero, List.set_cons_succ, List.length_cons, List.length_nil, Nat.reduceAdd, Nat.reduceSub, Nat.reduceLeDiff, Nat.reduceEqDiff, Int.reducePow, Int.reduceToNat, Int.reduceNeg, Int.reduceAdd, Int.reduceMul, Int.reduceSub, Int.reduceLT, Int.reduceLE, Int.reduceEq, Nat.zero_add, Int.zero_add, big_eq, true_and, and_true, and_self, dSub_int, dAdd_int, dAddI_int, dLt_int, dLe_int, dGt_int, dGe_int, dEqD_int, bInt_int, bLen_lst, bLen_tup, bMin_int, bMax_int, bAbs_int, dIs_non, dIs_int, dIs_nn, Bool.not_true, Bool.not_false, decide_true, decide_false, reduceIte, Bool.false_eq_true, if_false, if_true, iSeq_lst, iSeq_tup, iSeq_rdl, iEnu_lst, iEnu_tup]
        exact ⟨_, rfl, by rw [stp]; simp only [h1, h2, decide_true, decide_false, Bool.and_false, Bool.not_false]⟩
    · simp (implicitDefEqProofs := false) only [↓w_lcT, ↓w_mth, ↓w_calm, ↓w_tryM, ↓w_tm0, ↓w_tmN, ↓w_tmS, ↓w_seq, ↓w_next, ↓w_break, ↓w_cont, ↓w_retN, ↓w_asg, ↓w_expr, ↓w_ret, ↓w_if, ↓w_asgG, ↓w_for, ↓w_put, ↓w_aug, ↓w_augS, ↓w_raise0, ↓w_raise1, ↓w_raise2, ↓w_try, ↓w_tryAs, ↓w_var, ↓w_c, ↓w_op, ↓w_chain, ↓w_notV, ↓w_andV, ↓w_orV, ↓w_ifE, ↓w_tst, ↓w_not, ↓w_and, ↓w_or, ↓w_yes, ↓w_nil, ↓w_cons, ↓w_tup, ↓w_lst, ↓w_lstT, ↓w_cb, ↓w_call, ↓w_callK, ↓w_neg, ↓w_no, ↓w_pt, ↓w_sl, ↓w_fld, ↓w_src, ↓w_rng, ↓w_enu, ↓w_listT, ↓w_app, ↓w_lc, ↓w_xf, ↓w_fldT, ↓w_make, ↓w_makeL, ↓w_run, ↓w_cut, ↓w_pure, ↓w_drop, w_ok, w_ex, w_nx, w_rt, w_bk, w_ct, w_exS, w_some, w_v, w_tr, w_fa, w_tb, w_ti, w_tn, w_L, w_L0, wb_not, cn_f, startD, arr, gN_eq, gTp, gCn, gNl, Option.bind_some, List.filterMap_cons, List.filterMap_nil, List.map_cons, List.map_nil, List.replicate_succ, List.replicate_zero, List.cons_append, List.nil_append, List.getElem?_cons_zero, List.getElem?_cons_succ, List.set_cons_zero, List.set_cons_succ, List.length_cons, List.length_nil, Nat.reduceAdd, Nat.reduceSub, Nat.reduceLeDiff, Nat.reduceEqDiff, Int.reducePow, Int.reduceToNat, Int.reduceNeg, Int.reduceAdd, Int.reduceMul, Int.reduceSub, Int.reduceLT, Int.reduceLE, Int.reduceEq, Nat.zero_add, Int.zero_add, big_eq, true_and, and_true, and_self, dSub_int, dAdd_int, dAddI_int, dLt_int, dLe_int, dGt_int, dGe_int, dEqD_int, bInt_int, bLen_lst, bLen_tup, bMin_int, bMax_int, bAbs_int, dIs_non, dIs_int, dIs_nn, Bool.not_true, Bool.not_false, decide_true, decide_false, reduceIte, Bool.false_eq_true, if_false, if_true, iSeq_lst, iSeq_tup, iSeq_rdl, iEnu_lst, iEnu_tup]
      exact ⟨_, rfl, by rw [stp]; simp only [h1, decide_false, Bool.false_and, Bool.not_false]⟩
  · rintro L s' ⟨y3, rfl, rfl, hc⟩
    simp (implicitDefEqProofs := false) only [hc, ↓w_lcT, ↓w_mth, ↓w_calm, ↓w_tryM, ↓w_tm0, ↓w_tmN, ↓w_tmS, ↓w_seq, ↓w_next, ↓w_break, ↓w_cont, ↓w_retN, ↓w_asg, ↓w_expr, ↓w_ret, ↓w_if, ↓w_asgG, ↓w_for, ↓w_put, ↓w_aug, ↓w_augS, ↓w_raise0, ↓w_raise1, ↓w_raise2, ↓w_try, ↓w_tryAs, ↓w_var, ↓w_c, ↓w_op, ↓w_chain, ↓w_notV, ↓w_andV, ↓w_orV, ↓w_ifE, ↓w_tst, ↓w_not, ↓w_and, ↓w_or, ↓w_yes, ↓w_nil, ↓w_cons, ↓w_tup, ↓w_lst, ↓w_lstT, ↓w_cb, ↓w_call, ↓w_callK, ↓w_neg, ↓w_no, ↓w_pt, ↓w_sl, ↓w_fld, ↓w_src, ↓w_rng, ↓w_enu, ↓w_listT, ↓w_app, ↓w_lc, ↓w_xf, ↓w_fldT, ↓w_make, ↓w_makeL, ↓w_run, ↓w_cut, ↓w_pure, ↓w_drop, w_ok, w_ex, w_nx, w_rt, w_bk, w_ct, w_exS, w_some, w_v, w_tr, w_fa, w_tb, w_ti, w_tn, w_L, w_L0, wb_not, cn_f, startD, arr, gN_eq, gTp, gCn, gNl, Option.bind_some, List.filterMap_cons, List.filterMap_nil, List.map_cons, List.map_nil, List.replicate_succ, List.replicate_zero, List.cons_append, List.nil_append, List.getElem?_cons_zero, List.getElem?_cons_succ, List.set_cons_zero, List.set_cons_succ, List.length_cons, List.length_nil, Nat.reduceAdd, Nat.reduceSub, Nat.reduceLeDiff, Nat.reduceEqDiff, Int.reducePow, Int.reduceToNat, Int.reduceNeg, Int.reduceAdd, Int.reduceMul, Int.reduceSub, Int.reduceLT, Int.reduceLE, Int.reduceEq, Nat.zero_add, Int.zero_add, big_eq, true_and, and_true, and_self, dSub_int, dAdd_int, dAddI_int, dLt_int, dLe_int, dGt_int, dGe_int, dEqD_int, bInt_int, bLen_lst, bLen_tup, bMin_int, bMax_int, bAbs_int, dIs_non, dIs_int, dIs_nn, Bool.not_true, Bool.not_false, decide_true, decide_false, reduceIte, Bool.false_eq_true, if_false, if_true, iSeq_lst, iSeq_tup, iSeq_rdl, iEnu_lst, iEnu_tup]
theorem intsOf_map (is : List Int) : intsOf (is.map D.int) = some is := by
  induction is with
  | nil => rfl
  | cons i is ih => simp only [List.map_cons, intsOf, ih]; rfl
theorem bMin1_lst (s : S) (is : List Int) : bMin1 s [.lst (is.map D.int)] = (lsI is).map .int := by
  show ((some (is.map D.int)).bind intsOf).bind _ = _
  rw [Option.bind_some, intsOf_map]
  rfl
theorem least_period_ok (hM : M.Ok) {n : Nat} (n0 : 2 ≤ n) (n1 : n ≤ 40) (s : S) (hs : s.all (O.bel (s.length + 1)) = true) : ∃ p, LP M.l M.letter M.gap (n - 2) p ∧ p ≤ max M.gap M.letter ∧ G_least_period c [M.d c, .int n] s = .ok (.int p) s := by
  have l0 := hM.letter0
  have l1 := hM.letter1
  have g0 := hM.gap0
  have g1 := hM.gap1
  obtain ⟨p, e1, h1, h2⟩ := lp_ex M.l (d := M.letter) (g := M.gap) (by omega) (n - 2)
  refine ⟨p, h1, h2, ?_⟩
  apply eq_ok
  unfold G_least_period
  simp (implicitDefEqProofs := false) only [count_ok (c := c) (show (2 : Int) ≤ n by omega) (show (n : Int) ≤ 40 by omega), fld_gap, ↓w_lcT, ↓w_mth, ↓w_calm, ↓w_tryM, ↓w_tm0, ↓w_tmN, ↓w_tmS, ↓w_seq, ↓w_next, ↓w_break, ↓w_cont, ↓w_retN, ↓w_asg, ↓w_expr, ↓w_ret, ↓w_if, ↓w_asgG, ↓w_for, ↓w_put, ↓w_aug, ↓w_augS, ↓w_raise0, ↓w_raise1, ↓w_raise2, ↓w_try, ↓w_tryAs, ↓w_var, ↓w_c, ↓w_op, ↓w_chain, ↓w_notV, ↓w_andV, ↓w_orV, ↓w_ifE, ↓w_tst, ↓w_not, ↓w_and, ↓w_or, ↓w_yes, ↓w_nil, ↓w_cons, ↓w_tup, ↓w_lst, ↓w_lstT, ↓w_cb, ↓w_call, ↓w_callK, ↓w_neg, ↓w_no, ↓w_pt, ↓w_sl, ↓w_fld, ↓w_src, ↓w_rng, ↓w_enu, ↓w_listT, ↓w_app, ↓w_lc, ↓w_xf, ↓w_fldT, ↓w_make, ↓w_makeL, ↓w_run, ↓w_cut, ↓w_pure, ↓w_drop, w_ok, w_ex, w_nx, w_rt, w_bk, w_ct, w_exS, w_some, w_v, w_tr, w_fa, w_tb, w_ti, w_tn, w_L, w_L0, wb_not, cn_f, startD, arr, gN_eq, gTp, gCn, gNl, Option.bind_some, List.filterMap_cons, List.filterMap_nil, List.map_cons, List.map_nil, List.replicate_succ, List.replicate_zero, List.cons_append, List.nil_append, List.getElem?_cons_zero, List.getElem?_cons_succ, List.set_cons_zero, List.set_cons_succ, List.length_cons, List.length_nil, Nat.reduceAdd, Nat.reduceSub, Nat.reduceLeDiff, Nat.reduceEqDiff, Int.reducePow, Int.reduceToNat, Int.reduceNeg, Int.reduceAdd, Int.reduceMul, Int.reduceSub, Int.reduceLT, Int.reduceLE, Int.reduceEq, Nat.zero_add, Int.zero_add, big_eq, true_and, and_true, and_self, dSub_int, dAdd_int, dAddI_int, dLt_int, dLe_int, dGt_int, dGe_int, dEqD_int, bInt_int, bLen_lst, bLen_tup, bMin_int, bMax_int, bAbs_int, dIs_non, dIs_int, dIs_nn, Bool.not_true, Bool.not_false, decide_true, decide_false, reduceIte, Bool.false_eq_true, if_false, if_true, iSeq_lst, iSeq_tup, iSeq_rdl, iEnu_lst, iEnu_tup]
  rw [rng2 (by decide) (by decide) (by omega) (by omega), w_some, show ((n : Int) - 1 - 1).toNat = n - 2 by omega]
  refine ws_rng (fun i L s' => ∃ y3 y4, L = [some (M.d c), some (.int n), some (.ref s.length), y3, y4, none] ∧ s' = s ++ [.lst ((cds M.letter M.gap i).map D.int)]) ⟨none, none, rfl, rfl⟩ ?_ ?_
  · rintro i L s' hi ⟨y3, y4, rfl, rfl⟩
    have hq : dDiv (s ++ [.lst ((cds M.letter M.gap i).map D.int)]) (.int (M.letter + (1 + (i : Int)) - 1)) (.int (1 + (i : Int))) = some (.int (cdv M.letter (i + 1))) := by
      rw [dDiv_small (by omega) (by omega)]
      unfold cdv
      rw [show ((i + 1 : Nat) : Int) = 1 + (i : Int) by omega]
    have hlen : ((cds M.letter M.gap i).map D.int).length < 1000000 := by
      rw [List.length_map]
      unfold cds
      have := List.length_filter_le (fun x => decide (M.gap < x)) ((List.range i).map fun i => cdv M.letter (i + 1))
      rw [List.length_map, List.length_range] at this
      rw [List.length_cons]
      omega
    have stp : cds M.letter M.gap (i + 1) = cds M.letter M.gap i ++ if M.gap < cdv M.letter (i + 1) then [cdv M.letter (i + 1)] else [] := by
      unfold cds
      rw [List.range_succ, List.map_append, List.filter_append, List.cons_append]
      congr 2
      by_cases h : M.gap < cdv M.letter (i + 1) <;> simp [h]
    simp (implicitDefEqProofs := false) only [fld_letter, fld_gap, hq, ↓w_lcT, ↓w_mth, ↓w_calm, ↓w_tryM, ↓w_tm0, ↓w_tmN, ↓w_tmS, ↓w_seq, ↓w_next, ↓w_break, ↓w_cont, ↓w_retN, ↓w_asg, ↓w_expr, ↓w_ret, ↓w_if, ↓w_asgG, ↓w_for, ↓w_put, ↓w_aug, ↓w_augS, ↓w_raise0, ↓w_raise1, ↓w_raise2, ↓w_try, ↓w_tryAs, ↓w_var, ↓w_c, ↓w_op, ↓w_chain, ↓w_notV, ↓w_andV, ↓w_orV, ↓w_ifE, ↓w_tst, ↓w_not, ↓w_and, ↓w_or, ↓w_yes, ↓w_nil, ↓w_cons, ↓w_tup, ↓w_lst, ↓w_lstT, ↓w_cb, ↓w_call, ↓w_callK, ↓w_neg, ↓w_no, ↓w_pt, ↓w_sl, ↓w_fld, ↓w_src, ↓w_rng, ↓w_enu, ↓w_listT, ↓w_app, ↓w_lc, ↓w_xf, ↓w_fldT, ↓w_make, ↓w_makeL, ↓w_run, ↓w_cut, ↓w_pure, ↓w_drop, w_ok, w_ex, w_nx, w_rt, w_bk, w_ct, w_exS, w_some, w_v, w_tr, w_fa, w_tb, w_ti, w_tn, w_L, w_L0, wb_not, cn_f, startD, arr, gN_eq, gTp, gCn, gNl, Option.bind_some, List.filterMap_cons, List.filterMap_nil, List.map_cons, List.map_nil, List.replicate_succ, List.replicate_zero, List.cons_append, List.nil_append, List.getElem?_cons_zero, List.getElem?_cons_succ, List.set_cons_zero, List.set_cons_succ, List.length_cons, List.length_nil, Nat.reduceAdd, Nat.reduceSub, Nat.reduceLeDiff, Nat.reduceEqDiff, Int.reducePow, Int.reduceToNat, Int.reduceNeg, Int.reduceAdd, Int.reduceMul, Int.reduceSub, Int.reduceLT, Int.reduceLE, Int.reduceEq, Nat.zero_add, Int.zero_add, big_eq, true_and, and_true, and_self, dSub_int, dAdd_int, dAddI_int, dLt_int, dLe_int, dGt_int, dGe_int, dEqD_int, bInt_int, bLen_lst, bLen_tup, bMin_int, bMax_int, bAbs_int, dIs_non, dIs_int, dIs_nn, Bool.not_true, Bool.not_false, decide_true, decide_false, reduceIte, Bool.false_eq_true, if_false, if_true, iSeq_lst, iSeq_tup, iSeq_rdl, iEnu_lst, iEnu_tup]
    refine wb_dec (fun h => ?_) (fun h => ?_)
    · simp (implicitDefEqProofs := false) only [ap_isl, ap_app (xs := (cds M.letter M.gap i).map D.int) (.int (cdv M.letter (i + 1))) hlen, ↓w_lcT, ↓w_mth, ↓w_calm, ↓w_tryM, ↓w_tm0, ↓w_tmN, ↓w_tmS, ↓w_seq, ↓w_next, ↓w_break, ↓w_cont, ↓w_retN, ↓w_asg, ↓w_expr, ↓w_ret, ↓w_if, ↓w_asgG, ↓w_for, ↓w_put, ↓w_aug, ↓w_augS, ↓w_raise0, ↓w_raise1, ↓w_raise2, ↓w_try, ↓w_tryAs, ↓w_var, ↓w_c, ↓w_op, ↓w_chain, ↓w_notV, ↓w_andV, ↓w_orV, ↓w_ifE, ↓w_tst, ↓w_not, ↓w_and, ↓w_or, ↓w_yes, ↓w_nil, ↓w_cons, ↓w_tup, ↓w_lst, ↓w_lstT, ↓w_cb, ↓w_call, ↓w_callK, ↓w_neg, ↓w_no, ↓w_pt, ↓w_sl, ↓w_fld, ↓w_src, ↓w_rng, ↓w_enu, ↓w_listT, ↓w_app, ↓w_lc, ↓w_xf, ↓w_fldT, ↓w_make, ↓w_makeL, ↓w_run, ↓w_cut, ↓w_pure, ↓w_drop, w_ok, w_ex, w_nx, w_rt, w_bk, w_ct, w_exS, w_some, w_v, w_tr, w_fa, w_tb, w_ti, w_tn, w_L, w_L0, wb_not, cn_f, startD, arr, gN_eq, gTp, gCn, gNl, Option.bind_some, List.filterMap_cons, List.filterMap_nil, List.map_cons, List.map_nil, List.replicate_succ, List.replicate_zero, List.cons_append, List.nil_append, List.getElem?_cons_zero, List.getElem?_cons_succ, List.set_cons_zero, List.set_cons_succ, List.length_cons, List.length_nil, Nat.reduceAdd, Nat.reduceSub, Nat.reduceLeDiff, Nat.reduceEqDiff, Int.reducePow, Int.reduceToNat, Int.reduceNeg, Int.reduceAdd, Int.reduceMul, Int.reduceSub, Int.reduceLT, Int.reduceLE, Int.reduceEq, Nat.zero_add, Int.zero_add, big_eq, true_and, and_true, and_self, dSub_int, dAdd_int, dAddI_int, dLt_int, dLe_int, dGt_int, dGe_int, dEqD_int, bInt_int, bLen_lst, bLen_tup, bMin_int, bMax_int, bAbs_int, dIs_non, dIs_int, dIs_nn, Bool.not_true, Bool.not_false, decide_true, decide_false, reduceIte, Bool.false_eq_true, if_false, if_true, iSeq_lst, iSeq_tup, iSeq_rdl, iEnu_lst, iEnu_tup]
      exact ⟨_, _, rfl, by rw [stp, if_pos h, List.map_append]; rfl⟩
    · simp (implicitDefEqProofs := false) only [↓w_lcT, ↓w_mth, ↓w_calm, ↓w_tryM, ↓w_tm0, ↓w_tmN, ↓w_tmS, ↓w_seq, ↓w_next, ↓w_break, ↓w_cont, ↓w_retN, ↓w_asg, ↓w_expr, ↓w_ret, ↓w_if, ↓w_asgG, ↓w_for, ↓w_put, ↓w_aug, ↓w_augS, ↓w_raise0, ↓w_raise1, ↓w_raise2, ↓w_try, ↓w_tryAs, ↓w_var, ↓w_c, ↓w_op, ↓w_chain, ↓w_notV, ↓w_andV, ↓w_orV, ↓w_ifE, ↓w_tst, ↓w_not, ↓w_and, ↓w_or, ↓w_yes, ↓w_nil, ↓w_cons, ↓w_tup, ↓w_lst, ↓w_lstT, ↓w_cb, ↓w_call, ↓w_callK, ↓w_neg, ↓w_no, ↓w_pt, ↓w_sl, ↓w_fld, ↓w_src, ↓w_rng, ↓w_enu, ↓w_listT, ↓w_app, ↓w_lc, ↓w_xf, ↓w_fldT, ↓w_make, ↓w_makeL, ↓w_run, ↓w_cut, ↓w_pure, ↓w_drop, w_ok, w_ex, w_nx, w_rt, w_bk, w_ct, w_exS, w_some, w_v, w_tr, w_fa, w_tb, w_ti, w_tn, w_L, w_L0, wb_not, cn_f, startD, arr, gN_eq, gTp, gCn, gNl, Option.bind_some, List.filterMap_cons, List.filterMap_nil, List.map_cons, List.map_nil, List.replicate_succ, List.replicate_zero, List.cons_append, List.nil_append, List.getElem?_cons_zero, List.getElem?_cons_succ, List.set_cons_zero, List.set_cons_succ, List.length_cons, List.length_nil, Nat.reduceAdd, Nat.reduceSub, Nat.reduceLeDiff, Nat.reduceEqDiff, Int.reducePow, Int.reduceToNat, Int.reduceNeg, Int.reduceAdd, Int.reduceMul, Int.reduceSub, Int.reduceLT, Int.reduceLE, Int.reduceEq, Nat.zero_add, Int.zero_add, big_eq, true_and, and_true, and_self, dSub_int, dAdd_int, dAddI_int, dLt_int, dLe_int, dGt_int, dGe_int, dEqD_int, bInt_int, bLen_lst, bLen_tup, bMin_int, bMax_int, bAbs_int, dIs_non, dIs_int, dIs_nn, Bool.not_true, Bool.not_false, decide_true, decide_false, reduceIte, Bool.false_eq_true, if_false, if_true, iSeq_lst, iSeq_tup, iSeq_rdl, iEnu_lst, iEnu_tup]
      exact ⟨_, _, rfl, by rw [stp, if_neg h, List.append_nil]⟩
  · rintro L s' ⟨y3, y4, rfl, rfl⟩
    obtain ⟨cs, ecs⟩ : ∃ cs, cs = cds M.letter M.gap (n - 2) := ⟨_, rfl⟩
    rw [← ecs] at e1 ⊢
    have hcs : ∀ x ∈ cs, 0 ≤ x ∧ x ≤ 10 ^ 20 := fun x hx => by
      rw [ecs] at hx
      refine ⟨by have := cds_ge hx; omega, ?_⟩
      rcases List.mem_cons.mp hx with rfl | e
      · omega
      · obtain ⟨i, _, rfl⟩ := List.mem_map.mp (List.mem_filter.mp e).1
        have : cdv M.letter (i + 1) ≤ M.letter := (cdv_le (by omega)).mpr (by have : (1 : Int) * M.letter ≤ ((i + 1 : Nat) : Int) * M.letter := Int.mul_le_mul_of_nonneg_right (by omega) (by omega); omega)
        omega
    have hcl : cs.length ≤ 1000000 := by
      rw [ecs]
      unfold cds
      have := List.length_filter_le (fun x => decide (M.gap < x)) ((List.range (n - 2)).map fun i => cdv M.letter (i + 1))
      rw [List.length_map, List.length_range] at this
      rw [List.length_cons]
      omega
    have isq : iSeq (s ++ [.lst (cs.map D.int)]) (.ref s.length) = some ⟨cs.map D.int, some (s.length, cs.map D.int)⟩ := ap_iseq
    simp (implicitDefEqProofs := false) only [isq, ↓w_lcT, ↓w_mth, ↓w_calm, ↓w_tryM, ↓w_tm0, ↓w_tmN, ↓w_tmS, ↓w_seq, ↓w_next, ↓w_break, ↓w_cont, ↓w_retN, ↓w_asg, ↓w_expr, ↓w_ret, ↓w_if, ↓w_asgG, ↓w_for, ↓w_put, ↓w_aug, ↓w_augS, ↓w_raise0, ↓w_raise1, ↓w_raise2, ↓w_try, ↓w_tryAs, ↓w_var, ↓w_c, ↓w_op, ↓w_chain, ↓w_notV, ↓w_andV, ↓w_orV, ↓w_ifE, ↓w_tst, ↓w_not, ↓w_and, ↓w_or, ↓w_yes, ↓w_nil, ↓w_cons, ↓w_tup, ↓w_lst, ↓w_lstT, ↓w_cb, ↓w_call, ↓w_callK, ↓w_neg, ↓w_no, ↓w_pt, ↓w_sl, ↓w_fld, ↓w_src, ↓w_rng, ↓w_enu, ↓w_listT, ↓w_app, ↓w_lc, ↓w_xf, ↓w_fldT, ↓w_make, ↓w_makeL, ↓w_run, ↓w_cut, ↓w_pure, ↓w_drop, w_ok, w_ex, w_nx, w_rt, w_bk, w_ct, w_exS, w_some, w_v, w_tr, w_fa, w_tb, w_ti, w_tn, w_L, w_L0, wb_not, cn_f, startD, arr, gN_eq, gTp, gCn, gNl, Option.bind_some, List.filterMap_cons, List.filterMap_nil, List.map_cons, List.map_nil, List.replicate_succ, List.replicate_zero, List.cons_append, List.nil_append, List.getElem?_cons_zero, List.getElem?_cons_succ, List.set_cons_zero, List.set_cons_succ, List.length_cons, List.length_nil, Nat.reduceAdd, Nat.reduceSub, Nat.reduceLeDiff, Nat.reduceEqDiff, Int.reducePow, Int.reduceToNat, Int.reduceNeg, Int.reduceAdd, Int.reduceMul, Int.reduceSub, Int.reduceLT, Int.reduceLE, Int.reduceEq, Nat.zero_add, Int.zero_add, big_eq, true_and, and_true, and_self, dSub_int, dAdd_int, dAddI_int, dLt_int, dLe_int, dGt_int, dGe_int, dEqD_int, bInt_int, bLen_lst, bLen_tup, bMin_int, bMax_int, bAbs_int, dIs_non, dIs_int, dIs_nn, Bool.not_true, Bool.not_false, decide_true, decide_false, reduceIte, Bool.false_eq_true, if_false, if_true, iSeq_lst, iSeq_tup, iSeq_rdl, iEnu_lst, iEnu_tup]
    refine lc_wp cs D.int (clrB M.l M.letter (n - 2)) D.int rfl (fun acc => ?_) hcl (fun x hx acc => ?_) ?_ ?_ ?_
    · unfold chk
      simp
    · have := hcs x hx
      simp (implicitDefEqProofs := false) only [wipeD, clear_ok hM (show n ≤ 42 by omega) this.1 this.2, ↓w_lcT, ↓w_mth, ↓w_calm, ↓w_tryM, ↓w_tm0, ↓w_tmN, ↓w_tmS, ↓w_seq, ↓w_next, ↓w_break, ↓w_cont, ↓w_retN, ↓w_asg, ↓w_expr, ↓w_ret, ↓w_if, ↓w_asgG, ↓w_for, ↓w_put, ↓w_aug, ↓w_augS, ↓w_raise0, ↓w_raise1, ↓w_raise2, ↓w_try, ↓w_tryAs, ↓w_var, ↓w_c, ↓w_op, ↓w_chain, ↓w_notV, ↓w_andV, ↓w_orV, ↓w_ifE, ↓w_tst, ↓w_not, ↓w_and, ↓w_or, ↓w_yes, ↓w_nil, ↓w_cons, ↓w_tup, ↓w_lst, ↓w_lstT, ↓w_cb, ↓w_call, ↓w_callK, ↓w_neg, ↓w_no, ↓w_pt, ↓w_sl, ↓w_fld, ↓w_src, ↓w_rng, ↓w_enu, ↓w_listT, ↓w_app, ↓w_lc, ↓w_xf, ↓w_fldT, ↓w_make, ↓w_makeL, ↓w_run, ↓w_cut, ↓w_pure, ↓w_drop, w_ok, w_ex, w_nx, w_rt, w_bk, w_ct, w_exS, w_some, w_v, w_tr, w_fa, w_tb, w_ti, w_tn, w_L, w_L0, wb_not, cn_f, startD, arr, gN_eq, gTp, gCn, gNl, Option.bind_some, List.filterMap_cons, List.filterMap_nil, List.map_cons, List.map_nil, List.replicate_succ, List.replicate_zero, List.cons_append, List.nil_append, List.getElem?_cons_zero, List.getElem?_cons_succ, List.set_cons_zero, List.set_cons_succ, List.length_cons, List.length_nil, Nat.reduceAdd, Nat.reduceSub, Nat.reduceLeDiff, Nat.reduceEqDiff, Int.reducePow, Int.reduceToNat, Int.reduceNeg, Int.reduceAdd, Int.reduceMul, Int.reduceSub, Int.reduceLT, Int.reduceLE, Int.reduceEq, Nat.zero_add, Int.zero_add, big_eq, true_and, and_true, and_self, dSub_int, dAdd_int, dAddI_int, dLt_int, dLe_int, dGt_int, dGe_int, dEqD_int, bInt_int, bLen_lst, bLen_tup, bMin_int, bMax_int, bAbs_int, dIs_non, dIs_int, dIs_nn, Bool.not_true, Bool.not_false, decide_true, decide_false, reduceIte, Bool.false_eq_true, if_false, if_true, iSeq_lst, iSeq_tup, iSeq_rdl, iEnu_lst, iEnu_tup]
      exact fun _ => trivial
    · simp only [List.all_append, List.length_append, List.length_singleton, hs, List.all_cons, List.all_nil, Bool.and_true, Bool.true_and]
      exact bels_ints ..
    · exact bels_ints ..
    · simp (implicitDefEqProofs := false) only [bMin1_lst, e1, Option.map_some, ↓w_lcT, ↓w_mth, ↓w_calm, ↓w_tryM, ↓w_tm0, ↓w_tmN, ↓w_tmS, ↓w_seq, ↓w_next, ↓w_break, ↓w_cont, ↓w_retN, ↓w_asg, ↓w_expr, ↓w_ret, ↓w_if, ↓w_asgG, ↓w_for, ↓w_put, ↓w_aug, ↓w_augS, ↓w_raise0, ↓w_raise1, ↓w_raise2, ↓w_try, ↓w_tryAs, ↓w_var, ↓w_c, ↓w_op, ↓w_chain, ↓w_notV, ↓w_andV, ↓w_orV, ↓w_ifE, ↓w_tst, ↓w_not, ↓w_and, ↓w_or, ↓w_yes, ↓w_nil, ↓w_cons, ↓w_tup, ↓w_lst, ↓w_lstT, ↓w_cb, ↓w_call, ↓w_callK, ↓w_neg, ↓w_no, ↓w_pt, ↓w_sl, ↓w_fld, ↓w_src, ↓w_rng, ↓w_enu, ↓w_listT, ↓w_app, ↓w_lc, ↓w_xf, ↓w_fldT, ↓w_make, ↓w_makeL, ↓w_run, ↓w_cut, ↓w_pure, ↓w_drop, w_ok, w_ex, w_nx, w_rt, w_bk, w_ct, w_exS, w_some, w_v, w_tr, w_fa, w_tb, w_ti, w_tn, w_L, w_L0, wb_not, cn_f, startD, arr, gN_eq, gTp, gCn, gNl, Option.bind_some, List.filterMap_cons, List.filterMap_nil, List.map_cons, List.map_nil, List.replicate_succ, List.replicate_zero, List.cons_append, List.nil_append, List.getElem?_cons_zero, List.getElem?_cons_succ, List.set_cons_zero, List.set_cons_succ, List.length_cons, List.length_nil, Nat.reduceAdd, Nat.reduceSub, Nat.reduceLeDiff, Nat.reduceEqDiff, Int.reducePow, Int.reduceToNat, Int.reduceNeg, Int.reduceAdd, Int.reduceMul, Int.reduceSub, Int.reduceLT, Int.reduceLE, Int.reduceEq, Nat.zero_add, Int.zero_add, big_eq, true_and, and_true, and_self, dSub_int, dAdd_int, dAddI_int, dLt_int, dLe_int, dGt_int, dGe_int, dEqD_int, bInt_int, bLen_lst, bLen_tup, bMin_int, bMax_int, bAbs_int, dIs_non, dIs_int, dIs_nn, Bool.not_true, Bool.not_false, decide_true, decide_false, reduceIte, Bool.false_eq_true, if_false, if_true, iSeq_lst, iSeq_tup, iSeq_rdl, iEnu_lst, iEnu_tup]
      refine ⟨by simp, ?_⟩
      unfold fin2 finS
      simp (implicitDefEqProofs := false) only [D.bel, ↓w_lcT, ↓w_mth, ↓w_calm, ↓w_tryM, ↓w_tm0, ↓w_tmN, ↓w_tmS, ↓w_seq, ↓w_next, ↓w_break, ↓w_cont, ↓w_retN, ↓w_asg, ↓w_expr, ↓w_ret, ↓w_if, ↓w_asgG, ↓w_for, ↓w_put, ↓w_aug, ↓w_augS, ↓w_raise0, ↓w_raise1, ↓w_raise2, ↓w_try, ↓w_tryAs, ↓w_var, ↓w_c, ↓w_op, ↓w_chain, ↓w_notV, ↓w_andV, ↓w_orV, ↓w_ifE, ↓w_tst, ↓w_not, ↓w_and, ↓w_or, ↓w_yes, ↓w_nil, ↓w_cons, ↓w_tup, ↓w_lst, ↓w_lstT, ↓w_cb, ↓w_call, ↓w_callK, ↓w_neg, ↓w_no, ↓w_pt, ↓w_sl, ↓w_fld, ↓w_src, ↓w_rng, ↓w_enu, ↓w_listT, ↓w_app, ↓w_lc, ↓w_xf, ↓w_fldT, ↓w_make, ↓w_makeL, ↓w_run, ↓w_cut, ↓w_pure, ↓w_drop, w_ok, w_ex, w_nx, w_rt, w_bk, w_ct, w_exS, w_some, w_v, w_tr, w_fa, w_tb, w_ti, w_tn, w_L, w_L0, wb_not, cn_f, startD, arr, gN_eq, gTp, gCn, gNl, Option.bind_some, List.filterMap_cons, List.filterMap_nil, List.map_cons, List.map_nil, List.replicate_succ, List.replicate_zero, List.cons_append, List.nil_append, List.getElem?_cons_zero, List.getElem?_cons_succ, List.set_cons_zero, List.set_cons_succ, List.length_cons, List.length_nil, Nat.reduceAdd, Nat.reduceSub, Nat.reduceLeDiff, Nat.reduceEqDiff, Int.reducePow, Int.reduceToNat, Int.reduceNeg, Int.reduceAdd, Int.reduceMul, Int.reduceSub, Int.reduceLT, Int.reduceLE, Int.reduceEq, Nat.zero_add, Int.zero_add, big_eq, true_and, and_true, and_self, dSub_int, dAdd_int, dAddI_int, dLt_int, dLe_int, dGt_int, dGe_int, dEqD_int, bInt_int, bLen_lst, bLen_tup, bMin_int, bMax_int, bAbs_int, dIs_non, dIs_int, dIs_nn, Bool.not_true, Bool.not_false, decide_true, decide_false, reduceIte, Bool.false_eq_true, if_false, if_true, iSeq_lst, iSeq_tup, iSeq_rdl, iEnu_lst, iEnu_tup]
end Pg

/-! draws of the laws from k40 on -/
namespace SI
open PySem L2 Pg
def drawB : List D → S → R D := runF 7
  (sSeq (sAugS dIxL dAddI dPut (fVar 0) (fC (.int 3)) (fC (.int 1)))
    (sSeq (sIf (fAnd (fTst (fOp (dEqD false) (fOp dIx (fVar 0) (fC (.int 2))) (fC (.int 0)))) (fTst (fOp dLt (fOp dIx (fVar 0) (fC (.int 1))) (fCB bLen (fCons (fOp dIx (fVar 0) (fC (.int 0))) fNil))))) (sSeq (sAsg 2 (fOp dIx (fOp dIx (fVar 0) (fC (.int 0))) (fOp dIx (fVar 0) (fC (.int 1)))))
    (sSeq (sAugS dIxL dAddI dPut (fVar 0) (fC (.int 1)) (fC (.int 1)))
    (sIf (fTst (fOp dGe (fVar 2) (fOp dPow (fC (.int 10)) (fC (.int 18))))) (sPut dPut (fVar 2) (fVar 0) (fC (.int 2))) (sPut dPut (fOp dMod (fCB bInt (fCons (fOp dAdd (fOp dAdd (fOp dMul (fOp dIx (fVar 0) (fC (.int 4))) (fC (.int 48271))) (fOp dMul (fVar 2) (fC (.int 2)))) (fC (.int 11))) fNil)) (fC (.int 2147483629))) (fVar 0) (fC (.int 4)))))) sNext)
    (sSeq (sIf (fTst (fOp dGt (fOp dIx (fVar 0) (fC (.int 2))) (fC (.int 0)))) (sSeq (sAsg 3 (fOp dMod (fCB bInt (fCons (fOp dIx (fVar 0) (fC (.int 2))) fNil)) (fVar 1)))
    (sSeq (sPut dPut (fOp dDiv (fOp dIx (fVar 0) (fC (.int 2))) (fVar 1)) (fVar 0) (fC (.int 2)))
    (sRet (fVar 3)))) sNext)
    (sSeq (sAsg 4 (fOp dMod (fCB bInt (fCons (fOp dMul (fOp dAdd (fOp dAdd (fOp dIx (fVar 0) (fC (.int 4))) (fOp dMul (fC (.int 6151)) (fOp dIx (fVar 0) (fC (.int 3))))) (fC (.int 1))) (fC (.int 69621))) fNil)) (fC (.int 2147483647))))
    (sSeq (sAsg 5 (fOp dMod (fCB bInt (fCons (fOp dMul (fVar 4) (fOp dAdd (fOp dDiv (fVar 4) (fC (.int 1013))) (fC (.int 48271)))) fNil)) (fC (.int 2147483647))))
    (sSeq (sAsg 6 (fOp dMod (fCB bInt (fCons (fOp dMul (fVar 5) (fOp dAdd (fOp dDiv (fVar 5) (fC (.int 2011))) (fC (.int 40692)))) fNil)) (fC (.int 2147483399))))
    (sRet (fOp dMod (fCB bInt (fCons (fOp dDiv (fVar 6) (fC (.int 8))) fNil)) (fVar 1)))))))))
/-- a draw: some number below the limit, the source goes on -/
theorem drawB_ok {s : S} {k n : Nat} {v : SrcV} {lim : Int} (h : s[k]? = some v.o) (ok : v.Ok n) (hn : n < 2 ^ 60) (h0 : 0 < lim) (h1 : lim < 2 ^ 200) :
    ∃ (r : Int) (v' : SrcV), 0 ≤ r ∧ r < lim ∧ v'.Ok (n + 1) ∧ drawB [.ref k, .int lim] s = .ok (.int r) (s.set k v'.o) := by
  have hb : v.b + 1 < 2 ^ 61 := by
    have := ok.bn
    omega
  have hb0 := ok.b0
  -- the last part: the digits of the hash
  have tail : ∀ (w : SrcV) (s1 : S), s1[k]? = some w.o → w.a = 0 → 0 ≤ w.d → w.d < 2147483629 → 0 ≤ w.b → w.b < 2 ^ 61 → ∀ (x2 x3 : Option D), ∃ r : Int, 0 ≤ r ∧ r < lim ∧
      sSeq (sAsg 4 (fOp dMod (fCB bInt (fCons (fOp dMul (fOp dAdd (fOp dAdd (fOp dIx (fVar 0) (fC (.int 4))) (fOp dMul (fC (.int 6151)) (fOp dIx (fVar 0) (fC (.int 3))))) (fC (.int 1))) (fC (.int 69621))) fNil)) (fC (.int 2147483647))))
    (sSeq (sAsg 5 (fOp dMod (fCB bInt (fCons (fOp dMul (fVar 4) (fOp dAdd (fOp dDiv (fVar 4) (fC (.int 1013))) (fC (.int 48271)))) fNil)) (fC (.int 2147483647))))
    (sSeq (sAsg 6 (fOp dMod (fCB bInt (fCons (fOp dMul (fVar 5) (fOp dAdd (fOp dDiv (fVar 5) (fC (.int 2011))) (fC (.int 40692)))) fNil)) (fC (.int 2147483399))))
    (sRet (fOp dMod (fCB bInt (fCons (fOp dDiv (fVar 6) (fC (.int 8))) fNil)) (fVar 1))))) [some (.ref k), some (.int lim), x2, x3, none, none, none] s1 = .rt (.int r) s1 := by
    intro w s1 hs ha hd0 hd1 hw0 hw1 x2 x3
    obtain ⟨i0, i1, i2, i3, i4, _, _⟩ := srcIx hs
    have m1 : mulOk 6151 w.b = true := mulOk_log (a := 17) (b := 61) (by decide) (log_of hw0 hw1 (by decide)) (by decide)
    have m2 : mulOk (w.d + 6151 * w.b + 1) 69621 = true := mulOk_log (a := 100) (b := 17) (log_of (by omega) (by omega) (by decide)) (by decide) (by decide)
    obtain ⟨one, hone⟩ : ∃ z, z = (w.d + 6151 * w.b + 1) * 69621 % 2147483647 := ⟨_, rfl⟩
    have o0 : 0 ≤ one := by rw [hone]; exact Int.emod_nonneg _ (by decide)
    have o1 : one < 2147483647 := by rw [hone]; exact Int.emod_lt_of_pos _ (by decide)
    have q0 : 0 ≤ one / 1013 := Int.ediv_nonneg o0 (by decide)
    have q1 : one / 1013 ≤ one := Int.ediv_le_self _ o0
    have m3 : mulOk one (one / 1013 + 48271) = true := mulOk_log (a := 31) (b := 33) (log_of o0 (by omega) (by decide)) (log_of (by omega) (by omega) (by decide)) (by decide)
    obtain ⟨two, htwo⟩ : ∃ z, z = one * (one / 1013 + 48271) % 2147483647 := ⟨_, rfl⟩
    have t0 : 0 ≤ two := by rw [htwo]; exact Int.emod_nonneg _ (by decide)
    have t1 : two < 2147483647 := by rw [htwo]; exact Int.emod_lt_of_pos _ (by decide)
    have u0 : 0 ≤ two / 2011 := Int.ediv_nonneg t0 (by decide)
    have u1 : two / 2011 ≤ two := Int.ediv_le_self _ t0
    have m4 : mulOk two (two / 2011 + 40692) = true := mulOk_log (a := 31) (b := 33) (log_of t0 (by omega) (by decide)) (log_of (by omega) (by omega) (by decide)) (by decide)
    refine ⟨two * (two / 2011 + 40692) % 2147483399 / 8 % lim, Int.emod_nonneg _ (by omega), Int.emod_lt_of_pos _ h0, ?_⟩
    simp [fVar, i4, i3, m1, m2, dMod_int, dDiv_int, ← hone, m3, ← htwo, m4, h0]
  -- the second part: a great number gives its digits
  have mid : ∀ (w : SrcV) (s1 : S), s1[k]? = some w.o → w.Ok (n + 1) → ∀ (x2 : Option D), ∃ (r : Int) (v' : SrcV), 0 ≤ r ∧ r < lim ∧ v'.Ok (n + 1) ∧
      (sSeq (sIf (fTst (fOp dGt (fOp dIx (fVar 0) (fC (.int 2))) (fC (.int 0)))) (sSeq (sAsg 3 (fOp dMod (fCB bInt (fCons (fOp dIx (fVar 0) (fC (.int 2))) fNil)) (fVar 1)))
    (sSeq (sPut dPut (fOp dDiv (fOp dIx (fVar 0) (fC (.int 2))) (fVar 1)) (fVar 0) (fC (.int 2)))
    (sRet (fVar 3)))) sNext)
    (sSeq (sAsg 4 (fOp dMod (fCB bInt (fCons (fOp dMul (fOp dAdd (fOp dAdd (fOp dIx (fVar 0) (fC (.int 4))) (fOp dMul (fC (.int 6151)) (fOp dIx (fVar 0) (fC (.int 3))))) (fC (.int 1))) (fC (.int 69621))) fNil)) (fC (.int 2147483647))))
    (sSeq (sAsg 5 (fOp dMod (fCB bInt (fCons (fOp dMul (fVar 4) (fOp dAdd (fOp dDiv (fVar 4) (fC (.int 1013))) (fC (.int 48271)))) fNil)) (fC (.int 2147483647))))
    (sSeq (sAsg 6 (fOp dMod (fCB bInt (fCons (fOp dMul (fVar 5) (fOp dAdd (fOp dDiv (fVar 5) (fC (.int 2011))) (fC (.int 40692)))) fNil)) (fC (.int 2147483399))))
    (sRet (fOp dMod (fCB bInt (fCons (fOp dDiv (fVar 6) (fC (.int 8))) fNil)) (fVar 1)))))) [some (.ref k), some (.int lim), x2, none, none, none, none] s1) = .rt (.int r) (s1.set k v'.o) := by
    intro w s1 hs hw x2
    obtain ⟨i0, i1, i2, i3, i4, _, _⟩ := srcIx hs
    by_cases ha : 0 < w.a
    · refine ⟨w.a % lim, { w with a := w.a / lim }, Int.emod_nonneg _ (by omega), Int.emod_lt_of_pos _ h0, ⟨hw.i0, Int.ediv_nonneg hw.a0 (Int.le_of_lt h0), hw.b0, hw.bn, hw.d0, hw.dn, hw.cs⟩, ?_⟩
      have hp := (srcPut hs (w.a / lim)).2.1
      simp [fVar, i2, ha, dMod_int, h0, dDiv_int h0 h1, hp]
    · have ha0 : w.a = 0 := by
        have := hw.a0
        omega
      have hbn := hw.bn
      obtain ⟨r, r0, r1, e⟩ := tail w s1 hs ha0 hw.d0 hw.dn hw.b0 (by omega) x2 none
      refine ⟨r, w, r0, r1, hw, ?_⟩
      have hset : s1.set k w.o = s1 := by
        have hk := (List.getElem?_eq_some_iff.mp hs)
        obtain ⟨hk1, hk2⟩ := hk
        rw [← hk2]
        exact List.set_getElem_self hk1
      rw [hset, ← e]
      simp [fVar, i2, ha]
  -- the first part
  obtain ⟨_, _, _, _, _, _, j3⟩ := srcIx h
  have p3 := (srcPut h (v.b + 1)).2.2.1
  obtain ⟨w, hw⟩ : ∃ w : SrcV, w = { v with b := v.b + 1 } := ⟨_, rfl⟩
  rw [← hw] at p3
  have gw : (s.set k w.o)[k]? = some w.o := get_set h
  have okw : w.Ok (n + 1) := by
    subst hw
    exact ⟨ok.i0, ok.a0, by show 0 ≤ v.b + 1; omega, by show v.b + 1 ≤ ((n + 1 : Nat) : Int); have := ok.bn; omega, ok.d0, ok.dn, ok.cs⟩
  obtain ⟨i0, i1, i2, i3, i4, k1, k3⟩ := srcIx gw
  unfold drawB runF startD
  by_cases hc : w.a = 0 ∧ w.i < (w.cs.length : Int)
  · -- a cell is taken
    obtain ⟨ca, ci⟩ := hc
    have hlt : w.i.toNat < w.cs.length := by
      have := okw.i0
      omega
    obtain ⟨cell, hcell⟩ : ∃ z, w.cs[w.i.toNat]? = some z := ⟨_, List.getElem?_eq_getElem hlt⟩
    have hix : dIx (s.set k w.o) (.lst (w.cs.map D.int)) (.int w.i) = some (.int cell) := by
      rw [dIx_lst, atI_in okw.i0 (by rw [List.length_map]; exact ci), List.getElem?_map, hcell]
      rfl
    have q1 := (srcPut gw (w.i + 1)).1
    obtain ⟨u, hu⟩ : ∃ u : SrcV, u = { w with i := w.i + 1 } := ⟨_, rfl⟩
    rw [← hu] at q1
    have gu : ((s.set k w.o).set k u.o)[k]? = some u.o := get_set gw
    rw [List.set_set] at gu q1
    have oku : u.Ok (n + 1) := by
      subst hu
      exact ⟨by show 0 ≤ w.i + 1; have := okw.i0; omega, okw.a0, okw.b0, okw.bn, okw.d0, okw.dn, okw.cs⟩
    obtain ⟨a0, a1, a2, a3, a4, b1, b3⟩ := srcIx gu
    have hbits := okw.cs cell (List.mem_of_getElem? hcell)
    by_cases hbig : (1000000000000000000 : Int) ≤ cell
    · have q2 := (srcPut gu cell).2.1
      rw [List.set_set] at q2
      obtain ⟨r, v', r0, r1, ov, e⟩ := mid { u with a := cell } _ (get_set h) ⟨oku.i0, by show 0 ≤ cell; omega, oku.b0, oku.bn, oku.d0, oku.dn, oku.cs⟩ (some (.int cell))
      refine ⟨r, v', r0, r1, ov, ?_⟩
      rw [List.set_set] at e
      refine fin_rt ?_
      rw [← e]
      simp [fVar, j3, p3, i2, ca, i1, i0, ci, hix, k1, q1, powOk, hbig, q2]
    · have m1 : mulOk u.d 48271 = true := mulOk_log (a := 31) (b := 16) (log_of oku.d0 (by have := oku.dn; omega) (by decide)) (by decide) (by decide)
      have m2 : mulOk cell 2 = true := mulOk_log (a := 1048576) (b := 5) (log_bits hbits) (by decide) (by decide)
      obtain ⟨dd, hdd⟩ : ∃ z, z = (u.d * 48271 + cell * 2 + 11) % 2147483629 := ⟨_, rfl⟩
      have q4 := (srcPut gu dd).2.2.2
      rw [List.set_set] at q4
      obtain ⟨r, v', r0, r1, ov, e⟩ := mid { u with d := dd } _ (get_set h) ⟨oku.i0, oku.a0, oku.b0, oku.bn, by show 0 ≤ dd; rw [hdd]; exact Int.emod_nonneg _ (by decide), by show dd < 2147483629; rw [hdd]; exact Int.emod_lt_of_pos _ (by decide), oku.cs⟩ (some (.int cell))
      refine ⟨r, v', r0, r1, ov, ?_⟩
      rw [List.set_set] at e
      refine fin_rt ?_
      rw [← e]
      simp [fVar, j3, p3, i2, ca, i1, i0, ci, hix, k1, q1, powOk, hbig, a4, m1, m2, dMod_int, ← hdd, q4]
  · obtain ⟨r, v', r0, r1, ov, e⟩ := mid w _ gw okw none
    refine ⟨r, v', r0, r1, ov, ?_⟩
    rw [List.set_set] at e
    refine fin_rt ?_
    rw [← e]
    by_cases ca : w.a = 0
    · have ci : ¬ w.i < (w.cs.length : Int) := fun z => hc ⟨ca, z⟩
      simp [fVar, j3, p3, i2, ca, i1, i0, ci]
    · simp [fVar, j3, p3, i2, ca]

section
variable {v : SrcV} {n : Nat} {lim : Int} {r : S} {Q : Cn (D → S → Prop)} {E : Cn (Addr → List Str → List D → S → Prop)}
theorem drawB_wp (ok : v.Ok n) (hn : n < 2 ^ 60) (h0 : 0 < lim) (h1 : lim < 2 ^ 200) (h : ∀ x v', 0 ≤ x → x < lim → SrcV.Ok v' (n + 1) → Q (.int x) (v'.o :: r)) : @WR _ (drawB [.ref 0, .int lim] (v.o :: r)) Q E := by
  obtain ⟨x, v', x0, x1, ov, e⟩ := drawB_ok (s := v.o :: r) (k := 0) rfl ok hn h0 h1
  rw [e]
  exact h x v' x0 x1 ov
def wideG : List D → S → R D := runF 5
  ((sSeq (sIf (fTst (fOp dLe (fVar 1) (fC (.int 1000000)))) (sRet (fCall 2 drawB (fCons (fVar 0) (fCons (fVar 1) fNil)))) sNext)
    (sSeq (sAsg 2 (fCall 2 drawB (fCons (fVar 0) (fCons (fC (.int 1000000)) fNil))))
    (sSeq (sAsg 3 (fCall 2 drawB (fCons (fVar 0) (fCons (fC (.int 1000000)) fNil))))
    (sSeq (sAsg 4 (fCall 2 drawB (fCons (fVar 0) (fCons (fC (.int 1000000)) fNil))))
    (sRet (fOp dMod (fCB bInt (fCons (fOp dAdd (fOp dMul (fOp dAdd (fOp dMul (fVar 2) (fC (.int 1000000))) (fVar 3)) (fC (.int 1000000))) (fVar 4)) fNil)) (fVar 1))))))))
theorem wide_wp (ok : v.Ok n) (hn : n + 3 < 2 ^ 60) (h0 : 0 < lim) (h : ∀ x v', 0 ≤ x → x < lim → SrcV.Ok v' (n + 3) → Q (.int x) (v'.o :: r)) : @WR _ (wideG [.ref 0, .int lim] (v.o :: r)) Q E := by
  unfold wideG
  simp (implicitDefEqProofs := false) only [↓w_lcT, ↓w_mth, ↓w_calm, ↓w_tryM, ↓w_tm0, ↓w_tmN, ↓w_tmS, ↓w_seq, ↓w_next, ↓w_break, ↓w_cont, ↓w_retN, ↓w_asg, ↓w_expr, ↓w_ret, ↓w_if, ↓w_asgG, ↓w_for, ↓w_put, ↓w_aug, ↓w_augS, ↓w_raise0, ↓w_raise1, ↓w_raise2, ↓w_try, ↓w_tryAs, ↓w_var, ↓w_c, ↓w_op, ↓w_chain, ↓w_notV, ↓w_andV, ↓w_orV, ↓w_ifE, ↓w_tst, ↓w_not, ↓w_and, ↓w_or, ↓w_yes, ↓w_nil, ↓w_cons, ↓w_tup, ↓w_lst, ↓w_lstT, ↓w_cb, ↓w_call, ↓w_callK, ↓w_neg, ↓w_no, ↓w_pt, ↓w_sl, ↓w_fld, ↓w_src, ↓w_rng, ↓w_enu, ↓w_listT, ↓w_app, ↓w_lc, ↓w_xf, ↓w_fldT, ↓w_make, ↓w_makeL, ↓w_run, ↓w_cut, ↓w_pure, ↓w_drop, w_ok, w_ex, w_nx, w_rt, w_bk, w_ct, w_exS, w_some, w_v, w_tr, w_fa, w_tb, w_ti, w_tn, w_L, w_L0, wb_not, cn_f, startD, arr, gN_eq, gTp, gCn, gNl, Option.bind_some, List.filterMap_cons, List.filterMap_nil, List.map_cons, List.map_nil, List.replicate_succ, List.replicate_zero, List.cons_append, List.nil_append, List.getElem?_cons_zero, List.getElem?_cons_succ, List.set_cons_zero, List.set_cons_succ, List.length_cons, List.length_nil, Nat.reduceAdd, Nat.reduceSub, Nat.reduceLeDiff, Nat.reduceEqDiff, Int.reducePow, Int.reduceToNat, Int.reduceNeg, Int.reduceAdd, Int.reduceMul, Int.reduceSub, Int.reduceLT, Int.reduceLE, Int.reduceEq, Nat.zero_add, Int.zero_add, big_eq, true_and, and_true, and_self, dSub_int, dAdd_int, dAddI_int, dLt_int, dLe_int, dGt_int, dGe_int, dEqD_int, bInt_int, bLen_lst, bLen_tup, bMin_int, bMax_int, bAbs_int, dIs_non, dIs_int, dIs_nn, Bool.not_true, Bool.not_false, decide_true, decide_false, reduceIte, Bool.false_eq_true, if_false, if_true, iSeq_lst, iSeq_tup, iSeq_rdl, iEnu_lst, iEnu_tup]
  refine wb_dec (fun hl => ?_) (fun hl => ?_)
  · simp (implicitDefEqProofs := false) only [↓w_lcT, ↓w_mth, ↓w_calm, ↓w_tryM, ↓w_tm0, ↓w_tmN, ↓w_tmS, ↓w_seq, ↓w_next, ↓w_break, ↓w_cont, ↓w_retN, ↓w_asg, ↓w_expr, ↓w_ret, ↓w_if, ↓w_asgG, ↓w_for, ↓w_put, ↓w_aug, ↓w_augS, ↓w_raise0, ↓w_raise1, ↓w_raise2, ↓w_try, ↓w_tryAs, ↓w_var, ↓w_c, ↓w_op, ↓w_chain, ↓w_notV, ↓w_andV, ↓w_orV, ↓w_ifE, ↓w_tst, ↓w_not, ↓w_and, ↓w_or, ↓w_yes, ↓w_nil, ↓w_cons, ↓w_tup, ↓w_lst, ↓w_lstT, ↓w_cb, ↓w_call, ↓w_callK, ↓w_neg, ↓w_no, ↓w_pt, ↓w_sl, ↓w_fld, ↓w_src, ↓w_rng, ↓w_enu, ↓w_listT, ↓w_app, ↓w_lc, ↓w_xf, ↓w_fldT, ↓w_make, ↓w_makeL, ↓w_run, ↓w_cut, ↓w_pure, ↓w_drop, w_ok, w_ex, w_nx, w_rt, w_bk, w_ct, w_exS, w_some, w_v, w_tr, w_fa, w_tb, w_ti, w_tn, w_L, w_L0, wb_not, cn_f, startD, arr, gN_eq, gTp, gCn, gNl, Option.bind_some, List.filterMap_cons, List.filterMap_nil, List.map_cons, List.map_nil, List.replicate_succ, List.replicate_zero, List.cons_append, List.nil_append, List.getElem?_cons_zero, List.getElem?_cons_succ, List.set_cons_zero, List.set_cons_succ, List.length_cons, List.length_nil, Nat.reduceAdd, Nat.reduceSub, Nat.reduceLeDiff, Nat.reduceEqDiff, Int.reducePow, Int.reduceToNat, Int.reduceNeg, Int.reduceAdd, Int.reduceMul, Int.reduceSub, Int.reduceLT, Int.reduceLE, Int.reduceEq, Nat.zero_add, Int.zero_add, big_eq, true_and, and_true, and_self, dSub_int, dAdd_int, dAddI_int, dLt_int, dLe_int, dGt_int, dGe_int, dEqD_int, bInt_int, bLen_lst, bLen_tup, bMin_int, bMax_int, bAbs_int, dIs_non, dIs_int, dIs_nn, Bool.not_true, Bool.not_false, decide_true, decide_false, reduceIte, Bool.false_eq_true, if_false, if_true, iSeq_lst, iSeq_tup, iSeq_rdl, iEnu_lst, iEnu_tup]
    refine drawB_wp ok (by omega) h0 (Int.lt_of_le_of_lt hl (by decide +kernel)) fun x v' x0 x1 ok' => ?_
    simp (implicitDefEqProofs := false) only [↓w_lcT, ↓w_mth, ↓w_calm, ↓w_tryM, ↓w_tm0, ↓w_tmN, ↓w_tmS, ↓w_seq, ↓w_next, ↓w_break, ↓w_cont, ↓w_retN, ↓w_asg, ↓w_expr, ↓w_ret, ↓w_if, ↓w_asgG, ↓w_for, ↓w_put, ↓w_aug, ↓w_augS, ↓w_raise0, ↓w_raise1, ↓w_raise2, ↓w_try, ↓w_tryAs, ↓w_var, ↓w_c, ↓w_op, ↓w_chain, ↓w_notV, ↓w_andV, ↓w_orV, ↓w_ifE, ↓w_tst, ↓w_not, ↓w_and, ↓w_or, ↓w_yes, ↓w_nil, ↓w_cons, ↓w_tup, ↓w_lst, ↓w_lstT, ↓w_cb, ↓w_call, ↓w_callK, ↓w_neg, ↓w_no, ↓w_pt, ↓w_sl, ↓w_fld, ↓w_src, ↓w_rng, ↓w_enu, ↓w_listT, ↓w_app, ↓w_lc, ↓w_xf, ↓w_fldT, ↓w_make, ↓w_makeL, ↓w_run, ↓w_cut, ↓w_pure, ↓w_drop, w_ok, w_ex, w_nx, w_rt, w_bk, w_ct, w_exS, w_some, w_v, w_tr, w_fa, w_tb, w_ti, w_tn, w_L, w_L0, wb_not, cn_f, startD, arr, gN_eq, gTp, gCn, gNl, Option.bind_some, List.filterMap_cons, List.filterMap_nil, List.map_cons, List.map_nil, List.replicate_succ, List.replicate_zero, List.cons_append, List.nil_append, List.getElem?_cons_zero, List.getElem?_cons_succ, List.set_cons_zero, List.set_cons_succ, List.length_cons, List.length_nil, Nat.reduceAdd, Nat.reduceSub, Nat.reduceLeDiff, Nat.reduceEqDiff, Int.reducePow, Int.reduceToNat, Int.reduceNeg, Int.reduceAdd, Int.reduceMul, Int.reduceSub, Int.reduceLT, Int.reduceLE, Int.reduceEq, Nat.zero_add, Int.zero_add, big_eq, true_and, and_true, and_self, dSub_int, dAdd_int, dAddI_int, dLt_int, dLe_int, dGt_int, dGe_int, dEqD_int, bInt_int, bLen_lst, bLen_tup, bMin_int, bMax_int, bAbs_int, dIs_non, dIs_int, dIs_nn, Bool.not_true, Bool.not_false, decide_true, decide_false, reduceIte, Bool.false_eq_true, if_false, if_true, iSeq_lst, iSeq_tup, iSeq_rdl, iEnu_lst, iEnu_tup]
    exact h x v' x0 x1 (ok'.mono (by omega))
  · simp (implicitDefEqProofs := false) only [↓w_lcT, ↓w_mth, ↓w_calm, ↓w_tryM, ↓w_tm0, ↓w_tmN, ↓w_tmS, ↓w_seq, ↓w_next, ↓w_break, ↓w_cont, ↓w_retN, ↓w_asg, ↓w_expr, ↓w_ret, ↓w_if, ↓w_asgG, ↓w_for, ↓w_put, ↓w_aug, ↓w_augS, ↓w_raise0, ↓w_raise1, ↓w_raise2, ↓w_try, ↓w_tryAs, ↓w_var, ↓w_c, ↓w_op, ↓w_chain, ↓w_notV, ↓w_andV, ↓w_orV, ↓w_ifE, ↓w_tst, ↓w_not, ↓w_and, ↓w_or, ↓w_yes, ↓w_nil, ↓w_cons, ↓w_tup, ↓w_lst, ↓w_lstT, ↓w_cb, ↓w_call, ↓w_callK, ↓w_neg, ↓w_no, ↓w_pt, ↓w_sl, ↓w_fld, ↓w_src, ↓w_rng, ↓w_enu, ↓w_listT, ↓w_app, ↓w_lc, ↓w_xf, ↓w_fldT, ↓w_make, ↓w_makeL, ↓w_run, ↓w_cut, ↓w_pure, ↓w_drop, w_ok, w_ex, w_nx, w_rt, w_bk, w_ct, w_exS, w_some, w_v, w_tr, w_fa, w_tb, w_ti, w_tn, w_L, w_L0, wb_not, cn_f, startD, arr, gN_eq, gTp, gCn, gNl, Option.bind_some, List.filterMap_cons, List.filterMap_nil, List.map_cons, List.map_nil, List.replicate_succ, List.replicate_zero, List.cons_append, List.nil_append, List.getElem?_cons_zero, List.getElem?_cons_succ, List.set_cons_zero, List.set_cons_succ, List.length_cons, List.length_nil, Nat.reduceAdd, Nat.reduceSub, Nat.reduceLeDiff, Nat.reduceEqDiff, Int.reducePow, Int.reduceToNat, Int.reduceNeg, Int.reduceAdd, Int.reduceMul, Int.reduceSub, Int.reduceLT, Int.reduceLE, Int.reduceEq, Nat.zero_add, Int.zero_add, big_eq, true_and, and_true, and_self, dSub_int, dAdd_int, dAddI_int, dLt_int, dLe_int, dGt_int, dGe_int, dEqD_int, bInt_int, bLen_lst, bLen_tup, bMin_int, bMax_int, bAbs_int, dIs_non, dIs_int, dIs_nn, Bool.not_true, Bool.not_false, decide_true, decide_false, reduceIte, Bool.false_eq_true, if_false, if_true, iSeq_lst, iSeq_tup, iSeq_rdl, iEnu_lst, iEnu_tup]
    refine drawB_wp ok (by omega) (by decide) (by decide +kernel) fun a v1 a0 a1 ok1 => ?_
    simp (implicitDefEqProofs := false) only [↓w_lcT, ↓w_mth, ↓w_calm, ↓w_tryM, ↓w_tm0, ↓w_tmN, ↓w_tmS, ↓w_seq, ↓w_next, ↓w_break, ↓w_cont, ↓w_retN, ↓w_asg, ↓w_expr, ↓w_ret, ↓w_if, ↓w_asgG, ↓w_for, ↓w_put, ↓w_aug, ↓w_augS, ↓w_raise0, ↓w_raise1, ↓w_raise2, ↓w_try, ↓w_tryAs, ↓w_var, ↓w_c, ↓w_op, ↓w_chain, ↓w_notV, ↓w_andV, ↓w_orV, ↓w_ifE, ↓w_tst, ↓w_not, ↓w_and, ↓w_or, ↓w_yes, ↓w_nil, ↓w_cons, ↓w_tup, ↓w_lst, ↓w_lstT, ↓w_cb, ↓w_call, ↓w_callK, ↓w_neg, ↓w_no, ↓w_pt, ↓w_sl, ↓w_fld, ↓w_src, ↓w_rng, ↓w_enu, ↓w_listT, ↓w_app, ↓w_lc, ↓w_xf, ↓w_fldT, ↓w_make, ↓w_makeL, ↓w_run, ↓w_cut, ↓w_pure, ↓w_drop, w_ok, w_ex, w_nx, w_rt, w_bk, w_ct, w_exS, w_some, w_v, w_tr, w_fa, w_tb, w_ti, w_tn, w_L, w_L0, wb_not, cn_f, startD, arr, gN_eq, gTp, gCn, gNl, Option.bind_some, List.filterMap_cons, List.filterMap_nil, List.map_cons, List.map_nil, List.replicate_succ, List.replicate_zero, List.cons_append, List.nil_append, List.getElem?_cons_zero, List.getElem?_cons_succ, List.set_cons_zero, List.set_cons_succ, List.length_cons, List.length_nil, Nat.reduceAdd, Nat.reduceSub, Nat.reduceLeDiff, Nat.reduceEqDiff, Int.reducePow, Int.reduceToNat, Int.reduceNeg, Int.reduceAdd, Int.reduceMul, Int.reduceSub, Int.reduceLT, Int.reduceLE, Int.reduceEq, Nat.zero_add, Int.zero_add, big_eq, true_and, and_true, and_self, dSub_int, dAdd_int, dAddI_int, dLt_int, dLe_int, dGt_int, dGe_int, dEqD_int, bInt_int, bLen_lst, bLen_tup, bMin_int, bMax_int, bAbs_int, dIs_non, dIs_int, dIs_nn, Bool.not_true, Bool.not_false, decide_true, decide_false, reduceIte, Bool.false_eq_true, if_false, if_true, iSeq_lst, iSeq_tup, iSeq_rdl, iEnu_lst, iEnu_tup]
    refine drawB_wp ok1 (by omega) (by decide) (by decide +kernel) fun b v2 b0 b1 ok2 => ?_
    simp (implicitDefEqProofs := false) only [↓w_lcT, ↓w_mth, ↓w_calm, ↓w_tryM, ↓w_tm0, ↓w_tmN, ↓w_tmS, ↓w_seq, ↓w_next, ↓w_break, ↓w_cont, ↓w_retN, ↓w_asg, ↓w_expr, ↓w_ret, ↓w_if, ↓w_asgG, ↓w_for, ↓w_put, ↓w_aug, ↓w_augS, ↓w_raise0, ↓w_raise1, ↓w_raise2, ↓w_try, ↓w_tryAs, ↓w_var, ↓w_c, ↓w_op, ↓w_chain, ↓w_notV, ↓w_andV, ↓w_orV, ↓w_ifE, ↓w_tst, ↓w_not, ↓w_and, ↓w_or, ↓w_yes, ↓w_nil, ↓w_cons, ↓w_tup, ↓w_lst, ↓w_lstT, ↓w_cb, ↓w_call, ↓w_callK, ↓w_neg, ↓w_no, ↓w_pt, ↓w_sl, ↓w_fld, ↓w_src, ↓w_rng, ↓w_enu, ↓w_listT, ↓w_app, ↓w_lc, ↓w_xf, ↓w_fldT, ↓w_make, ↓w_makeL, ↓w_run, ↓w_cut, ↓w_pure, ↓w_drop, w_ok, w_ex, w_nx, w_rt, w_bk, w_ct, w_exS, w_some, w_v, w_tr, w_fa, w_tb, w_ti, w_tn, w_L, w_L0, wb_not, cn_f, startD, arr, gN_eq, gTp, gCn, gNl, Option.bind_some, List.filterMap_cons, List.filterMap_nil, List.map_cons, List.map_nil, List.replicate_succ, List.replicate_zero, List.cons_append, List.nil_append, List.getElem?_cons_zero, List.getElem?_cons_succ, List.set_cons_zero, List.set_cons_succ, List.length_cons, List.length_nil, Nat.reduceAdd, Nat.reduceSub, Nat.reduceLeDiff, Nat.reduceEqDiff, Int.reducePow, Int.reduceToNat, Int.reduceNeg, Int.reduceAdd, Int.reduceMul, Int.reduceSub, Int.reduceLT, Int.reduceLE, Int.reduceEq, Nat.zero_add, Int.zero_add, big_eq, true_and, and_true, and_self, dSub_int, dAdd_int, dAddI_int, dLt_int, dLe_int, dGt_int, dGe_int, dEqD_int, bInt_int, bLen_lst, bLen_tup, bMin_int, bMax_int, bAbs_int, dIs_non, dIs_int, dIs_nn, Bool.not_true, Bool.not_false, decide_true, decide_false, reduceIte, Bool.false_eq_true, if_false, if_true, iSeq_lst, iSeq_tup, iSeq_rdl, iEnu_lst, iEnu_tup]
    refine drawB_wp ok2 (by omega) (by decide) (by decide +kernel) fun d v3 d0 d1 ok3 => ?_
    simp (implicitDefEqProofs := false) only [↓w_lcT, ↓w_mth, ↓w_calm, ↓w_tryM, ↓w_tm0, ↓w_tmN, ↓w_tmS, ↓w_seq, ↓w_next, ↓w_break, ↓w_cont, ↓w_retN, ↓w_asg, ↓w_expr, ↓w_ret, ↓w_if, ↓w_asgG, ↓w_for, ↓w_put, ↓w_aug, ↓w_augS, ↓w_raise0, ↓w_raise1, ↓w_raise2, ↓w_try, ↓w_tryAs, ↓w_var, ↓w_c, ↓w_op, ↓w_chain, ↓w_notV, ↓w_andV, ↓w_orV, ↓w_ifE, ↓w_tst, ↓w_not, ↓w_and, ↓w_or, ↓w_yes, ↓w_nil, ↓w_cons, ↓w_tup, ↓w_lst, ↓w_lstT, ↓w_cb, ↓w_call, ↓w_callK, ↓w_neg, ↓w_no, ↓w_pt, ↓w_sl, ↓w_fld, ↓w_src, ↓w_rng, ↓w_enu, ↓w_listT, ↓w_app, ↓w_lc, ↓w_xf, ↓w_fldT, ↓w_make, ↓w_makeL, ↓w_run, ↓w_cut, ↓w_pure, ↓w_drop, w_ok, w_ex, w_nx, w_rt, w_bk, w_ct, w_exS, w_some, w_v, w_tr, w_fa, w_tb, w_ti, w_tn, w_L, w_L0, wb_not, cn_f, startD, arr, gN_eq, gTp, gCn, gNl, Option.bind_some, List.filterMap_cons, List.filterMap_nil, List.map_cons, List.map_nil, List.replicate_succ, List.replicate_zero, List.cons_append, List.nil_append, List.getElem?_cons_zero, List.getElem?_cons_succ, List.set_cons_zero, List.set_cons_succ, List.length_cons, List.length_nil, Nat.reduceAdd, Nat.reduceSub, Nat.reduceLeDiff, Nat.reduceEqDiff, Int.reducePow, Int.reduceToNat, Int.reduceNeg, Int.reduceAdd, Int.reduceMul, Int.reduceSub, Int.reduceLT, Int.reduceLE, Int.reduceEq, Nat.zero_add, Int.zero_add, big_eq, true_and, and_true, and_self, dSub_int, dAdd_int, dAddI_int, dLt_int, dLe_int, dGt_int, dGe_int, dEqD_int, bInt_int, bLen_lst, bLen_tup, bMin_int, bMax_int, bAbs_int, dIs_non, dIs_int, dIs_nn, Bool.not_true, Bool.not_false, decide_true, decide_false, reduceIte, Bool.false_eq_true, if_false, if_true, iSeq_lst, iSeq_tup, iSeq_rdl, iEnu_lst, iEnu_tup]
    rw [dMul_small (by omega) (by omega) (by omega) (by omega)]
    simp (implicitDefEqProofs := false) only [↓w_lcT, ↓w_mth, ↓w_calm, ↓w_tryM, ↓w_tm0, ↓w_tmN, ↓w_tmS, ↓w_seq, ↓w_next, ↓w_break, ↓w_cont, ↓w_retN, ↓w_asg, ↓w_expr, ↓w_ret, ↓w_if, ↓w_asgG, ↓w_for, ↓w_put, ↓w_aug, ↓w_augS, ↓w_raise0, ↓w_raise1, ↓w_raise2, ↓w_try, ↓w_tryAs, ↓w_var, ↓w_c, ↓w_op, ↓w_chain, ↓w_notV, ↓w_andV, ↓w_orV, ↓w_ifE, ↓w_tst, ↓w_not, ↓w_and, ↓w_or, ↓w_yes, ↓w_nil, ↓w_cons, ↓w_tup, ↓w_lst, ↓w_lstT, ↓w_cb, ↓w_call, ↓w_callK, ↓w_neg, ↓w_no, ↓w_pt, ↓w_sl, ↓w_fld, ↓w_src, ↓w_rng, ↓w_enu, ↓w_listT, ↓w_app, ↓w_lc, ↓w_xf, ↓w_fldT, ↓w_make, ↓w_makeL, ↓w_run, ↓w_cut, ↓w_pure, ↓w_drop, w_ok, w_ex, w_nx, w_rt, w_bk, w_ct, w_exS, w_some, w_v, w_tr, w_fa, w_tb, w_ti, w_tn, w_L, w_L0, wb_not, cn_f, startD, arr, gN_eq, gTp, gCn, gNl, Option.bind_some, List.filterMap_cons, List.filterMap_nil, List.map_cons, List.map_nil, List.replicate_succ, List.replicate_zero, List.cons_append, List.nil_append, List.getElem?_cons_zero, List.getElem?_cons_succ, List.set_cons_zero, List.set_cons_succ, List.length_cons, List.length_nil, Nat.reduceAdd, Nat.reduceSub, Nat.reduceLeDiff, Nat.reduceEqDiff, Int.reducePow, Int.reduceToNat, Int.reduceNeg, Int.reduceAdd, Int.reduceMul, Int.reduceSub, Int.reduceLT, Int.reduceLE, Int.reduceEq, Nat.zero_add, Int.zero_add, big_eq, true_and, and_true, and_self, dSub_int, dAdd_int, dAddI_int, dLt_int, dLe_int, dGt_int, dGe_int, dEqD_int, bInt_int, bLen_lst, bLen_tup, bMin_int, bMax_int, bAbs_int, dIs_non, dIs_int, dIs_nn, Bool.not_true, Bool.not_false, decide_true, decide_false, reduceIte, Bool.false_eq_true, if_false, if_true, iSeq_lst, iSeq_tup, iSeq_rdl, iEnu_lst, iEnu_tup]
    rw [dMul_small (by omega) (by omega) (by omega) (by omega)]
    simp (implicitDefEqProofs := false) only [↓w_lcT, ↓w_mth, ↓w_calm, ↓w_tryM, ↓w_tm0, ↓w_tmN, ↓w_tmS, ↓w_seq, ↓w_next, ↓w_break, ↓w_cont, ↓w_retN, ↓w_asg, ↓w_expr, ↓w_ret, ↓w_if, ↓w_asgG, ↓w_for, ↓w_put, ↓w_aug, ↓w_augS, ↓w_raise0, ↓w_raise1, ↓w_raise2, ↓w_try, ↓w_tryAs, ↓w_var, ↓w_c, ↓w_op, ↓w_chain, ↓w_notV, ↓w_andV, ↓w_orV, ↓w_ifE, ↓w_tst, ↓w_not, ↓w_and, ↓w_or, ↓w_yes, ↓w_nil, ↓w_cons, ↓w_tup, ↓w_lst, ↓w_lstT, ↓w_cb, ↓w_call, ↓w_callK, ↓w_neg, ↓w_no, ↓w_pt, ↓w_sl, ↓w_fld, ↓w_src, ↓w_rng, ↓w_enu, ↓w_listT, ↓w_app, ↓w_lc, ↓w_xf, ↓w_fldT, ↓w_make, ↓w_makeL, ↓w_run, ↓w_cut, ↓w_pure, ↓w_drop, w_ok, w_ex, w_nx, w_rt, w_bk, w_ct, w_exS, w_some, w_v, w_tr, w_fa, w_tb, w_ti, w_tn, w_L, w_L0, wb_not, cn_f, startD, arr, gN_eq, gTp, gCn, gNl, Option.bind_some, List.filterMap_cons, List.filterMap_nil, List.map_cons, List.map_nil, List.replicate_succ, List.replicate_zero, List.cons_append, List.nil_append, List.getElem?_cons_zero, List.getElem?_cons_succ, List.set_cons_zero, List.set_cons_succ, List.length_cons, List.length_nil, Nat.reduceAdd, Nat.reduceSub, Nat.reduceLeDiff, Nat.reduceEqDiff, Int.reducePow, Int.reduceToNat, Int.reduceNeg, Int.reduceAdd, Int.reduceMul, Int.reduceSub, Int.reduceLT, Int.reduceLE, Int.reduceEq, Nat.zero_add, Int.zero_add, big_eq, true_and, and_true, and_self, dSub_int, dAdd_int, dAddI_int, dLt_int, dLe_int, dGt_int, dGe_int, dEqD_int, bInt_int, bLen_lst, bLen_tup, bMin_int, bMax_int, bAbs_int, dIs_non, dIs_int, dIs_nn, Bool.not_true, Bool.not_false, decide_true, decide_false, reduceIte, Bool.false_eq_true, if_false, if_true, iSeq_lst, iSeq_tup, iSeq_rdl, iEnu_lst, iEnu_tup]
    rw [dMod_int h0]
    simp (implicitDefEqProofs := false) only [↓w_lcT, ↓w_mth, ↓w_calm, ↓w_tryM, ↓w_tm0, ↓w_tmN, ↓w_tmS, ↓w_seq, ↓w_next, ↓w_break, ↓w_cont, ↓w_retN, ↓w_asg, ↓w_expr, ↓w_ret, ↓w_if, ↓w_asgG, ↓w_for, ↓w_put, ↓w_aug, ↓w_augS, ↓w_raise0, ↓w_raise1, ↓w_raise2, ↓w_try, ↓w_tryAs, ↓w_var, ↓w_c, ↓w_op, ↓w_chain, ↓w_notV, ↓w_andV, ↓w_orV, ↓w_ifE, ↓w_tst, ↓w_not, ↓w_and, ↓w_or, ↓w_yes, ↓w_nil, ↓w_cons, ↓w_tup, ↓w_lst, ↓w_lstT, ↓w_cb, ↓w_call, ↓w_callK, ↓w_neg, ↓w_no, ↓w_pt, ↓w_sl, ↓w_fld, ↓w_src, ↓w_rng, ↓w_enu, ↓w_listT, ↓w_app, ↓w_lc, ↓w_xf, ↓w_fldT, ↓w_make, ↓w_makeL, ↓w_run, ↓w_cut, ↓w_pure, ↓w_drop, w_ok, w_ex, w_nx, w_rt, w_bk, w_ct, w_exS, w_some, w_v, w_tr, w_fa, w_tb, w_ti, w_tn, w_L, w_L0, wb_not, cn_f, startD, arr, gN_eq, gTp, gCn, gNl, Option.bind_some, List.filterMap_cons, List.filterMap_nil, List.map_cons, List.map_nil, List.replicate_succ, List.replicate_zero, List.cons_append, List.nil_append, List.getElem?_cons_zero, List.getElem?_cons_succ, List.set_cons_zero, List.set_cons_succ, List.length_cons, List.length_nil, Nat.reduceAdd, Nat.reduceSub, Nat.reduceLeDiff, Nat.reduceEqDiff, Int.reducePow, Int.reduceToNat, Int.reduceNeg, Int.reduceAdd, Int.reduceMul, Int.reduceSub, Int.reduceLT, Int.reduceLE, Int.reduceEq, Nat.zero_add, Int.zero_add, big_eq, true_and, and_true, and_self, dSub_int, dAdd_int, dAddI_int, dLt_int, dLe_int, dGt_int, dGe_int, dEqD_int, bInt_int, bLen_lst, bLen_tup, bMin_int, bMax_int, bAbs_int, dIs_non, dIs_int, dIs_nn, Bool.not_true, Bool.not_false, decide_true, decide_false, reduceIte, Bool.false_eq_true, if_false, if_true, iSeq_lst, iSeq_tup, iSeq_rdl, iEnu_lst, iEnu_tup]
    exact h _ v3 (Int.emod_nonneg _ (by omega)) (Int.emod_lt_of_pos _ h0) (ok3.mono (by omega))
def numB : List D → S → R D := runF 6
  ((sSeq (sAsg 1 (fOp dIx (fLst (fCons (fC (.int 4)) (fCons (fC (.int 6)) (fCons (fC (.int 13)) (fCons (fC (.int 41)) (fCons (fOp dAdd (fOp dPow (fC (.int 10)) (fC (.int 9))) (fC (.int 1))) fNil)))))) (fCall 2 drawB (fCons (fVar 0) (fCons (fC (.int 5)) fNil)))))
    (sSeq (sAsg 2 (fCall 2 drawB (fCons (fVar 0) (fCons (fC (.int 6)) fNil))))
    (sSeq (sAsg 3 (fCall 2 wideG (fCons (fVar 0) (fCons (fVar 1) fNil))))
    (sSeq (sAsg 4 (fCall 2 wideG (fCons (fVar 0) (fCons (fVar 1) fNil))))
    (sSeq (sAsg 5 (fOp dAdd (fC (.int 1)) (fCall 2 wideG (fCons (fVar 0) (fCons (fOp dSub (fVar 1) (fC (.int 1))) fNil)))))
    (sSeq (sIf (fTst (fOp (dEqD false) (fVar 2) (fC (.int 0)))) (sAsg 3 (fC (.int 0))) sNext)
    (sSeq (sIf (fTst (fOp (dEqD false) (fVar 2) (fC (.int 1)))) (sAsg 4 (fC (.int 0))) sNext)
    (sSeq (sIf (fAnd (fTst (fOp (dEqD false) (fVar 2) (fC (.int 2)))) (fTst (fOp dGt (fVar 1) (fC (.int 1000))))) (sAsg 5 (fOp dAdd (fC (.int 1)) (fOp dMod (fCB bInt (fCons (fVar 5) fNil)) (fC (.int 9))))) sNext)
    (sSeq (sIf (fTst (fOp (dEqD false) (fOp dAdd (fOp dMul (fC (.int 2)) (fVar 3)) (fVar 4)) (fC (.int 0)))) (sAsg 4 (fC (.int 1))) sNext)
    (sRet (fTup (fCons (fVar 3) (fCons (fVar 4) (fCons (fVar 5) fNil)))))))))))))))
theorem numB_wp (ok : v.Ok n) (hn : n + 16 < 2 ^ 60) (h : ∀ (M : Mc) (v' : SrcV), M.Ok → v'.Ok (n + 16) → Q (.tup [.int M.o, .int M.l, .int M.g]) (v'.o :: r)) : @WR _ (numB [.ref 0] (v.o :: r)) Q E := by
  unfold numB
  simp (implicitDefEqProofs := false) only [pow9, ↓w_lcT, ↓w_mth, ↓w_calm, ↓w_tryM, ↓w_tm0, ↓w_tmN, ↓w_tmS, ↓w_seq, ↓w_next, ↓w_break, ↓w_cont, ↓w_retN, ↓w_asg, ↓w_expr, ↓w_ret, ↓w_if, ↓w_asgG, ↓w_for, ↓w_put, ↓w_aug, ↓w_augS, ↓w_raise0, ↓w_raise1, ↓w_raise2, ↓w_try, ↓w_tryAs, ↓w_var, ↓w_c, ↓w_op, ↓w_chain, ↓w_notV, ↓w_andV, ↓w_orV, ↓w_ifE, ↓w_tst, ↓w_not, ↓w_and, ↓w_or, ↓w_yes, ↓w_nil, ↓w_cons, ↓w_tup, ↓w_lst, ↓w_lstT, ↓w_cb, ↓w_call, ↓w_callK, ↓w_neg, ↓w_no, ↓w_pt, ↓w_sl, ↓w_fld, ↓w_src, ↓w_rng, ↓w_enu, ↓w_listT, ↓w_app, ↓w_lc, ↓w_xf, ↓w_fldT, ↓w_make, ↓w_makeL, ↓w_run, ↓w_cut, ↓w_pure, ↓w_drop, w_ok, w_ex, w_nx, w_rt, w_bk, w_ct, w_exS, w_some, w_v, w_tr, w_fa, w_tb, w_ti, w_tn, w_L, w_L0, wb_not, cn_f, startD, arr, gN_eq, gTp, gCn, gNl, Option.bind_some, List.filterMap_cons, List.filterMap_nil, List.map_cons, List.map_nil, List.replicate_succ, List.replicate_zero, List.cons_append, List.nil_append, List.getElem?_cons_zero, List.getElem?_cons_succ, List.set_cons_zero, List.set_cons_succ, List.length_cons, List.length_nil, Nat.reduceAdd, Nat.reduceSub, Nat.reduceLeDiff, Nat.reduceEqDiff, Int.reducePow, Int.reduceToNat, Int.reduceNeg, Int.reduceAdd, Int.reduceMul, Int.reduceSub, Int.reduceLT, Int.reduceLE, Int.reduceEq, Nat.zero_add, Int.zero_add, big_eq, true_and, and_true, and_self, dSub_int, dAdd_int, dAddI_int, dLt_int, dLe_int, dGt_int, dGe_int, dEqD_int, bInt_int, bLen_lst, bLen_tup, bMin_int, bMax_int, bAbs_int, dIs_non, dIs_int, dIs_nn, Bool.not_true, Bool.not_false, decide_true, decide_false, reduceIte, Bool.false_eq_true, if_false, if_true, iSeq_lst, iSeq_tup, iSeq_rdl, iEnu_lst, iEnu_tup]
  refine drawB_wp ok (by omega) (by decide) (by decide +kernel) fun k v1 k0 k1 ok1 => ?_
  simp (implicitDefEqProofs := false) only [↓w_lcT, ↓w_mth, ↓w_calm, ↓w_tryM, ↓w_tm0, ↓w_tmN, ↓w_tmS, ↓w_seq, ↓w_next, ↓w_break, ↓w_cont, ↓w_retN, ↓w_asg, ↓w_expr, ↓w_ret, ↓w_if, ↓w_asgG, ↓w_for, ↓w_put, ↓w_aug, ↓w_augS, ↓w_raise0, ↓w_raise1, ↓w_raise2, ↓w_try, ↓w_tryAs, ↓w_var, ↓w_c, ↓w_op, ↓w_chain, ↓w_notV, ↓w_andV, ↓w_orV, ↓w_ifE, ↓w_tst, ↓w_not, ↓w_and, ↓w_or, ↓w_yes, ↓w_nil, ↓w_cons, ↓w_tup, ↓w_lst, ↓w_lstT, ↓w_cb, ↓w_call, ↓w_callK, ↓w_neg, ↓w_no, ↓w_pt, ↓w_sl, ↓w_fld, ↓w_src, ↓w_rng, ↓w_enu, ↓w_listT, ↓w_app, ↓w_lc, ↓w_xf, ↓w_fldT, ↓w_make, ↓w_makeL, ↓w_run, ↓w_cut, ↓w_pure, ↓w_drop, w_ok, w_ex, w_nx, w_rt, w_bk, w_ct, w_exS, w_some, w_v, w_tr, w_fa, w_tb, w_ti, w_tn, w_L, w_L0, wb_not, cn_f, startD, arr, gN_eq, gTp, gCn, gNl, Option.bind_some, List.filterMap_cons, List.filterMap_nil, List.map_cons, List.map_nil, List.replicate_succ, List.replicate_zero, List.cons_append, List.nil_append, List.getElem?_cons_zero, List.getElem?_cons_succ, List.set_cons_zero, List.set_cons_succ, List.length_cons, List.length_nil, Nat.reduceAdd, Nat.reduceSub, Nat.reduceLeDiff, Nat.reduceEqDiff, Int.reducePow, Int.reduceToNat, Int.reduceNeg, Int.reduceAdd, Int.reduceMul, Int.reduceSub, Int.reduceLT, Int.reduceLE, Int.reduceEq, Nat.zero_add, Int.zero_add, big_eq, true_and, and_true, and_self, dSub_int, dAdd_int, dAddI_int, dLt_int, dLe_int, dGt_int, dGe_int, dEqD_int, bInt_int, bLen_lst, bLen_tup, bMin_int, bMax_int, bAbs_int, dIs_non, dIs_int, dIs_nn, Bool.not_true, Bool.not_false, decide_true, decide_false, reduceIte, Bool.false_eq_true, if_false, if_true, iSeq_lst, iSeq_tup, iSeq_rdl, iEnu_lst, iEnu_tup]
  refine wo_pick (fun x => ∃ a : Int, x = .int a ∧ 4 ≤ a ∧ a ≤ 1000000001) k0 (by simpa using k1) ?_ ?_
  · intro x hx
    simp only [List.mem_cons, List.not_mem_nil, or_false] at hx
    rcases hx with rfl | rfl | rfl | rfl | rfl <;> exact ⟨_, rfl, by decide, by decide⟩
  rintro x ⟨a, rfl, a0, a1⟩
  simp (implicitDefEqProofs := false) only [↓w_lcT, ↓w_mth, ↓w_calm, ↓w_tryM, ↓w_tm0, ↓w_tmN, ↓w_tmS, ↓w_seq, ↓w_next, ↓w_break, ↓w_cont, ↓w_retN, ↓w_asg, ↓w_expr, ↓w_ret, ↓w_if, ↓w_asgG, ↓w_for, ↓w_put, ↓w_aug, ↓w_augS, ↓w_raise0, ↓w_raise1, ↓w_raise2, ↓w_try, ↓w_tryAs, ↓w_var, ↓w_c, ↓w_op, ↓w_chain, ↓w_notV, ↓w_andV, ↓w_orV, ↓w_ifE, ↓w_tst, ↓w_not, ↓w_and, ↓w_or, ↓w_yes, ↓w_nil, ↓w_cons, ↓w_tup, ↓w_lst, ↓w_lstT, ↓w_cb, ↓w_call, ↓w_callK, ↓w_neg, ↓w_no, ↓w_pt, ↓w_sl, ↓w_fld, ↓w_src, ↓w_rng, ↓w_enu, ↓w_listT, ↓w_app, ↓w_lc, ↓w_xf, ↓w_fldT, ↓w_make, ↓w_makeL, ↓w_run, ↓w_cut, ↓w_pure, ↓w_drop, w_ok, w_ex, w_nx, w_rt, w_bk, w_ct, w_exS, w_some, w_v, w_tr, w_fa, w_tb, w_ti, w_tn, w_L, w_L0, wb_not, cn_f, startD, arr, gN_eq, gTp, gCn, gNl, Option.bind_some, List.filterMap_cons, List.filterMap_nil, List.map_cons, List.map_nil, List.replicate_succ, List.replicate_zero, List.cons_append, List.nil_append, List.getElem?_cons_zero, List.getElem?_cons_succ, List.set_cons_zero, List.set_cons_succ, List.length_cons, List.length_nil, Nat.reduceAdd, Nat.reduceSub, Nat.reduceLeDiff, Nat.reduceEqDiff, Int.reducePow, Int.reduceToNat, Int.reduceNeg, Int.reduceAdd, Int.reduceMul, Int.reduceSub, Int.reduceLT, Int.reduceLE, Int.reduceEq, Nat.zero_add, Int.zero_add, big_eq, true_and, and_true, and_self, dSub_int, dAdd_int, dAddI_int, dLt_int, dLe_int, dGt_int, dGe_int, dEqD_int, bInt_int, bLen_lst, bLen_tup, bMin_int, bMax_int, bAbs_int, dIs_non, dIs_int, dIs_nn, Bool.not_true, Bool.not_false, decide_true, decide_false, reduceIte, Bool.false_eq_true, if_false, if_true, iSeq_lst, iSeq_tup, iSeq_rdl, iEnu_lst, iEnu_tup]
  refine drawB_wp ok1 (by omega) (by decide) (by decide +kernel) fun kd v2 kd0 kd1 ok2 => ?_
  simp (implicitDefEqProofs := false) only [↓w_lcT, ↓w_mth, ↓w_calm, ↓w_tryM, ↓w_tm0, ↓w_tmN, ↓w_tmS, ↓w_seq, ↓w_next, ↓w_break, ↓w_cont, ↓w_retN, ↓w_asg, ↓w_expr, ↓w_ret, ↓w_if, ↓w_asgG, ↓w_for, ↓w_put, ↓w_aug, ↓w_augS, ↓w_raise0, ↓w_raise1, ↓w_raise2, ↓w_try, ↓w_tryAs, ↓w_var, ↓w_c, ↓w_op, ↓w_chain, ↓w_notV, ↓w_andV, ↓w_orV, ↓w_ifE, ↓w_tst, ↓w_not, ↓w_and, ↓w_or, ↓w_yes, ↓w_nil, ↓w_cons, ↓w_tup, ↓w_lst, ↓w_lstT, ↓w_cb, ↓w_call, ↓w_callK, ↓w_neg, ↓w_no, ↓w_pt, ↓w_sl, ↓w_fld, ↓w_src, ↓w_rng, ↓w_enu, ↓w_listT, ↓w_app, ↓w_lc, ↓w_xf, ↓w_fldT, ↓w_make, ↓w_makeL, ↓w_run, ↓w_cut, ↓w_pure, ↓w_drop, w_ok, w_ex, w_nx, w_rt, w_bk, w_ct, w_exS, w_some, w_v, w_tr, w_fa, w_tb, w_ti, w_tn, w_L, w_L0, wb_not, cn_f, startD, arr, gN_eq, gTp, gCn, gNl, Option.bind_some, List.filterMap_cons, List.filterMap_nil, List.map_cons, List.map_nil, List.replicate_succ, List.replicate_zero, List.cons_append, List.nil_append, List.getElem?_cons_zero, List.getElem?_cons_succ, List.set_cons_zero, List.set_cons_succ, List.length_cons, List.length_nil, Nat.reduceAdd, Nat.reduceSub, Nat.reduceLeDiff, Nat.reduceEqDiff, Int.reducePow, Int.reduceToNat, Int.reduceNeg, Int.reduceAdd, Int.reduceMul, Int.reduceSub, Int.reduceLT, Int.reduceLE, Int.reduceEq, Nat.zero_add, Int.zero_add, big_eq, true_and, and_true, and_self, dSub_int, dAdd_int, dAddI_int, dLt_int, dLe_int, dGt_int, dGe_int, dEqD_int, bInt_int, bLen_lst, bLen_tup, bMin_int, bMax_int, bAbs_int, dIs_non, dIs_int, dIs_nn, Bool.not_true, Bool.not_false, decide_true, decide_false, reduceIte, Bool.false_eq_true, if_false, if_true, iSeq_lst, iSeq_tup, iSeq_rdl, iEnu_lst, iEnu_tup]
  refine wide_wp ok2 (by omega) (by omega) fun o v3 o0 o1 ok3 => ?_
  simp (implicitDefEqProofs := false) only [↓w_lcT, ↓w_mth, ↓w_calm, ↓w_tryM, ↓w_tm0, ↓w_tmN, ↓w_tmS, ↓w_seq, ↓w_next, ↓w_break, ↓w_cont, ↓w_retN, ↓w_asg, ↓w_expr, ↓w_ret, ↓w_if, ↓w_asgG, ↓w_for, ↓w_put, ↓w_aug, ↓w_augS, ↓w_raise0, ↓w_raise1, ↓w_raise2, ↓w_try, ↓w_tryAs, ↓w_var, ↓w_c, ↓w_op, ↓w_chain, ↓w_notV, ↓w_andV, ↓w_orV, ↓w_ifE, ↓w_tst, ↓w_not, ↓w_and, ↓w_or, ↓w_yes, ↓w_nil, ↓w_cons, ↓w_tup, ↓w_lst, ↓w_lstT, ↓w_cb, ↓w_call, ↓w_callK, ↓w_neg, ↓w_no, ↓w_pt, ↓w_sl, ↓w_fld, ↓w_src, ↓w_rng, ↓w_enu, ↓w_listT, ↓w_app, ↓w_lc, ↓w_xf, ↓w_fldT, ↓w_make, ↓w_makeL, ↓w_run, ↓w_cut, ↓w_pure, ↓w_drop, w_ok, w_ex, w_nx, w_rt, w_bk, w_ct, w_exS, w_some, w_v, w_tr, w_fa, w_tb, w_ti, w_tn, w_L, w_L0, wb_not, cn_f, startD, arr, gN_eq, gTp, gCn, gNl, Option.bind_some, List.filterMap_cons, List.filterMap_nil, List.map_cons, List.map_nil, List.replicate_succ, List.replicate_zero, List.cons_append, List.nil_append, List.getElem?_cons_zero, List.getElem?_cons_succ, List.set_cons_zero, List.set_cons_succ, List.length_cons, List.length_nil, Nat.reduceAdd, Nat.reduceSub, Nat.reduceLeDiff, Nat.reduceEqDiff, Int.reducePow, Int.reduceToNat, Int.reduceNeg, Int.reduceAdd, Int.reduceMul, Int.reduceSub, Int.reduceLT, Int.reduceLE, Int.reduceEq, Nat.zero_add, Int.zero_add, big_eq, true_and, and_true, and_self, dSub_int, dAdd_int, dAddI_int, dLt_int, dLe_int, dGt_int, dGe_int, dEqD_int, bInt_int, bLen_lst, bLen_tup, bMin_int, bMax_int, bAbs_int, dIs_non, dIs_int, dIs_nn, Bool.not_true, Bool.not_false, decide_true, decide_false, reduceIte, Bool.false_eq_true, if_false, if_true, iSeq_lst, iSeq_tup, iSeq_rdl, iEnu_lst, iEnu_tup]
  refine wide_wp ok3 (by omega) (by omega) fun l v4 l0 l1 ok4 => ?_
  simp (implicitDefEqProofs := false) only [↓w_lcT, ↓w_mth, ↓w_calm, ↓w_tryM, ↓w_tm0, ↓w_tmN, ↓w_tmS, ↓w_seq, ↓w_next, ↓w_break, ↓w_cont, ↓w_retN, ↓w_asg, ↓w_expr, ↓w_ret, ↓w_if, ↓w_asgG, ↓w_for, ↓w_put, ↓w_aug, ↓w_augS, ↓w_raise0, ↓w_raise1, ↓w_raise2, ↓w_try, ↓w_tryAs, ↓w_var, ↓w_c, ↓w_op, ↓w_chain, ↓w_notV, ↓w_andV, ↓w_orV, ↓w_ifE, ↓w_tst, ↓w_not, ↓w_and, ↓w_or, ↓w_yes, ↓w_nil, ↓w_cons, ↓w_tup, ↓w_lst, ↓w_lstT, ↓w_cb, ↓w_call, ↓w_callK, ↓w_neg, ↓w_no, ↓w_pt, ↓w_sl, ↓w_fld, ↓w_src, ↓w_rng, ↓w_enu, ↓w_listT, ↓w_app, ↓w_lc, ↓w_xf, ↓w_fldT, ↓w_make, ↓w_makeL, ↓w_run, ↓w_cut, ↓w_pure, ↓w_drop, w_ok, w_ex, w_nx, w_rt, w_bk, w_ct, w_exS, w_some, w_v, w_tr, w_fa, w_tb, w_ti, w_tn, w_L, w_L0, wb_not, cn_f, startD, arr, gN_eq, gTp, gCn, gNl, Option.bind_some, List.filterMap_cons, List.filterMap_nil, List.map_cons, List.map_nil, List.replicate_succ, List.replicate_zero, List.cons_append, List.nil_append, List.getElem?_cons_zero, List.getElem?_cons_succ, List.set_cons_zero, List.set_cons_succ, List.length_cons, List.length_nil, Nat.reduceAdd, Nat.reduceSub, Nat.reduceLeDiff, Nat.reduceEqDiff, Int.reducePow, Int.reduceToNat, Int.reduceNeg, Int.reduceAdd, Int.reduceMul, Int.reduceSub, Int.reduceLT, Int.reduceLE, Int.reduceEq, Nat.zero_add, Int.zero_add, big_eq, true_and, and_true, and_self, dSub_int, dAdd_int, dAddI_int, dLt_int, dLe_int, dGt_int, dGe_int, dEqD_int, bInt_int, bLen_lst, bLen_tup, bMin_int, bMax_int, bAbs_int, dIs_non, dIs_int, dIs_nn, Bool.not_true, Bool.not_false, decide_true, decide_false, reduceIte, Bool.false_eq_true, if_false, if_true, iSeq_lst, iSeq_tup, iSeq_rdl, iEnu_lst, iEnu_tup]
  refine wide_wp ok4 (by omega) (by omega) fun g v5 g0 g1 ok5 => ?_
  simp (implicitDefEqProofs := false) only [↓w_lcT, ↓w_mth, ↓w_calm, ↓w_tryM, ↓w_tm0, ↓w_tmN, ↓w_tmS, ↓w_next, ↓w_break, ↓w_cont, ↓w_retN, ↓w_asg, ↓w_expr, ↓w_ret, ↓w_if, ↓w_asgG, ↓w_for, ↓w_put, ↓w_aug, ↓w_augS, ↓w_raise0, ↓w_raise1, ↓w_raise2, ↓w_try, ↓w_tryAs, ↓w_var, ↓w_c, ↓w_op, ↓w_chain, ↓w_notV, ↓w_andV, ↓w_orV, ↓w_ifE, ↓w_tst, ↓w_not, ↓w_and, ↓w_or, ↓w_yes, ↓w_nil, ↓w_cons, ↓w_tup, ↓w_lst, ↓w_lstT, ↓w_cb, ↓w_call, ↓w_callK, ↓w_neg, ↓w_no, ↓w_pt, ↓w_sl, ↓w_fld, ↓w_src, ↓w_rng, ↓w_enu, ↓w_listT, ↓w_app, ↓w_lc, ↓w_xf, ↓w_fldT, ↓w_make, ↓w_makeL, ↓w_run, ↓w_cut, ↓w_pure, ↓w_drop, ↓wq_asg, ↓wq_asgG, ↓wq_expr, ↓wq_put, ↓wq_aug, ↓wq_augS, ↓wq_for, w_ok, w_ex, w_nx, w_rt, w_bk, w_ct, w_exS, w_some, w_v, w_tr, w_fa, w_tb, w_ti, w_tn, w_L, w_L0, wb_not, cn_f, startD, arr, gN_eq, gTp, gCn, gNl, Option.bind_some, List.filterMap_cons, List.filterMap_nil, List.map_cons, List.map_nil, List.replicate_succ, List.replicate_zero, List.cons_append, List.nil_append, List.getElem?_cons_zero, List.getElem?_cons_succ, List.set_cons_zero, List.set_cons_succ, List.length_cons, List.length_nil, Nat.reduceAdd, Nat.reduceSub, Nat.reduceLeDiff, Nat.reduceEqDiff, Int.reducePow, Int.reduceToNat, Int.reduceNeg, Int.reduceAdd, Int.reduceMul, Int.reduceSub, Int.reduceLT, Int.reduceLE, Int.reduceEq, Nat.zero_add, Int.zero_add, big_eq, true_and, and_true, and_self, dSub_int, dAdd_int, dAddI_int, dLt_int, dLe_int, dGt_int, dGe_int, dEqD_int, bInt_int, bLen_lst, bLen_tup, bMin_int, bMax_int, bAbs_int, dIs_non, dIs_int, dIs_nn, Bool.not_true, Bool.not_false, decide_true, decide_false, reduceIte, Bool.false_eq_true, if_false, if_true, iSeq_lst, iSeq_tup, iSeq_rdl, iEnu_lst, iEnu_tup]
  refine ws_cut (fun L s => ∃ o : Int, L = [some (.ref 0), some (.int a), some (.int kd), some (.int o), some (.int l), some (.int (1 + g))] ∧ s = v5.o :: r ∧ 0 ≤ o ∧ o ≤ 1000000000) ?_ ?_
  · simp (implicitDefEqProofs := false) only [↓w_lcT, ↓w_mth, ↓w_calm, ↓w_tryM, ↓w_tm0, ↓w_tmN, ↓w_tmS, ↓w_seq, ↓w_next, ↓w_break, ↓w_cont, ↓w_retN, ↓w_asg, ↓w_expr, ↓w_ret, ↓w_if, ↓w_asgG, ↓w_for, ↓w_put, ↓w_aug, ↓w_augS, ↓w_raise0, ↓w_raise1, ↓w_raise2, ↓w_try, ↓w_tryAs, ↓w_var, ↓w_c, ↓w_op, ↓w_chain, ↓w_notV, ↓w_andV, ↓w_orV, ↓w_ifE, ↓w_tst, ↓w_not, ↓w_and, ↓w_or, ↓w_yes, ↓w_nil, ↓w_cons, ↓w_tup, ↓w_lst, ↓w_lstT, ↓w_cb, ↓w_call, ↓w_callK, ↓w_neg, ↓w_no, ↓w_pt, ↓w_sl, ↓w_fld, ↓w_src, ↓w_rng, ↓w_enu, ↓w_listT, ↓w_app, ↓w_lc, ↓w_xf, ↓w_fldT, ↓w_make, ↓w_makeL, ↓w_run, ↓w_cut, ↓w_pure, ↓w_drop, w_ok, w_ex, w_nx, w_rt, w_bk, w_ct, w_exS, w_some, w_v, w_tr, w_fa, w_tb, w_ti, w_tn, w_L, w_L0, wb_not, cn_f, startD, arr, gN_eq, gTp, gCn, gNl, Option.bind_some, List.filterMap_cons, List.filterMap_nil, List.map_cons, List.map_nil, List.replicate_succ, List.replicate_zero, List.cons_append, List.nil_append, List.getElem?_cons_zero, List.getElem?_cons_succ, List.set_cons_zero, List.set_cons_succ, List.length_cons, List.length_nil, Nat.reduceAdd, Nat.reduceSub, Nat.reduceLeDiff, Nat.reduceEqDiff, Int.reducePow, Int.reduceToNat, Int.reduceNeg, Int.reduceAdd, Int.reduceMul, Int.reduceSub, Int.reduceLT, Int.reduceLE, Int.reduceEq, Nat.zero_add, Int.zero_add, big_eq, true_and, and_true, and_self, dSub_int, dAdd_int, dAddI_int, dLt_int, dLe_int, dGt_int, dGe_int, dEqD_int, bInt_int, bLen_lst, bLen_tup, bMin_int, bMax_int, bAbs_int, dIs_non, dIs_int, dIs_nn, Bool.not_true, Bool.not_false, decide_true, decide_false, reduceIte, Bool.false_eq_true, if_false, if_true, iSeq_lst, iSeq_tup, iSeq_rdl, iEnu_lst, iEnu_tup]
    refine wb_dec (fun h => ?_) (fun h => ?_)
    · simp (implicitDefEqProofs := false) only [↓w_lcT, ↓w_mth, ↓w_calm, ↓w_tryM, ↓w_tm0, ↓w_tmN, ↓w_tmS, ↓w_seq, ↓w_next, ↓w_break, ↓w_cont, ↓w_retN, ↓w_asg, ↓w_expr, ↓w_ret, ↓w_if, ↓w_asgG, ↓w_for, ↓w_put, ↓w_aug, ↓w_augS, ↓w_raise0, ↓w_raise1, ↓w_raise2, ↓w_try, ↓w_tryAs, ↓w_var, ↓w_c, ↓w_op, ↓w_chain, ↓w_notV, ↓w_andV, ↓w_orV, ↓w_ifE, ↓w_tst, ↓w_not, ↓w_and, ↓w_or, ↓w_yes, ↓w_nil, ↓w_cons, ↓w_tup, ↓w_lst, ↓w_lstT, ↓w_cb, ↓w_call, ↓w_callK, ↓w_neg, ↓w_no, ↓w_pt, ↓w_sl, ↓w_fld, ↓w_src, ↓w_rng, ↓w_enu, ↓w_listT, ↓w_app, ↓w_lc, ↓w_xf, ↓w_fldT, ↓w_make, ↓w_makeL, ↓w_run, ↓w_cut, ↓w_pure, ↓w_drop, w_ok, w_ex, w_nx, w_rt, w_bk, w_ct, w_exS, w_some, w_v, w_tr, w_fa, w_tb, w_ti, w_tn, w_L, w_L0, wb_not, cn_f, startD, arr, gN_eq, gTp, gCn, gNl, Option.bind_some, List.filterMap_cons, List.filterMap_nil, List.map_cons, List.map_nil, List.replicate_succ, List.replicate_zero, List.cons_append, List.nil_append, List.getElem?_cons_zero, List.getElem?_cons_succ, List.set_cons_zero, List.set_cons_succ, List.length_cons, List.length_nil, Nat.reduceAdd, Nat.reduceSub, Nat.reduceLeDiff, Nat.reduceEqDiff, Int.reducePow, Int.reduceToNat, Int.reduceNeg, Int.reduceAdd, Int.reduceMul, Int.reduceSub, Int.reduceLT, Int.reduceLE, Int.reduceEq, Nat.zero_add, Int.zero_add, big_eq, true_and, and_true, and_self, dSub_int, dAdd_int, dAddI_int, dLt_int, dLe_int, dGt_int, dGe_int, dEqD_int, bInt_int, bLen_lst, bLen_tup, bMin_int, bMax_int, bAbs_int, dIs_non, dIs_int, dIs_nn, Bool.not_true, Bool.not_false, decide_true, decide_false, reduceIte, Bool.false_eq_true, if_false, if_true, iSeq_lst, iSeq_tup, iSeq_rdl, iEnu_lst, iEnu_tup]
      exact ⟨0, rfl, by decide, by decide⟩
    · simp (implicitDefEqProofs := false) only [↓w_lcT, ↓w_mth, ↓w_calm, ↓w_tryM, ↓w_tm0, ↓w_tmN, ↓w_tmS, ↓w_seq, ↓w_next, ↓w_break, ↓w_cont, ↓w_retN, ↓w_asg, ↓w_expr, ↓w_ret, ↓w_if, ↓w_asgG, ↓w_for, ↓w_put, ↓w_aug, ↓w_augS, ↓w_raise0, ↓w_raise1, ↓w_raise2, ↓w_try, ↓w_tryAs, ↓w_var, ↓w_c, ↓w_op, ↓w_chain, ↓w_notV, ↓w_andV, ↓w_orV, ↓w_ifE, ↓w_tst, ↓w_not, ↓w_and, ↓w_or, ↓w_yes, ↓w_nil, ↓w_cons, ↓w_tup, ↓w_lst, ↓w_lstT, ↓w_cb, ↓w_call, ↓w_callK, ↓w_neg, ↓w_no, ↓w_pt, ↓w_sl, ↓w_fld, ↓w_src, ↓w_rng, ↓w_enu, ↓w_listT, ↓w_app, ↓w_lc, ↓w_xf, ↓w_fldT, ↓w_make, ↓w_makeL, ↓w_run, ↓w_cut, ↓w_pure, ↓w_drop, w_ok, w_ex, w_nx, w_rt, w_bk, w_ct, w_exS, w_some, w_v, w_tr, w_fa, w_tb, w_ti, w_tn, w_L, w_L0, wb_not, cn_f, startD, arr, gN_eq, gTp, gCn, gNl, Option.bind_some, List.filterMap_cons, List.filterMap_nil, List.map_cons, List.map_nil, List.replicate_succ, List.replicate_zero, List.cons_append, List.nil_append, List.getElem?_cons_zero, List.getElem?_cons_succ, List.set_cons_zero, List.set_cons_succ, List.length_cons, List.length_nil, Nat.reduceAdd, Nat.reduceSub, Nat.reduceLeDiff, Nat.reduceEqDiff, Int.reducePow, Int.reduceToNat, Int.reduceNeg, Int.reduceAdd, Int.reduceMul, Int.reduceSub, Int.reduceLT, Int.reduceLE, Int.reduceEq, Nat.zero_add, Int.zero_add, big_eq, true_and, and_true, and_self, dSub_int, dAdd_int, dAddI_int, dLt_int, dLe_int, dGt_int, dGe_int, dEqD_int, bInt_int, bLen_lst, bLen_tup, bMin_int, bMax_int, bAbs_int, dIs_non, dIs_int, dIs_nn, Bool.not_true, Bool.not_false, decide_true, decide_false, reduceIte, Bool.false_eq_true, if_false, if_true, iSeq_lst, iSeq_tup, iSeq_rdl, iEnu_lst, iEnu_tup]
      exact ⟨o, rfl, by omega, by omega⟩
  rintro L s ⟨o, rfl, rfl, o0, o1⟩
  refine ws_cut (fun L s => ∃ l : Int, L = [some (.ref 0), some (.int a), some (.int kd), some (.int o), some (.int l), some (.int (1 + g))] ∧ s = v5.o :: r ∧ 0 ≤ l ∧ l ≤ 1000000000) ?_ ?_
  · simp (implicitDefEqProofs := false) only [↓w_lcT, ↓w_mth, ↓w_calm, ↓w_tryM, ↓w_tm0, ↓w_tmN, ↓w_tmS, ↓w_seq, ↓w_next, ↓w_break, ↓w_cont, ↓w_retN, ↓w_asg, ↓w_expr, ↓w_ret, ↓w_if, ↓w_asgG, ↓w_for, ↓w_put, ↓w_aug, ↓w_augS, ↓w_raise0, ↓w_raise1, ↓w_raise2, ↓w_try, ↓w_tryAs, ↓w_var, ↓w_c, ↓w_op, ↓w_chain, ↓w_notV, ↓w_andV, ↓w_orV, ↓w_ifE, ↓w_tst, ↓w_not, ↓w_and, ↓w_or, ↓w_yes, ↓w_nil, ↓w_cons, ↓w_tup, ↓w_lst, ↓w_lstT, ↓w_cb, ↓w_call, ↓w_callK, ↓w_neg, ↓w_no, ↓w_pt, ↓w_sl, ↓w_fld, ↓w_src, ↓w_rng, ↓w_enu, ↓w_listT, ↓w_app, ↓w_lc, ↓w_xf, ↓w_fldT, ↓w_make, ↓w_makeL, ↓w_run, ↓w_cut, ↓w_pure, ↓w_drop, w_ok, w_ex, w_nx, w_rt, w_bk, w_ct, w_exS, w_some, w_v, w_tr, w_fa, w_tb, w_ti, w_tn, w_L, w_L0, wb_not, cn_f, startD, arr, gN_eq, gTp, gCn, gNl, Option.bind_some, List.filterMap_cons, List.filterMap_nil, List.map_cons, List.map_nil, List.replicate_succ, List.replicate_zero, List.cons_append, List.nil_append, List.getElem?_cons_zero, List.getElem?_cons_succ, List.set_cons_zero, List.set_cons_succ, List.length_cons, List.length_nil, Nat.reduceAdd, Nat.reduceSub, Nat.reduceLeDiff, Nat.reduceEqDiff, Int.reducePow, Int.reduceToNat, Int.reduceNeg, Int.reduceAdd, Int.reduceMul, Int.reduceSub, Int.reduceLT, Int.reduceLE, Int.reduceEq, Nat.zero_add, Int.zero_add, big_eq, true_and, and_true, and_self, dSub_int, dAdd_int, dAddI_int, dLt_int, dLe_int, dGt_int, dGe_int, dEqD_int, bInt_int, bLen_lst, bLen_tup, bMin_int, bMax_int, bAbs_int, dIs_non, dIs_int, dIs_nn, Bool.not_true, Bool.not_false, decide_true, decide_false, reduceIte, Bool.false_eq_true, if_false, if_true, iSeq_lst, iSeq_tup, iSeq_rdl, iEnu_lst, iEnu_tup]
    refine wb_dec (fun h => ?_) (fun h => ?_)
    · simp (implicitDefEqProofs := false) only [↓w_lcT, ↓w_mth, ↓w_calm, ↓w_tryM, ↓w_tm0, ↓w_tmN, ↓w_tmS, ↓w_seq, ↓w_next, ↓w_break, ↓w_cont, ↓w_retN, ↓w_asg, ↓w_expr, ↓w_ret, ↓w_if, ↓w_asgG, ↓w_for, ↓w_put, ↓w_aug, ↓w_augS, ↓w_raise0, ↓w_raise1, ↓w_raise2, ↓w_try, ↓w_tryAs, ↓w_var, ↓w_c, ↓w_op, ↓w_chain, ↓w_notV, ↓w_andV, ↓w_orV, ↓w_ifE, ↓w_tst, ↓w_not, ↓w_and, ↓w_or, ↓w_yes, ↓w_nil, ↓w_cons, ↓w_tup, ↓w_lst, ↓w_lstT, ↓w_cb, ↓w_call, ↓w_callK, ↓w_neg, ↓w_no, ↓w_pt, ↓w_sl, ↓w_fld, ↓w_src, ↓w_rng, ↓w_enu, ↓w_listT, ↓w_app, ↓w_lc, ↓w_xf, ↓w_fldT, ↓w_make, ↓w_makeL, ↓w_run, ↓w_cut, ↓w_pure, ↓w_drop, w_ok, w_ex, w_nx, w_rt, w_bk, w_ct, w_exS, w_some, w_v, w_tr, w_fa, w_tb, w_ti, w_tn, w_L, w_L0, wb_not, cn_f, startD, arr, gN_eq, gTp, gCn, gNl, Option.bind_some, List.filterMap_cons, List.filterMap_nil, List.map_cons, List.map_nil, List.replicate_succ, List.replicate_zero, List.cons_append, List.nil_append, List.getElem?_cons_zero, List.getElem?_cons_succ, List.set_cons_zero, List.set_cons_succ, List.length_cons, List.length_nil, Nat.reduceAdd, Nat.reduceSub, Nat.reduceLeDiff, Nat.reduceEqDiff, Int.reducePow, Int.reduceToNat, Int.reduceNeg, Int.reduceAdd, Int.reduceMul, Int.reduceSub, Int.reduceLT, Int.reduceLE, Int.reduceEq, Nat.zero_add, Int.zero_add, big_eq, true_and, and_true, and_self, dSub_int, dAdd_int, dAddI_int, dLt_int, dLe_int, dGt_int, dGe_int, dEqD_int, bInt_int, bLen_lst, bLen_tup, bMin_int, bMax_int, bAbs_int, dIs_non, dIs_int, dIs_nn, Bool.not_true, Bool.not_false, decide_true, decide_false, reduceIte, Bool.false_eq_true, if_false, if_true, iSeq_lst, iSeq_tup, iSeq_rdl, iEnu_lst, iEnu_tup]
      exact ⟨0, rfl, by decide, by decide⟩
    · simp (implicitDefEqProofs := false) only [↓w_lcT, ↓w_mth, ↓w_calm, ↓w_tryM, ↓w_tm0, ↓w_tmN, ↓w_tmS, ↓w_seq, ↓w_next, ↓w_break, ↓w_cont, ↓w_retN, ↓w_asg, ↓w_expr, ↓w_ret, ↓w_if, ↓w_asgG, ↓w_for, ↓w_put, ↓w_aug, ↓w_augS, ↓w_raise0, ↓w_raise1, ↓w_raise2, ↓w_try, ↓w_tryAs, ↓w_var, ↓w_c, ↓w_op, ↓w_chain, ↓w_notV, ↓w_andV, ↓w_orV, ↓w_ifE, ↓w_tst, ↓w_not, ↓w_and, ↓w_or, ↓w_yes, ↓w_nil, ↓w_cons, ↓w_tup, ↓w_lst, ↓w_lstT, ↓w_cb, ↓w_call, ↓w_callK, ↓w_neg, ↓w_no, ↓w_pt, ↓w_sl, ↓w_fld, ↓w_src, ↓w_rng, ↓w_enu, ↓w_listT, ↓w_app, ↓w_lc, ↓w_xf, ↓w_fldT, ↓w_make, ↓w_makeL, ↓w_run, ↓w_cut, ↓w_pure, ↓w_drop, w_ok, w_ex, w_nx, w_rt, w_bk, w_ct, w_exS, w_some, w_v, w_tr, w_fa, w_tb, w_ti, w_tn, w_L, w_L0, wb_not, cn_f, startD, arr, gN_eq, gTp, gCn, gNl, Option.bind_some, List.filterMap_cons, List.filterMap_nil, List.map_cons, List.map_nil, List.replicate_succ, List.replicate_zero, List.cons_append, List.nil_append, List.getElem?_cons_zero, List.getElem?_cons_succ, List.set_cons_zero, List.set_cons_succ, List.length_cons, List.length_nil, Nat.reduceAdd, Nat.reduceSub, Nat.reduceLeDiff, Nat.reduceEqDiff, Int.reducePow, Int.reduceToNat, Int.reduceNeg, Int.reduceAdd, Int.reduceMul, Int.reduceSub, Int.reduceLT, Int.reduceLE, Int.reduceEq, Nat.zero_add, Int.zero_add, big_eq, true_and, and_true, and_self, dSub_int, dAdd_int, dAddI_int, dLt_int, dLe_int, dGt_int, dGe_int, dEqD_int, bInt_int, bLen_lst, bLen_tup, bMin_int, bMax_int, bAbs_int, dIs_non, dIs_int, dIs_nn, Bool.not_true, Bool.not_false, decide_true, decide_false, reduceIte, Bool.false_eq_true, if_false, if_true, iSeq_lst, iSeq_tup, iSeq_rdl, iEnu_lst, iEnu_tup]
      exact ⟨l, rfl, by omega, by omega⟩
  rintro L s ⟨l, rfl, rfl, l0, l1⟩
  refine ws_cut (fun L s => ∃ g : Int, L = [some (.ref 0), some (.int a), some (.int kd), some (.int o), some (.int l), some (.int g)] ∧ s = v5.o :: r ∧ 1 ≤ g ∧ g ≤ 1000000000) ?_ ?_
  · simp (implicitDefEqProofs := false) only [↓w_lcT, ↓w_mth, ↓w_calm, ↓w_tryM, ↓w_tm0, ↓w_tmN, ↓w_tmS, ↓w_seq, ↓w_next, ↓w_break, ↓w_cont, ↓w_retN, ↓w_asg, ↓w_expr, ↓w_ret, ↓w_if, ↓w_asgG, ↓w_for, ↓w_put, ↓w_aug, ↓w_augS, ↓w_raise0, ↓w_raise1, ↓w_raise2, ↓w_try, ↓w_tryAs, ↓w_var, ↓w_c, ↓w_op, ↓w_chain, ↓w_notV, ↓w_andV, ↓w_orV, ↓w_ifE, ↓w_tst, ↓w_not, ↓w_and, ↓w_or, ↓w_yes, ↓w_nil, ↓w_cons, ↓w_tup, ↓w_lst, ↓w_lstT, ↓w_cb, ↓w_call, ↓w_callK, ↓w_neg, ↓w_no, ↓w_pt, ↓w_sl, ↓w_fld, ↓w_src, ↓w_rng, ↓w_enu, ↓w_listT, ↓w_app, ↓w_lc, ↓w_xf, ↓w_fldT, ↓w_make, ↓w_makeL, ↓w_run, ↓w_cut, ↓w_pure, ↓w_drop, w_ok, w_ex, w_nx, w_rt, w_bk, w_ct, w_exS, w_some, w_v, w_tr, w_fa, w_tb, w_ti, w_tn, w_L, w_L0, wb_not, cn_f, startD, arr, gN_eq, gTp, gCn, gNl, Option.bind_some, List.filterMap_cons, List.filterMap_nil, List.map_cons, List.map_nil, List.replicate_succ, List.replicate_zero, List.cons_append, List.nil_append, List.getElem?_cons_zero, List.getElem?_cons_succ, List.set_cons_zero, List.set_cons_succ, List.length_cons, List.length_nil, Nat.reduceAdd, Nat.reduceSub, Nat.reduceLeDiff, Nat.reduceEqDiff, Int.reducePow, Int.reduceToNat, Int.reduceNeg, Int.reduceAdd, Int.reduceMul, Int.reduceSub, Int.reduceLT, Int.reduceLE, Int.reduceEq, Nat.zero_add, Int.zero_add, big_eq, true_and, and_true, and_self, dSub_int, dAdd_int, dAddI_int, dLt_int, dLe_int, dGt_int, dGe_int, dEqD_int, bInt_int, bLen_lst, bLen_tup, bMin_int, bMax_int, bAbs_int, dIs_non, dIs_int, dIs_nn, Bool.not_true, Bool.not_false, decide_true, decide_false, reduceIte, Bool.false_eq_true, if_false, if_true, iSeq_lst, iSeq_tup, iSeq_rdl, iEnu_lst, iEnu_tup]
    refine wb_dec (fun h => ?_) (fun h => ?_)
    · simp (implicitDefEqProofs := false) only [↓w_lcT, ↓w_mth, ↓w_calm, ↓w_tryM, ↓w_tm0, ↓w_tmN, ↓w_tmS, ↓w_seq, ↓w_next, ↓w_break, ↓w_cont, ↓w_retN, ↓w_asg, ↓w_expr, ↓w_ret, ↓w_if, ↓w_asgG, ↓w_for, ↓w_put, ↓w_aug, ↓w_augS, ↓w_raise0, ↓w_raise1, ↓w_raise2, ↓w_try, ↓w_tryAs, ↓w_var, ↓w_c, ↓w_op, ↓w_chain, ↓w_notV, ↓w_andV, ↓w_orV, ↓w_ifE, ↓w_tst, ↓w_not, ↓w_and, ↓w_or, ↓w_yes, ↓w_nil, ↓w_cons, ↓w_tup, ↓w_lst, ↓w_lstT, ↓w_cb, ↓w_call, ↓w_callK, ↓w_neg, ↓w_no, ↓w_pt, ↓w_sl, ↓w_fld, ↓w_src, ↓w_rng, ↓w_enu, ↓w_listT, ↓w_app, ↓w_lc, ↓w_xf, ↓w_fldT, ↓w_make, ↓w_makeL, ↓w_run, ↓w_cut, ↓w_pure, ↓w_drop, w_ok, w_ex, w_nx, w_rt, w_bk, w_ct, w_exS, w_some, w_v, w_tr, w_fa, w_tb, w_ti, w_tn, w_L, w_L0, wb_not, cn_f, startD, arr, gN_eq, gTp, gCn, gNl, Option.bind_some, List.filterMap_cons, List.filterMap_nil, List.map_cons, List.map_nil, List.replicate_succ, List.replicate_zero, List.cons_append, List.nil_append, List.getElem?_cons_zero, List.getElem?_cons_succ, List.set_cons_zero, List.set_cons_succ, List.length_cons, List.length_nil, Nat.reduceAdd, Nat.reduceSub, Nat.reduceLeDiff, Nat.reduceEqDiff, Int.reducePow, Int.reduceToNat, Int.reduceNeg, Int.reduceAdd, Int.reduceMul, Int.reduceSub, Int.reduceLT, Int.reduceLE, Int.reduceEq, Nat.zero_add, Int.zero_add, big_eq, true_and, and_true, and_self, dSub_int, dAdd_int, dAddI_int, dLt_int, dLe_int, dGt_int, dGe_int, dEqD_int, bInt_int, bLen_lst, bLen_tup, bMin_int, bMax_int, bAbs_int, dIs_non, dIs_int, dIs_nn, Bool.not_true, Bool.not_false, decide_true, decide_false, reduceIte, Bool.false_eq_true, if_false, if_true, iSeq_lst, iSeq_tup, iSeq_rdl, iEnu_lst, iEnu_tup]
      refine wb_dec (fun h => ?_) (fun h => ?_)
      · simp (implicitDefEqProofs := false) only [↓w_lcT, ↓w_mth, ↓w_calm, ↓w_tryM, ↓w_tm0, ↓w_tmN, ↓w_tmS, ↓w_seq, ↓w_next, ↓w_break, ↓w_cont, ↓w_retN, ↓w_asg, ↓w_expr, ↓w_ret, ↓w_if, ↓w_asgG, ↓w_for, ↓w_put, ↓w_aug, ↓w_augS, ↓w_raise0, ↓w_raise1, ↓w_raise2, ↓w_try, ↓w_tryAs, ↓w_var, ↓w_c, ↓w_op, ↓w_chain, ↓w_notV, ↓w_andV, ↓w_orV, ↓w_ifE, ↓w_tst, ↓w_not, ↓w_and, ↓w_or, ↓w_yes, ↓w_nil, ↓w_cons, ↓w_tup, ↓w_lst, ↓w_lstT, ↓w_cb, ↓w_call, ↓w_callK, ↓w_neg, ↓w_no, ↓w_pt, ↓w_sl, ↓w_fld, ↓w_src, ↓w_rng, ↓w_enu, ↓w_listT, ↓w_app, ↓w_lc, ↓w_xf, ↓w_fldT, ↓w_make, ↓w_makeL, ↓w_run, ↓w_cut, ↓w_pure, ↓w_drop, w_ok, w_ex, w_nx, w_rt, w_bk, w_ct, w_exS, w_some, w_v, w_tr, w_fa, w_tb, w_ti, w_tn, w_L, w_L0, wb_not, cn_f, startD, arr, gN_eq, gTp, gCn, gNl, Option.bind_some, List.filterMap_cons, List.filterMap_nil, List.map_cons, List.map_nil, List.replicate_succ, List.replicate_zero, List.cons_append, List.nil_append, List.getElem?_cons_zero, List.getElem?_cons_succ, List.set_cons_zero, List.set_cons_succ, List.length_cons, List.length_nil, Nat.reduceAdd, Nat.reduceSub, Nat.reduceLeDiff, Nat.reduceEqDiff, Int.reducePow, Int.reduceToNat, Int.reduceNeg, Int.reduceAdd, Int.reduceMul, Int.reduceSub, Int.reduceLT, Int.reduceLE, Int.reduceEq, Nat.zero_add, Int.zero_add, big_eq, true_and, and_true, and_self, dSub_int, dAdd_int, dAddI_int, dLt_int, dLe_int, dGt_int, dGe_int, dEqD_int, bInt_int, bLen_lst, bLen_tup, bMin_int, bMax_int, bAbs_int, dIs_non, dIs_int, dIs_nn, Bool.not_true, Bool.not_false, decide_true, decide_false, reduceIte, Bool.false_eq_true, if_false, if_true, iSeq_lst, iSeq_tup, iSeq_rdl, iEnu_lst, iEnu_tup]
        rw [dMod_int (by decide)]
        simp (implicitDefEqProofs := false) only [↓w_lcT, ↓w_mth, ↓w_calm, ↓w_tryM, ↓w_tm0, ↓w_tmN, ↓w_tmS, ↓w_seq, ↓w_next, ↓w_break, ↓w_cont, ↓w_retN, ↓w_asg, ↓w_expr, ↓w_ret, ↓w_if, ↓w_asgG, ↓w_for, ↓w_put, ↓w_aug, ↓w_augS, ↓w_raise0, ↓w_raise1, ↓w_raise2, ↓w_try, ↓w_tryAs, ↓w_var, ↓w_c, ↓w_op, ↓w_chain, ↓w_notV, ↓w_andV, ↓w_orV, ↓w_ifE, ↓w_tst, ↓w_not, ↓w_and, ↓w_or, ↓w_yes, ↓w_nil, ↓w_cons, ↓w_tup, ↓w_lst, ↓w_lstT, ↓w_cb, ↓w_call, ↓w_callK, ↓w_neg, ↓w_no, ↓w_pt, ↓w_sl, ↓w_fld, ↓w_src, ↓w_rng, ↓w_enu, ↓w_listT, ↓w_app, ↓w_lc, ↓w_xf, ↓w_fldT, ↓w_make, ↓w_makeL, ↓w_run, ↓w_cut, ↓w_pure, ↓w_drop, w_ok, w_ex, w_nx, w_rt, w_bk, w_ct, w_exS, w_some, w_v, w_tr, w_fa, w_tb, w_ti, w_tn, w_L, w_L0, wb_not, cn_f, startD, arr, gN_eq, gTp, gCn, gNl, Option.bind_some, List.filterMap_cons, List.filterMap_nil, List.map_cons, List.map_nil, List.replicate_succ, List.replicate_zero, List.cons_append, List.nil_append, List.getElem?_cons_zero, List.getElem?_cons_succ, List.set_cons_zero, List.set_cons_succ, List.length_cons, List.length_nil, Nat.reduceAdd, Nat.reduceSub, Nat.reduceLeDiff, Nat.reduceEqDiff, Int.reducePow, Int.reduceToNat, Int.reduceNeg, Int.reduceAdd, Int.reduceMul, Int.reduceSub, Int.reduceLT, Int.reduceLE, Int.reduceEq, Nat.zero_add, Int.zero_add, big_eq, true_and, and_true, and_self, dSub_int, dAdd_int, dAddI_int, dLt_int, dLe_int, dGt_int, dGe_int, dEqD_int, bInt_int, bLen_lst, bLen_tup, bMin_int, bMax_int, bAbs_int, dIs_non, dIs_int, dIs_nn, Bool.not_true, Bool.not_false, decide_true, decide_false, reduceIte, Bool.false_eq_true, if_false, if_true, iSeq_lst, iSeq_tup, iSeq_rdl, iEnu_lst, iEnu_tup]
        exact ⟨_, rfl, by omega, by omega⟩
      · simp (implicitDefEqProofs := false) only [↓w_lcT, ↓w_mth, ↓w_calm, ↓w_tryM, ↓w_tm0, ↓w_tmN, ↓w_tmS, ↓w_seq, ↓w_next, ↓w_break, ↓w_cont, ↓w_retN, ↓w_asg, ↓w_expr, ↓w_ret, ↓w_if, ↓w_asgG, ↓w_for, ↓w_put, ↓w_aug, ↓w_augS, ↓w_raise0, ↓w_raise1, ↓w_raise2, ↓w_try, ↓w_tryAs, ↓w_var, ↓w_c, ↓w_op, ↓w_chain, ↓w_notV, ↓w_andV, ↓w_orV, ↓w_ifE, ↓w_tst, ↓w_not, ↓w_and, ↓w_or, ↓w_yes, ↓w_nil, ↓w_cons, ↓w_tup, ↓w_lst, ↓w_lstT, ↓w_cb, ↓w_call, ↓w_callK, ↓w_neg, ↓w_no, ↓w_pt, ↓w_sl, ↓w_fld, ↓w_src, ↓w_rng, ↓w_enu, ↓w_listT, ↓w_app, ↓w_lc, ↓w_xf, ↓w_fldT, ↓w_make, ↓w_makeL, ↓w_run, ↓w_cut, ↓w_pure, ↓w_drop, w_ok, w_ex, w_nx, w_rt, w_bk, w_ct, w_exS, w_some, w_v, w_tr, w_fa, w_tb, w_ti, w_tn, w_L, w_L0, wb_not, cn_f, startD, arr, gN_eq, gTp, gCn, gNl, Option.bind_some, List.filterMap_cons, List.filterMap_nil, List.map_cons, List.map_nil, List.replicate_succ, List.replicate_zero, List.cons_append, List.nil_append, List.getElem?_cons_zero, List.getElem?_cons_succ, List.set_cons_zero, List.set_cons_succ, List.length_cons, List.length_nil, Nat.reduceAdd, Nat.reduceSub, Nat.reduceLeDiff, Nat.reduceEqDiff, Int.reducePow, Int.reduceToNat, Int.reduceNeg, Int.reduceAdd, Int.reduceMul, Int.reduceSub, Int.reduceLT, Int.reduceLE, Int.reduceEq, Nat.zero_add, Int.zero_add, big_eq, true_and, and_true, and_self, dSub_int, dAdd_int, dAddI_int, dLt_int, dLe_int, dGt_int, dGe_int, dEqD_int, bInt_int, bLen_lst, bLen_tup, bMin_int, bMax_int, bAbs_int, dIs_non, dIs_int, dIs_nn, Bool.not_true, Bool.not_false, decide_true, decide_false, reduceIte, Bool.false_eq_true, if_false, if_true, iSeq_lst, iSeq_tup, iSeq_rdl, iEnu_lst, iEnu_tup]
        exact ⟨_, rfl, by omega, by omega⟩
    · simp (implicitDefEqProofs := false) only [↓w_lcT, ↓w_mth, ↓w_calm, ↓w_tryM, ↓w_tm0, ↓w_tmN, ↓w_tmS, ↓w_seq, ↓w_next, ↓w_break, ↓w_cont, ↓w_retN, ↓w_asg, ↓w_expr, ↓w_ret, ↓w_if, ↓w_asgG, ↓w_for, ↓w_put, ↓w_aug, ↓w_augS, ↓w_raise0, ↓w_raise1, ↓w_raise2, ↓w_try, ↓w_tryAs, ↓w_var, ↓w_c, ↓w_op, ↓w_chain, ↓w_notV, ↓w_andV, ↓w_orV, ↓w_ifE, ↓w_tst, ↓w_not, ↓w_and, ↓w_or, ↓w_yes, ↓w_nil, ↓w_cons, ↓w_tup, ↓w_lst, ↓w_lstT, ↓w_cb, ↓w_call, ↓w_callK, ↓w_neg, ↓w_no, ↓w_pt, ↓w_sl, ↓w_fld, ↓w_src, ↓w_rng, ↓w_enu, ↓w_listT, ↓w_app, ↓w_lc, ↓w_xf, ↓w_fldT, ↓w_make, ↓w_makeL, ↓w_run, ↓w_cut, ↓w_pure, ↓w_drop, w_ok, w_ex, w_nx, w_rt, w_bk, w_ct, w_exS, w_some, w_v, w_tr, w_fa, w_tb, w_ti, w_tn, w_L, w_L0, wb_not, cn_f, startD, arr, gN_eq, gTp, gCn, gNl, Option.bind_some, List.filterMap_cons, List.filterMap_nil, List.map_cons, List.map_nil, List.replicate_succ, List.replicate_zero, List.cons_append, List.nil_append, List.getElem?_cons_zero, List.getElem?_cons_succ, List.set_cons_zero, List.set_cons_succ, List.length_cons, List.length_nil, Nat.reduceAdd, Nat.reduceSub, Nat.reduceLeDiff, Nat.reduceEqDiff, Int.reducePow, Int.reduceToNat, Int.reduceNeg, Int.reduceAdd, Int.reduceMul, Int.reduceSub, Int.reduceLT, Int.reduceLE, Int.reduceEq, Nat.zero_add, Int.zero_add, big_eq, true_and, and_true, and_self, dSub_int, dAdd_int, dAddI_int, dLt_int, dLe_int, dGt_int, dGe_int, dEqD_int, bInt_int, bLen_lst, bLen_tup, bMin_int, bMax_int, bAbs_int, dIs_non, dIs_int, dIs_nn, Bool.not_true, Bool.not_false, decide_true, decide_false, reduceIte, Bool.false_eq_true, if_false, if_true, iSeq_lst, iSeq_tup, iSeq_rdl, iEnu_lst, iEnu_tup]
      exact ⟨_, rfl, by omega, by omega⟩
  rintro L s ⟨g, rfl, rfl, g0, g1⟩
  simp (implicitDefEqProofs := false) only [↓w_lcT, ↓w_mth, ↓w_calm, ↓w_tryM, ↓w_tm0, ↓w_tmN, ↓w_tmS, ↓w_seq, ↓w_next, ↓w_break, ↓w_cont, ↓w_retN, ↓w_asg, ↓w_expr, ↓w_ret, ↓w_if, ↓w_asgG, ↓w_for, ↓w_put, ↓w_aug, ↓w_augS, ↓w_raise0, ↓w_raise1, ↓w_raise2, ↓w_try, ↓w_tryAs, ↓w_var, ↓w_c, ↓w_op, ↓w_chain, ↓w_notV, ↓w_andV, ↓w_orV, ↓w_ifE, ↓w_tst, ↓w_not, ↓w_and, ↓w_or, ↓w_yes, ↓w_nil, ↓w_cons, ↓w_tup, ↓w_lst, ↓w_lstT, ↓w_cb, ↓w_call, ↓w_callK, ↓w_neg, ↓w_no, ↓w_pt, ↓w_sl, ↓w_fld, ↓w_src, ↓w_rng, ↓w_enu, ↓w_listT, ↓w_app, ↓w_lc, ↓w_xf, ↓w_fldT, ↓w_make, ↓w_makeL, ↓w_run, ↓w_cut, ↓w_pure, ↓w_drop, w_ok, w_ex, w_nx, w_rt, w_bk, w_ct, w_exS, w_some, w_v, w_tr, w_fa, w_tb, w_ti, w_tn, w_L, w_L0, wb_not, cn_f, startD, arr, gN_eq, gTp, gCn, gNl, Option.bind_some, List.filterMap_cons, List.filterMap_nil, List.map_cons, List.map_nil, List.replicate_succ, List.replicate_zero, List.cons_append, List.nil_append, List.getElem?_cons_zero, List.getElem?_cons_succ, List.set_cons_zero, List.set_cons_succ, List.length_cons, List.length_nil, Nat.reduceAdd, Nat.reduceSub, Nat.reduceLeDiff, Nat.reduceEqDiff, Int.reducePow, Int.reduceToNat, Int.reduceNeg, Int.reduceAdd, Int.reduceMul, Int.reduceSub, Int.reduceLT, Int.reduceLE, Int.reduceEq, Nat.zero_add, Int.zero_add, big_eq, true_and, and_true, and_self, dSub_int, dAdd_int, dAddI_int, dLt_int, dLe_int, dGt_int, dGe_int, dEqD_int, bInt_int, bLen_lst, bLen_tup, bMin_int, bMax_int, bAbs_int, dIs_non, dIs_int, dIs_nn, Bool.not_true, Bool.not_false, decide_true, decide_false, reduceIte, Bool.false_eq_true, if_false, if_true, iSeq_lst, iSeq_tup, iSeq_rdl, iEnu_lst, iEnu_tup]
  rw [dMul_small (by omega) (by omega) (by omega) (by omega)]
  simp (implicitDefEqProofs := false) only [↓w_lcT, ↓w_mth, ↓w_calm, ↓w_tryM, ↓w_tm0, ↓w_tmN, ↓w_tmS, ↓w_seq, ↓w_next, ↓w_break, ↓w_cont, ↓w_retN, ↓w_asg, ↓w_expr, ↓w_ret, ↓w_if, ↓w_asgG, ↓w_for, ↓w_put, ↓w_aug, ↓w_augS, ↓w_raise0, ↓w_raise1, ↓w_raise2, ↓w_try, ↓w_tryAs, ↓w_var, ↓w_c, ↓w_op, ↓w_chain, ↓w_notV, ↓w_andV, ↓w_orV, ↓w_ifE, ↓w_tst, ↓w_not, ↓w_and, ↓w_or, ↓w_yes, ↓w_nil, ↓w_cons, ↓w_tup, ↓w_lst, ↓w_lstT, ↓w_cb, ↓w_call, ↓w_callK, ↓w_neg, ↓w_no, ↓w_pt, ↓w_sl, ↓w_fld, ↓w_src, ↓w_rng, ↓w_enu, ↓w_listT, ↓w_app, ↓w_lc, ↓w_xf, ↓w_fldT, ↓w_make, ↓w_makeL, ↓w_run, ↓w_cut, ↓w_pure, ↓w_drop, w_ok, w_ex, w_nx, w_rt, w_bk, w_ct, w_exS, w_some, w_v, w_tr, w_fa, w_tb, w_ti, w_tn, w_L, w_L0, wb_not, cn_f, startD, arr, gN_eq, gTp, gCn, gNl, Option.bind_some, List.filterMap_cons, List.filterMap_nil, List.map_cons, List.map_nil, List.replicate_succ, List.replicate_zero, List.cons_append, List.nil_append, List.getElem?_cons_zero, List.getElem?_cons_succ, List.set_cons_zero, List.set_cons_succ, List.length_cons, List.length_nil, Nat.reduceAdd, Nat.reduceSub, Nat.reduceLeDiff, Nat.reduceEqDiff, Int.reducePow, Int.reduceToNat, Int.reduceNeg, Int.reduceAdd, Int.reduceMul, Int.reduceSub, Int.reduceLT, Int.reduceLE, Int.reduceEq, Nat.zero_add, Int.zero_add, big_eq, true_and, and_true, and_self, dSub_int, dAdd_int, dAddI_int, dLt_int, dLe_int, dGt_int, dGe_int, dEqD_int, bInt_int, bLen_lst, bLen_tup, bMin_int, bMax_int, bAbs_int, dIs_non, dIs_int, dIs_nn, Bool.not_true, Bool.not_false, decide_true, decide_false, reduceIte, Bool.false_eq_true, if_false, if_true, iSeq_lst, iSeq_tup, iSeq_rdl, iEnu_lst, iEnu_tup]
  refine wb_dec (fun hz => ?_) (fun hz => ?_)
  · simp (implicitDefEqProofs := false) only [↓w_lcT, ↓w_mth, ↓w_calm, ↓w_tryM, ↓w_tm0, ↓w_tmN, ↓w_tmS, ↓w_seq, ↓w_next, ↓w_break, ↓w_cont, ↓w_retN, ↓w_asg, ↓w_expr, ↓w_ret, ↓w_if, ↓w_asgG, ↓w_for, ↓w_put, ↓w_aug, ↓w_augS, ↓w_raise0, ↓w_raise1, ↓w_raise2, ↓w_try, ↓w_tryAs, ↓w_var, ↓w_c, ↓w_op, ↓w_chain, ↓w_notV, ↓w_andV, ↓w_orV, ↓w_ifE, ↓w_tst, ↓w_not, ↓w_and, ↓w_or, ↓w_yes, ↓w_nil, ↓w_cons, ↓w_tup, ↓w_lst, ↓w_lstT, ↓w_cb, ↓w_call, ↓w_callK, ↓w_neg, ↓w_no, ↓w_pt, ↓w_sl, ↓w_fld, ↓w_src, ↓w_rng, ↓w_enu, ↓w_listT, ↓w_app, ↓w_lc, ↓w_xf, ↓w_fldT, ↓w_make, ↓w_makeL, ↓w_run, ↓w_cut, ↓w_pure, ↓w_drop, w_ok, w_ex, w_nx, w_rt, w_bk, w_ct, w_exS, w_some, w_v, w_tr, w_fa, w_tb, w_ti, w_tn, w_L, w_L0, wb_not, cn_f, startD, arr, gN_eq, gTp, gCn, gNl, Option.bind_some, List.filterMap_cons, List.filterMap_nil, List.map_cons, List.map_nil, List.replicate_succ, List.replicate_zero, List.cons_append, List.nil_append, List.getElem?_cons_zero, List.getElem?_cons_succ, List.set_cons_zero, List.set_cons_succ, List.length_cons, List.length_nil, Nat.reduceAdd, Nat.reduceSub, Nat.reduceLeDiff, Nat.reduceEqDiff, Int.reducePow, Int.reduceToNat, Int.reduceNeg, Int.reduceAdd, Int.reduceMul, Int.reduceSub, Int.reduceLT, Int.reduceLE, Int.reduceEq, Nat.zero_add, Int.zero_add, big_eq, true_and, and_true, and_self, dSub_int, dAdd_int, dAddI_int, dLt_int, dLe_int, dGt_int, dGe_int, dEqD_int, bInt_int, bLen_lst, bLen_tup, bMin_int, bMax_int, bAbs_int, dIs_non, dIs_int, dIs_nn, Bool.not_true, Bool.not_false, decide_true, decide_false, reduceIte, Bool.false_eq_true, if_false, if_true, iSeq_lst, iSeq_tup, iSeq_rdl, iEnu_lst, iEnu_tup]
    exact h ⟨o, 1, g⟩ v5 ⟨o0, o1, by show (0 : Int) ≤ 1; decide, by show (1 : Int) ≤ _; decide, g0, g1, by show 0 < 2 * o + 1; omega⟩ (ok5.mono (by omega))
  · simp (implicitDefEqProofs := false) only [↓w_lcT, ↓w_mth, ↓w_calm, ↓w_tryM, ↓w_tm0, ↓w_tmN, ↓w_tmS, ↓w_seq, ↓w_next, ↓w_break, ↓w_cont, ↓w_retN, ↓w_asg, ↓w_expr, ↓w_ret, ↓w_if, ↓w_asgG, ↓w_for, ↓w_put, ↓w_aug, ↓w_augS, ↓w_raise0, ↓w_raise1, ↓w_raise2, ↓w_try, ↓w_tryAs, ↓w_var, ↓w_c, ↓w_op, ↓w_chain, ↓w_notV, ↓w_andV, ↓w_orV, ↓w_ifE, ↓w_tst, ↓w_not, ↓w_and, ↓w_or, ↓w_yes, ↓w_nil, ↓w_cons, ↓w_tup, ↓w_lst, ↓w_lstT, ↓w_cb, ↓w_call, ↓w_callK, ↓w_neg, ↓w_no, ↓w_pt, ↓w_sl, ↓w_fld, ↓w_src, ↓w_rng, ↓w_enu, ↓w_listT, ↓w_app, ↓w_lc, ↓w_xf, ↓w_fldT, ↓w_make, ↓w_makeL, ↓w_run, ↓w_cut, ↓w_pure, ↓w_drop, w_ok, w_ex, w_nx, w_rt, w_bk, w_ct, w_exS, w_some, w_v, w_tr, w_fa, w_tb, w_ti, w_tn, w_L, w_L0, wb_not, cn_f, startD, arr, gN_eq, gTp, gCn, gNl, Option.bind_some, List.filterMap_cons, List.filterMap_nil, List.map_cons, List.map_nil, List.replicate_succ, List.replicate_zero, List.cons_append, List.nil_append, List.getElem?_cons_zero, List.getElem?_cons_succ, List.set_cons_zero, List.set_cons_succ, List.length_cons, List.length_nil, Nat.reduceAdd, Nat.reduceSub, Nat.reduceLeDiff, Nat.reduceEqDiff, Int.reducePow, Int.reduceToNat, Int.reduceNeg, Int.reduceAdd, Int.reduceMul, Int.reduceSub, Int.reduceLT, Int.reduceLE, Int.reduceEq, Nat.zero_add, Int.zero_add, big_eq, true_and, and_true, and_self, dSub_int, dAdd_int, dAddI_int, dLt_int, dLe_int, dGt_int, dGe_int, dEqD_int, bInt_int, bLen_lst, bLen_tup, bMin_int, bMax_int, bAbs_int, dIs_non, dIs_int, dIs_nn, Bool.not_true, Bool.not_false, decide_true, decide_false, reduceIte, Bool.false_eq_true, if_false, if_true, iSeq_lst, iSeq_tup, iSeq_rdl, iEnu_lst, iEnu_tup]
    exact h ⟨o, l, g⟩ v5 ⟨o0, o1, l0, l1, g0, g1, by show 0 < 2 * o + l; omega⟩ (ok5.mono (by omega))
end
end SI

namespace Lw
open PySem L2 SI Pg Mt
variable {c : Cl} {M : Mc}
theorem eDraw : G__law_draw c = drawB := rfl
theorem eSrc : G__law_source c = srcG := rfl
theorem eNum : G__law_numbers c = numB := rfl
theorem steep_wp {v : SrcV} {n : Nat} {r : S} {Q : Cn (D → S → Prop)} {E : Cn (Addr → List Str → List D → S → Prop)} (hM : M.Ok) (ok : v.Ok n) (hn : n + 1 < 2 ^ 60) (h : ∀ (o l g : Int) (v' : SrcV), 0 ≤ o → 0 ≤ l → l ≤ 1000000000 → 1 ≤ g → g ≤ 1000000000 → v'.Ok (n + 1) → Q (.tup [.int o, .int l, .int g]) (v'.o :: r)) : @WR _ (G__law_steep c [.ref 0, .tup [.int M.o, .int M.l, .int M.g]] (v.o :: r)) Q E := by
  have o0 := hM.o0
  have o1 := hM.o1
  have l0 := hM.l0
  have l1 := hM.l1
  have g0 := hM.g0
  have g1 := hM.g1
  have m5 := Int.emod_nonneg M.g (show (5 : Int) ≠ 0 by decide)
  have m5' := Int.emod_lt_of_pos M.g (show (0 : Int) < 5 by decide)
  have m7 := Int.emod_nonneg M.g (show (7 : Int) ≠ 0 by decide)
  have m7' := Int.emod_lt_of_pos M.g (show (0 : Int) < 7 by decide)
  have ml := Int.emod_nonneg M.l (show 1 + M.o ≠ 0 by omega)
  have ml' : M.l % (1 + M.o) < 1 + M.o := Int.emod_lt_of_pos _ (by omega)
  unfold G__law_steep
  simp (implicitDefEqProofs := false) only [eDraw, ↓w_lcT, ↓w_mth, ↓w_calm, ↓w_tryM, ↓w_tm0, ↓w_tmN, ↓w_tmS, ↓w_seq, ↓w_next, ↓w_break, ↓w_cont, ↓w_retN, ↓w_asg, ↓w_expr, ↓w_ret, ↓w_if, ↓w_asgG, ↓w_for, ↓w_put, ↓w_aug, ↓w_augS, ↓w_raise0, ↓w_raise1, ↓w_raise2, ↓w_try, ↓w_tryAs, ↓w_var, ↓w_c, ↓w_op, ↓w_chain, ↓w_notV, ↓w_andV, ↓w_orV, ↓w_ifE, ↓w_tst, ↓w_not, ↓w_and, ↓w_or, ↓w_yes, ↓w_nil, ↓w_cons, ↓w_tup, ↓w_lst, ↓w_lstT, ↓w_cb, ↓w_call, ↓w_callK, ↓w_neg, ↓w_no, ↓w_pt, ↓w_sl, ↓w_fld, ↓w_src, ↓w_rng, ↓w_enu, ↓w_listT, ↓w_app, ↓w_lc, ↓w_xf, ↓w_fldT, ↓w_make, ↓w_makeL, ↓w_run, ↓w_cut, ↓w_pure, ↓w_drop, w_ok, w_ex, w_nx, w_rt, w_bk, w_ct, w_exS, w_some, w_v, w_tr, w_fa, w_tb, w_ti, w_tn, w_L, w_L0, wb_not, cn_f, startD, arr, gN_eq, gTp, gCn, gNl, Option.bind_some, List.filterMap_cons, List.filterMap_nil, List.map_cons, List.map_nil, List.replicate_succ, List.replicate_zero, List.cons_append, List.nil_append, List.getElem?_cons_zero, List.getElem?_cons_succ, List.set_cons_zero, List.set_cons_succ, List.length_cons, List.length_nil, Nat.reduceAdd, Nat.reduceSub, Nat.reduceLeDiff, Nat.reduceEqDiff, Int.reducePow, Int.reduceToNat, Int.reduceNeg, Int.reduceAdd, Int.reduceMul, Int.reduceSub, Int.reduceLT, Int.reduceLE, Int.reduceEq, Nat.zero_add, Int.zero_add, big_eq, true_and, and_true, and_self, dSub_int, dAdd_int, dAddI_int, dLt_int, dLe_int, dGt_int, dGe_int, dEqD_int, bInt_int, bLen_lst, bLen_tup, bMin_int, bMax_int, bAbs_int, dIs_non, dIs_int, dIs_nn, Bool.not_true, Bool.not_false, decide_true, decide_false, reduceIte, Bool.false_eq_true, if_false, if_true, iSeq_lst, iSeq_tup, iSeq_rdl, iEnu_lst, iEnu_tup]
  refine drawB_wp ok (by omega) (by decide) (by decide +kernel) fun k v' k0 k1 ok' => ?_
  simp (implicitDefEqProofs := false) only [↓w_lcT, ↓w_mth, ↓w_calm, ↓w_tryM, ↓w_tm0, ↓w_tmN, ↓w_tmS, ↓w_seq, ↓w_next, ↓w_break, ↓w_cont, ↓w_retN, ↓w_asg, ↓w_expr, ↓w_ret, ↓w_if, ↓w_asgG, ↓w_for, ↓w_put, ↓w_aug, ↓w_augS, ↓w_raise0, ↓w_raise1, ↓w_raise2, ↓w_try, ↓w_tryAs, ↓w_var, ↓w_c, ↓w_op, ↓w_chain, ↓w_notV, ↓w_andV, ↓w_orV, ↓w_ifE, ↓w_tst, ↓w_not, ↓w_and, ↓w_or, ↓w_yes, ↓w_nil, ↓w_cons, ↓w_tup, ↓w_lst, ↓w_lstT, ↓w_cb, ↓w_call, ↓w_callK, ↓w_neg, ↓w_no, ↓w_pt, ↓w_sl, ↓w_fld, ↓w_src, ↓w_rng, ↓w_enu, ↓w_listT, ↓w_app, ↓w_lc, ↓w_xf, ↓w_fldT, ↓w_make, ↓w_makeL, ↓w_run, ↓w_cut, ↓w_pure, ↓w_drop, w_ok, w_ex, w_nx, w_rt, w_bk, w_ct, w_exS, w_some, w_v, w_tr, w_fa, w_tb, w_ti, w_tn, w_L, w_L0, wb_not, cn_f, startD, arr, gN_eq, gTp, gCn, gNl, Option.bind_some, List.filterMap_cons, List.filterMap_nil, List.map_cons, List.map_nil, List.replicate_succ, List.replicate_zero, List.cons_append, List.nil_append, List.getElem?_cons_zero, List.getElem?_cons_succ, List.set_cons_zero, List.set_cons_succ, List.length_cons, List.length_nil, Nat.reduceAdd, Nat.reduceSub, Nat.reduceLeDiff, Nat.reduceEqDiff, Int.reducePow, Int.reduceToNat, Int.reduceNeg, Int.reduceAdd, Int.reduceMul, Int.reduceSub, Int.reduceLT, Int.reduceLE, Int.reduceEq, Nat.zero_add, Int.zero_add, big_eq, true_and, and_true, and_self, dSub_int, dAdd_int, dAddI_int, dLt_int, dLe_int, dGt_int, dGe_int, dEqD_int, bInt_int, bLen_lst, bLen_tup, bMin_int, bMax_int, bAbs_int, dIs_non, dIs_int, dIs_nn, Bool.not_true, Bool.not_false, decide_true, decide_false, reduceIte, Bool.false_eq_true, if_false, if_true, iSeq_lst, iSeq_tup, iSeq_rdl, iEnu_lst, iEnu_tup]
  refine wb_dec (fun h0 => ?_) (fun h0 => ?_)
  · simp (implicitDefEqProofs := false) only [↓w_lcT, ↓w_mth, ↓w_calm, ↓w_tryM, ↓w_tm0, ↓w_tmN, ↓w_tmS, ↓w_seq, ↓w_next, ↓w_break, ↓w_cont, ↓w_retN, ↓w_asg, ↓w_expr, ↓w_ret, ↓w_if, ↓w_asgG, ↓w_for, ↓w_put, ↓w_aug, ↓w_augS, ↓w_raise0, ↓w_raise1, ↓w_raise2, ↓w_try, ↓w_tryAs, ↓w_var, ↓w_c, ↓w_op, ↓w_chain, ↓w_notV, ↓w_andV, ↓w_orV, ↓w_ifE, ↓w_tst, ↓w_not, ↓w_and, ↓w_or, ↓w_yes, ↓w_nil, ↓w_cons, ↓w_tup, ↓w_lst, ↓w_lstT, ↓w_cb, ↓w_call, ↓w_callK, ↓w_neg, ↓w_no, ↓w_pt, ↓w_sl, ↓w_fld, ↓w_src, ↓w_rng, ↓w_enu, ↓w_listT, ↓w_app, ↓w_lc, ↓w_xf, ↓w_fldT, ↓w_make, ↓w_makeL, ↓w_run, ↓w_cut, ↓w_pure, ↓w_drop, w_ok, w_ex, w_nx, w_rt, w_bk, w_ct, w_exS, w_some, w_v, w_tr, w_fa, w_tb, w_ti, w_tn, w_L, w_L0, wb_not, cn_f, startD, arr, gN_eq, gTp, gCn, gNl, Option.bind_some, List.filterMap_cons, List.filterMap_nil, List.map_cons, List.map_nil, List.replicate_succ, List.replicate_zero, List.cons_append, List.nil_append, List.getElem?_cons_zero, List.getElem?_cons_succ, List.set_cons_zero, List.set_cons_succ, List.length_cons, List.length_nil, Nat.reduceAdd, Nat.reduceSub, Nat.reduceLeDiff, Nat.reduceEqDiff, Int.reducePow, Int.reduceToNat, Int.reduceNeg, Int.reduceAdd, Int.reduceMul, Int.reduceSub, Int.reduceLT, Int.reduceLE, Int.reduceEq, Nat.zero_add, Int.zero_add, big_eq, true_and, and_true, and_self, dSub_int, dAdd_int, dAddI_int, dLt_int, dLe_int, dGt_int, dGe_int, dEqD_int, bInt_int, bLen_lst, bLen_tup, bMin_int, bMax_int, bAbs_int, dIs_non, dIs_int, dIs_nn, Bool.not_true, Bool.not_false, decide_true, decide_false, reduceIte, Bool.false_eq_true, if_false, if_true, iSeq_lst, iSeq_tup, iSeq_rdl, iEnu_lst, iEnu_tup]
    rw [dMod_int (by omega)]
    simp (implicitDefEqProofs := false) only [↓w_lcT, ↓w_mth, ↓w_calm, ↓w_tryM, ↓w_tm0, ↓w_tmN, ↓w_tmS, ↓w_seq, ↓w_next, ↓w_break, ↓w_cont, ↓w_retN, ↓w_asg, ↓w_expr, ↓w_ret, ↓w_if, ↓w_asgG, ↓w_for, ↓w_put, ↓w_aug, ↓w_augS, ↓w_raise0, ↓w_raise1, ↓w_raise2, ↓w_try, ↓w_tryAs, ↓w_var, ↓w_c, ↓w_op, ↓w_chain, ↓w_notV, ↓w_andV, ↓w_orV, ↓w_ifE, ↓w_tst, ↓w_not, ↓w_and, ↓w_or, ↓w_yes, ↓w_nil, ↓w_cons, ↓w_tup, ↓w_lst, ↓w_lstT, ↓w_cb, ↓w_call, ↓w_callK, ↓w_neg, ↓w_no, ↓w_pt, ↓w_sl, ↓w_fld, ↓w_src, ↓w_rng, ↓w_enu, ↓w_listT, ↓w_app, ↓w_lc, ↓w_xf, ↓w_fldT, ↓w_make, ↓w_makeL, ↓w_run, ↓w_cut, ↓w_pure, ↓w_drop, w_ok, w_ex, w_nx, w_rt, w_bk, w_ct, w_exS, w_some, w_v, w_tr, w_fa, w_tb, w_ti, w_tn, w_L, w_L0, wb_not, cn_f, startD, arr, gN_eq, gTp, gCn, gNl, Option.bind_some, List.filterMap_cons, List.filterMap_nil, List.map_cons, List.map_nil, List.replicate_succ, List.replicate_zero, List.cons_append, List.nil_append, List.getElem?_cons_zero, List.getElem?_cons_succ, List.set_cons_zero, List.set_cons_succ, List.length_cons, List.length_nil, Nat.reduceAdd, Nat.reduceSub, Nat.reduceLeDiff, Nat.reduceEqDiff, Int.reducePow, Int.reduceToNat, Int.reduceNeg, Int.reduceAdd, Int.reduceMul, Int.reduceSub, Int.reduceLT, Int.reduceLE, Int.reduceEq, Nat.zero_add, Int.zero_add, big_eq, true_and, and_true, and_self, dSub_int, dAdd_int, dAddI_int, dLt_int, dLe_int, dGt_int, dGe_int, dEqD_int, bInt_int, bLen_lst, bLen_tup, bMin_int, bMax_int, bAbs_int, dIs_non, dIs_int, dIs_nn, Bool.not_true, Bool.not_false, decide_true, decide_false, reduceIte, Bool.false_eq_true, if_false, if_true, iSeq_lst, iSeq_tup, iSeq_rdl, iEnu_lst, iEnu_tup]
    rw [dMod_int (by omega)]
    simp (implicitDefEqProofs := false) only [↓w_lcT, ↓w_mth, ↓w_calm, ↓w_tryM, ↓w_tm0, ↓w_tmN, ↓w_tmS, ↓w_seq, ↓w_next, ↓w_break, ↓w_cont, ↓w_retN, ↓w_asg, ↓w_expr, ↓w_ret, ↓w_if, ↓w_asgG, ↓w_for, ↓w_put, ↓w_aug, ↓w_augS, ↓w_raise0, ↓w_raise1, ↓w_raise2, ↓w_try, ↓w_tryAs, ↓w_var, ↓w_c, ↓w_op, ↓w_chain, ↓w_notV, ↓w_andV, ↓w_orV, ↓w_ifE, ↓w_tst, ↓w_not, ↓w_and, ↓w_or, ↓w_yes, ↓w_nil, ↓w_cons, ↓w_tup, ↓w_lst, ↓w_lstT, ↓w_cb, ↓w_call, ↓w_callK, ↓w_neg, ↓w_no, ↓w_pt, ↓w_sl, ↓w_fld, ↓w_src, ↓w_rng, ↓w_enu, ↓w_listT, ↓w_app, ↓w_lc, ↓w_xf, ↓w_fldT, ↓w_make, ↓w_makeL, ↓w_run, ↓w_cut, ↓w_pure, ↓w_drop, w_ok, w_ex, w_nx, w_rt, w_bk, w_ct, w_exS, w_some, w_v, w_tr, w_fa, w_tb, w_ti, w_tn, w_L, w_L0, wb_not, cn_f, startD, arr, gN_eq, gTp, gCn, gNl, Option.bind_some, List.filterMap_cons, List.filterMap_nil, List.map_cons, List.map_nil, List.replicate_succ, List.replicate_zero, List.cons_append, List.nil_append, List.getElem?_cons_zero, List.getElem?_cons_succ, List.set_cons_zero, List.set_cons_succ, List.length_cons, List.length_nil, Nat.reduceAdd, Nat.reduceSub, Nat.reduceLeDiff, Nat.reduceEqDiff, Int.reducePow, Int.reduceToNat, Int.reduceNeg, Int.reduceAdd, Int.reduceMul, Int.reduceSub, Int.reduceLT, Int.reduceLE, Int.reduceEq, Nat.zero_add, Int.zero_add, big_eq, true_and, and_true, and_self, dSub_int, dAdd_int, dAddI_int, dLt_int, dLe_int, dGt_int, dGe_int, dEqD_int, bInt_int, bLen_lst, bLen_tup, bMin_int, bMax_int, bAbs_int, dIs_non, dIs_int, dIs_nn, Bool.not_true, Bool.not_false, decide_true, decide_false, reduceIte, Bool.false_eq_true, if_false, if_true, iSeq_lst, iSeq_tup, iSeq_rdl, iEnu_lst, iEnu_tup]
    exact h _ _ _ v' (by omega) ml (by omega) (by omega) (by omega) ok'
  · simp (implicitDefEqProofs := false) only [↓w_lcT, ↓w_mth, ↓w_calm, ↓w_tryM, ↓w_tm0, ↓w_tmN, ↓w_tmS, ↓w_seq, ↓w_next, ↓w_break, ↓w_cont, ↓w_retN, ↓w_asg, ↓w_expr, ↓w_ret, ↓w_if, ↓w_asgG, ↓w_for, ↓w_put, ↓w_aug, ↓w_augS, ↓w_raise0, ↓w_raise1, ↓w_raise2, ↓w_try, ↓w_tryAs, ↓w_var, ↓w_c, ↓w_op, ↓w_chain, ↓w_notV, ↓w_andV, ↓w_orV, ↓w_ifE, ↓w_tst, ↓w_not, ↓w_and, ↓w_or, ↓w_yes, ↓w_nil, ↓w_cons, ↓w_tup, ↓w_lst, ↓w_lstT, ↓w_cb, ↓w_call, ↓w_callK, ↓w_neg, ↓w_no, ↓w_pt, ↓w_sl, ↓w_fld, ↓w_src, ↓w_rng, ↓w_enu, ↓w_listT, ↓w_app, ↓w_lc, ↓w_xf, ↓w_fldT, ↓w_make, ↓w_makeL, ↓w_run, ↓w_cut, ↓w_pure, ↓w_drop, w_ok, w_ex, w_nx, w_rt, w_bk, w_ct, w_exS, w_some, w_v, w_tr, w_fa, w_tb, w_ti, w_tn, w_L, w_L0, wb_not, cn_f, startD, arr, gN_eq, gTp, gCn, gNl, Option.bind_some, List.filterMap_cons, List.filterMap_nil, List.map_cons, List.map_nil, List.replicate_succ, List.replicate_zero, List.cons_append, List.nil_append, List.getElem?_cons_zero, List.getElem?_cons_succ, List.set_cons_zero, List.set_cons_succ, List.length_cons, List.length_nil, Nat.reduceAdd, Nat.reduceSub, Nat.reduceLeDiff, Nat.reduceEqDiff, Int.reducePow, Int.reduceToNat, Int.reduceNeg, Int.reduceAdd, Int.reduceMul, Int.reduceSub, Int.reduceLT, Int.reduceLE, Int.reduceEq, Nat.zero_add, Int.zero_add, big_eq, true_and, and_true, and_self, dSub_int, dAdd_int, dAddI_int, dLt_int, dLe_int, dGt_int, dGe_int, dEqD_int, bInt_int, bLen_lst, bLen_tup, bMin_int, bMax_int, bAbs_int, dIs_non, dIs_int, dIs_nn, Bool.not_true, Bool.not_false, decide_true, decide_false, reduceIte, Bool.false_eq_true, if_false, if_true, iSeq_lst, iSeq_tup, iSeq_rdl, iEnu_lst, iEnu_tup]
    refine wb_dec (fun h0 => ?_) (fun h0 => ?_)
    · simp (implicitDefEqProofs := false) only [↓w_lcT, ↓w_mth, ↓w_calm, ↓w_tryM, ↓w_tm0, ↓w_tmN, ↓w_tmS, ↓w_seq, ↓w_next, ↓w_break, ↓w_cont, ↓w_retN, ↓w_asg, ↓w_expr, ↓w_ret, ↓w_if, ↓w_asgG, ↓w_for, ↓w_put, ↓w_aug, ↓w_augS, ↓w_raise0, ↓w_raise1, ↓w_raise2, ↓w_try, ↓w_tryAs, ↓w_var, ↓w_c, ↓w_op, ↓w_chain, ↓w_notV, ↓w_andV, ↓w_orV, ↓w_ifE, ↓w_tst, ↓w_not, ↓w_and, ↓w_or, ↓w_yes, ↓w_nil, ↓w_cons, ↓w_tup, ↓w_lst, ↓w_lstT, ↓w_cb, ↓w_call, ↓w_callK, ↓w_neg, ↓w_no, ↓w_pt, ↓w_sl, ↓w_fld, ↓w_src, ↓w_rng, ↓w_enu, ↓w_listT, ↓w_app, ↓w_lc, ↓w_xf, ↓w_fldT, ↓w_make, ↓w_makeL, ↓w_run, ↓w_cut, ↓w_pure, ↓w_drop, w_ok, w_ex, w_nx, w_rt, w_bk, w_ct, w_exS, w_some, w_v, w_tr, w_fa, w_tb, w_ti, w_tn, w_L, w_L0, wb_not, cn_f, startD, arr, gN_eq, gTp, gCn, gNl, Option.bind_some, List.filterMap_cons, List.filterMap_nil, List.map_cons, List.map_nil, List.replicate_succ, List.replicate_zero, List.cons_append, List.nil_append, List.getElem?_cons_zero, List.getElem?_cons_succ, List.set_cons_zero, List.set_cons_succ, List.length_cons, List.length_nil, Nat.reduceAdd, Nat.reduceSub, Nat.reduceLeDiff, Nat.reduceEqDiff, Int.reducePow, Int.reduceToNat, Int.reduceNeg, Int.reduceAdd, Int.reduceMul, Int.reduceSub, Int.reduceLT, Int.reduceLE, Int.reduceEq, Nat.zero_add, Int.zero_add, big_eq, true_and, and_true, and_self, dSub_int, dAdd_int, dAddI_int, dLt_int, dLe_int, dGt_int, dGe_int, dEqD_int, bInt_int, bLen_lst, bLen_tup, bMin_int, bMax_int, bAbs_int, dIs_non, dIs_int, dIs_nn, Bool.not_true, Bool.not_false, decide_true, decide_false, reduceIte, Bool.false_eq_true, if_false, if_true, iSeq_lst, iSeq_tup, iSeq_rdl, iEnu_lst, iEnu_tup]
      rw [dDiv_small (by omega) (by omega)]
      simp (implicitDefEqProofs := false) only [↓w_lcT, ↓w_mth, ↓w_calm, ↓w_tryM, ↓w_tm0, ↓w_tmN, ↓w_tmS, ↓w_seq, ↓w_next, ↓w_break, ↓w_cont, ↓w_retN, ↓w_asg, ↓w_expr, ↓w_ret, ↓w_if, ↓w_asgG, ↓w_for, ↓w_put, ↓w_aug, ↓w_augS, ↓w_raise0, ↓w_raise1, ↓w_raise2, ↓w_try, ↓w_tryAs, ↓w_var, ↓w_c, ↓w_op, ↓w_chain, ↓w_notV, ↓w_andV, ↓w_orV, ↓w_ifE, ↓w_tst, ↓w_not, ↓w_and, ↓w_or, ↓w_yes, ↓w_nil, ↓w_cons, ↓w_tup, ↓w_lst, ↓w_lstT, ↓w_cb, ↓w_call, ↓w_callK, ↓w_neg, ↓w_no, ↓w_pt, ↓w_sl, ↓w_fld, ↓w_src, ↓w_rng, ↓w_enu, ↓w_listT, ↓w_app, ↓w_lc, ↓w_xf, ↓w_fldT, ↓w_make, ↓w_makeL, ↓w_run, ↓w_cut, ↓w_pure, ↓w_drop, w_ok, w_ex, w_nx, w_rt, w_bk, w_ct, w_exS, w_some, w_v, w_tr, w_fa, w_tb, w_ti, w_tn, w_L, w_L0, wb_not, cn_f, startD, arr, gN_eq, gTp, gCn, gNl, Option.bind_some, List.filterMap_cons, List.filterMap_nil, List.map_cons, List.map_nil, List.replicate_succ, List.replicate_zero, List.cons_append, List.nil_append, List.getElem?_cons_zero, List.getElem?_cons_succ, List.set_cons_zero, List.set_cons_succ, List.length_cons, List.length_nil, Nat.reduceAdd, Nat.reduceSub, Nat.reduceLeDiff, Nat.reduceEqDiff, Int.reducePow, Int.reduceToNat, Int.reduceNeg, Int.reduceAdd, Int.reduceMul, Int.reduceSub, Int.reduceLT, Int.reduceLE, Int.reduceEq, Nat.zero_add, Int.zero_add, big_eq, true_and, and_true, and_self, dSub_int, dAdd_int, dAddI_int, dLt_int, dLe_int, dGt_int, dGe_int, dEqD_int, bInt_int, bLen_lst, bLen_tup, bMin_int, bMax_int, bAbs_int, dIs_non, dIs_int, dIs_nn, Bool.not_true, Bool.not_false, decide_true, decide_false, reduceIte, Bool.false_eq_true, if_false, if_true, iSeq_lst, iSeq_tup, iSeq_rdl, iEnu_lst, iEnu_tup]
      rw [dMod_int (by omega)]
      simp (implicitDefEqProofs := false) only [↓w_lcT, ↓w_mth, ↓w_calm, ↓w_tryM, ↓w_tm0, ↓w_tmN, ↓w_tmS, ↓w_seq, ↓w_next, ↓w_break, ↓w_cont, ↓w_retN, ↓w_asg, ↓w_expr, ↓w_ret, ↓w_if, ↓w_asgG, ↓w_for, ↓w_put, ↓w_aug, ↓w_augS, ↓w_raise0, ↓w_raise1, ↓w_raise2, ↓w_try, ↓w_tryAs, ↓w_var, ↓w_c, ↓w_op, ↓w_chain, ↓w_notV, ↓w_andV, ↓w_orV, ↓w_ifE, ↓w_tst, ↓w_not, ↓w_and, ↓w_or, ↓w_yes, ↓w_nil, ↓w_cons, ↓w_tup, ↓w_lst, ↓w_lstT, ↓w_cb, ↓w_call, ↓w_callK, ↓w_neg, ↓w_no, ↓w_pt, ↓w_sl, ↓w_fld, ↓w_src, ↓w_rng, ↓w_enu, ↓w_listT, ↓w_app, ↓w_lc, ↓w_xf, ↓w_fldT, ↓w_make, ↓w_makeL, ↓w_run, ↓w_cut, ↓w_pure, ↓w_drop, w_ok, w_ex, w_nx, w_rt, w_bk, w_ct, w_exS, w_some, w_v, w_tr, w_fa, w_tb, w_ti, w_tn, w_L, w_L0, wb_not, cn_f, startD, arr, gN_eq, gTp, gCn, gNl, Option.bind_some, List.filterMap_cons, List.filterMap_nil, List.map_cons, List.map_nil, List.replicate_succ, List.replicate_zero, List.cons_append, List.nil_append, List.getElem?_cons_zero, List.getElem?_cons_succ, List.set_cons_zero, List.set_cons_succ, List.length_cons, List.length_nil, Nat.reduceAdd, Nat.reduceSub, Nat.reduceLeDiff, Nat.reduceEqDiff, Int.reducePow, Int.reduceToNat, Int.reduceNeg, Int.reduceAdd, Int.reduceMul, Int.reduceSub, Int.reduceLT, Int.reduceLE, Int.reduceEq, Nat.zero_add, Int.zero_add, big_eq, true_and, and_true, and_self, dSub_int, dAdd_int, dAddI_int, dLt_int, dLe_int, dGt_int, dGe_int, dEqD_int, bInt_int, bLen_lst, bLen_tup, bMin_int, bMax_int, bAbs_int, dIs_non, dIs_int, dIs_nn, Bool.not_true, Bool.not_false, decide_true, decide_false, reduceIte, Bool.false_eq_true, if_false, if_true, iSeq_lst, iSeq_tup, iSeq_rdl, iEnu_lst, iEnu_tup]
      exact h _ _ _ v' (Int.ediv_nonneg o0 (by decide)) l0 l1 (by omega) (by omega) ok'
    · have m40 : ∀ s, dMul s (.int 40) (.int M.g) = some (.int (40 * M.g)) := fun s => dMul_small (by omega) (by omega) (by omega) (by omega)
      have m39 : ∀ s, dMul s (.int 39) (.int M.g) = some (.int (39 * M.g)) := fun s => dMul_small (by omega) (by omega) (by omega) (by omega)
      have m2 : ∀ s, dMul s (.int 2) (.int M.o) = some (.int (2 * M.o)) := fun s => dMul_small (by omega) (by omega) (by omega) (by omega)
      by_cases h2 : k = 2 ∧ M.l + 40 * M.g < 1000000000
      · simp (implicitDefEqProofs := false) only [h2.1, m40, pow9, h2.2, m39, ↓w_lcT, ↓w_mth, ↓w_calm, ↓w_tryM, ↓w_tm0, ↓w_tmN, ↓w_tmS, ↓w_seq, ↓w_next, ↓w_break, ↓w_cont, ↓w_retN, ↓w_asg, ↓w_expr, ↓w_ret, ↓w_if, ↓w_asgG, ↓w_for, ↓w_put, ↓w_aug, ↓w_augS, ↓w_raise0, ↓w_raise1, ↓w_raise2, ↓w_try, ↓w_tryAs, ↓w_var, ↓w_c, ↓w_op, ↓w_chain, ↓w_notV, ↓w_andV, ↓w_orV, ↓w_ifE, ↓w_tst, ↓w_not, ↓w_and, ↓w_or, ↓w_yes, ↓w_nil, ↓w_cons, ↓w_tup, ↓w_lst, ↓w_lstT, ↓w_cb, ↓w_call, ↓w_callK, ↓w_neg, ↓w_no, ↓w_pt, ↓w_sl, ↓w_fld, ↓w_src, ↓w_rng, ↓w_enu, ↓w_listT, ↓w_app, ↓w_lc, ↓w_xf, ↓w_fldT, ↓w_make, ↓w_makeL, ↓w_run, ↓w_cut, ↓w_pure, ↓w_drop, w_ok, w_ex, w_nx, w_rt, w_bk, w_ct, w_exS, w_some, w_v, w_tr, w_fa, w_tb, w_ti, w_tn, w_L, w_L0, wb_not, cn_f, startD, arr, gN_eq, gTp, gCn, gNl, Option.bind_some, List.filterMap_cons, List.filterMap_nil, List.map_cons, List.map_nil, List.replicate_succ, List.replicate_zero, List.cons_append, List.nil_append, List.getElem?_cons_zero, List.getElem?_cons_succ, List.set_cons_zero, List.set_cons_succ, List.length_cons, List.length_nil, Nat.reduceAdd, Nat.reduceSub, Nat.reduceLeDiff, Nat.reduceEqDiff, Int.reducePow, Int.reduceToNat, Int.reduceNeg, Int.reduceAdd, Int.reduceMul, Int.reduceSub, Int.reduceLT, Int.reduceLE, Int.reduceEq, Nat.zero_add, Int.zero_add, big_eq, true_and, and_true, and_self, dSub_int, dAdd_int, dAddI_int, dLt_int, dLe_int, dGt_int, dGe_int, dEqD_int, bInt_int, bLen_lst, bLen_tup, bMin_int, bMax_int, bAbs_int, dIs_non, dIs_int, dIs_nn, Bool.not_true, Bool.not_false, decide_true, decide_false, reduceIte, Bool.false_eq_true, if_false, if_true, iSeq_lst, iSeq_tup, iSeq_rdl, iEnu_lst, iEnu_tup]
        exact h _ _ _ v' o0 (by omega) (by omega) g0 g1 ok'
      · have hp : 0 < 2 * M.o + M.l := by have : 2 * M.o + M.l = M.letter := rfl; have := hM.letter0; omega
        by_cases hk : k = 2
        · have hn : ¬ M.l + 40 * M.g < 1000000000 := fun z => h2 ⟨hk, z⟩
          simp (implicitDefEqProofs := false) only [hk, m40, pow9, hn, m2, hp, ↓w_lcT, ↓w_mth, ↓w_calm, ↓w_tryM, ↓w_tm0, ↓w_tmN, ↓w_tmS, ↓w_seq, ↓w_next, ↓w_break, ↓w_cont, ↓w_retN, ↓w_asg, ↓w_expr, ↓w_ret, ↓w_if, ↓w_asgG, ↓w_for, ↓w_put, ↓w_aug, ↓w_augS, ↓w_raise0, ↓w_raise1, ↓w_raise2, ↓w_try, ↓w_tryAs, ↓w_var, ↓w_c, ↓w_op, ↓w_chain, ↓w_notV, ↓w_andV, ↓w_orV, ↓w_ifE, ↓w_tst, ↓w_not, ↓w_and, ↓w_or, ↓w_yes, ↓w_nil, ↓w_cons, ↓w_tup, ↓w_lst, ↓w_lstT, ↓w_cb, ↓w_call, ↓w_callK, ↓w_neg, ↓w_no, ↓w_pt, ↓w_sl, ↓w_fld, ↓w_src, ↓w_rng, ↓w_enu, ↓w_listT, ↓w_app, ↓w_lc, ↓w_xf, ↓w_fldT, ↓w_make, ↓w_makeL, ↓w_run, ↓w_cut, ↓w_pure, ↓w_drop, w_ok, w_ex, w_nx, w_rt, w_bk, w_ct, w_exS, w_some, w_v, w_tr, w_fa, w_tb, w_ti, w_tn, w_L, w_L0, wb_not, cn_f, startD, arr, gN_eq, gTp, gCn, gNl, Option.bind_some, List.filterMap_cons, List.filterMap_nil, List.map_cons, List.map_nil, List.replicate_succ, List.replicate_zero, List.cons_append, List.nil_append, List.getElem?_cons_zero, List.getElem?_cons_succ, List.set_cons_zero, List.set_cons_succ, List.length_cons, List.length_nil, Nat.reduceAdd, Nat.reduceSub, Nat.reduceLeDiff, Nat.reduceEqDiff, Int.reducePow, Int.reduceToNat, Int.reduceNeg, Int.reduceAdd, Int.reduceMul, Int.reduceSub, Int.reduceLT, Int.reduceLE, Int.reduceEq, Nat.zero_add, Int.zero_add, big_eq, true_and, and_true, and_self, dSub_int, dAdd_int, dAddI_int, dLt_int, dLe_int, dGt_int, dGe_int, dEqD_int, bInt_int, bLen_lst, bLen_tup, bMin_int, bMax_int, bAbs_int, dIs_non, dIs_int, dIs_nn, Bool.not_true, Bool.not_false, decide_true, decide_false, reduceIte, Bool.false_eq_true, if_false, if_true, iSeq_lst, iSeq_tup, iSeq_rdl, iEnu_lst, iEnu_tup]
          exact h _ _ _ v' o0 l0 l1 g0 g1 ok'
        · simp (implicitDefEqProofs := false) only [hk, m2, hp, ↓w_lcT, ↓w_mth, ↓w_calm, ↓w_tryM, ↓w_tm0, ↓w_tmN, ↓w_tmS, ↓w_seq, ↓w_next, ↓w_break, ↓w_cont, ↓w_retN, ↓w_asg, ↓w_expr, ↓w_ret, ↓w_if, ↓w_asgG, ↓w_for, ↓w_put, ↓w_aug, ↓w_augS, ↓w_raise0, ↓w_raise1, ↓w_raise2, ↓w_try, ↓w_tryAs, ↓w_var, ↓w_c, ↓w_op, ↓w_chain, ↓w_notV, ↓w_andV, ↓w_orV, ↓w_ifE, ↓w_tst, ↓w_not, ↓w_and, ↓w_or, ↓w_yes, ↓w_nil, ↓w_cons, ↓w_tup, ↓w_lst, ↓w_lstT, ↓w_cb, ↓w_call, ↓w_callK, ↓w_neg, ↓w_no, ↓w_pt, ↓w_sl, ↓w_fld, ↓w_src, ↓w_rng, ↓w_enu, ↓w_listT, ↓w_app, ↓w_lc, ↓w_xf, ↓w_fldT, ↓w_make, ↓w_makeL, ↓w_run, ↓w_cut, ↓w_pure, ↓w_drop, w_ok, w_ex, w_nx, w_rt, w_bk, w_ct, w_exS, w_some, w_v, w_tr, w_fa, w_tb, w_ti, w_tn, w_L, w_L0, wb_not, cn_f, startD, arr, gN_eq, gTp, gCn, gNl, Option.bind_some, List.filterMap_cons, List.filterMap_nil, List.map_cons, List.map_nil, List.replicate_succ, List.replicate_zero, List.cons_append, List.nil_append, List.getElem?_cons_zero, List.getElem?_cons_succ, List.set_cons_zero, List.set_cons_succ, List.length_cons, List.length_nil, Nat.reduceAdd, Nat.reduceSub, Nat.reduceLeDiff, Nat.reduceEqDiff, Int.reducePow, Int.reduceToNat, Int.reduceNeg, Int.reduceAdd, Int.reduceMul, Int.reduceSub, Int.reduceLT, Int.reduceLE, Int.reduceEq, Nat.zero_add, Int.zero_add, big_eq, true_and, and_true, and_self, dSub_int, dAdd_int, dAddI_int, dLt_int, dLe_int, dGt_int, dGe_int, dEqD_int, bInt_int, bLen_lst, bLen_tup, bMin_int, bMax_int, bAbs_int, dIs_non, dIs_int, dIs_nn, Bool.not_true, Bool.not_false, decide_true, decide_false, reduceIte, Bool.false_eq_true, if_false, if_true, iSeq_lst, iSeq_tup, iSeq_rdl, iEnu_lst, iEnu_tup]
          exact h _ _ _ v' o0 l0 l1 g0 g1 ok'
theorem lclear_ok {o l g : Int} (o0 : 0 ≤ o) (o1 : o ≤ 1000000000) {n : Nat} (hn : n ≤ 42) {p : Int} (p0 : 0 ≤ p) (p1 : p ≤ 10 ^ 20) (s : S) : G__law_clear c [.int n, .int p, .tup [.int o, .int l, .int g]] s = .ok (.bl (clrB l (2 * o + l) (n - 2) p)) s := by
  have m2 : dMul s (.int 2) (.int o) = some (.int (2 * o)) := dMul_small (by omega) (by omega) (by omega) (by omega)
  apply eq_ok
  unfold G__law_clear
  simp (implicitDefEqProofs := false) only [↓w_lcT, ↓w_mth, ↓w_calm, ↓w_tryM, ↓w_tm0, ↓w_tmN, ↓w_tmS, ↓w_seq, ↓w_next, ↓w_break, ↓w_cont, ↓w_retN, ↓w_asg, ↓w_expr, ↓w_ret, ↓w_if, ↓w_asgG, ↓w_for, ↓w_put, ↓w_aug, ↓w_augS, ↓w_raise0, ↓w_raise1, ↓w_raise2, ↓w_try, ↓w_tryAs, ↓w_var, ↓w_c, ↓w_op, ↓w_chain, ↓w_notV, ↓w_andV, ↓w_orV, ↓w_ifE, ↓w_tst, ↓w_not, ↓w_and, ↓w_or, ↓w_yes, ↓w_nil, ↓w_cons, ↓w_tup, ↓w_lst, ↓w_lstT, ↓w_cb, ↓w_call, ↓w_callK, ↓w_neg, ↓w_no, ↓w_pt, ↓w_sl, ↓w_fld, ↓w_src, ↓w_rng, ↓w_enu, ↓w_listT, ↓w_app, ↓w_lc, ↓w_xf, ↓w_fldT, ↓w_make, ↓w_makeL, ↓w_run, ↓w_cut, ↓w_pure, ↓w_drop, w_ok, w_ex, w_nx, w_rt, w_bk, w_ct, w_exS, w_some, w_v, w_tr, w_fa, w_tb, w_ti, w_tn, w_L, w_L0, wb_not, cn_f, startD, arr, gN_eq, gTp, gCn, gNl, Option.bind_some, List.filterMap_cons, List.filterMap_nil, List.map_cons, List.map_nil, List.replicate_succ, List.replicate_zero, List.cons_append, List.nil_append, List.getElem?_cons_zero, List.getElem?_cons_succ, List.set_cons_zero, List.set_cons_succ, List.length_cons, List.length_nil, Nat.reduceAdd, Nat.reduceSub, Nat.reduceLeDiff, Nat.reduceEqDiff, Int.reducePow, Int.reduceToNat, Int.reduceNeg, Int.reduceAdd, Int.reduceMul, Int.reduceSub, Int.reduceLT, Int.reduceLE, Int.reduceEq, Nat.zero_add, Int.zero_add, big_eq, true_and, and_true, and_self, dSub_int, dAdd_int, dAddI_int, dLt_int, dLe_int, dGt_int, dGe_int, dEqD_int, bInt_int, bLen_lst, bLen_tup, bMin_int, bMax_int, bAbs_int, dIs_non, dIs_int, dIs_nn, Bool.not_true, Bool.not_false, decide_true, decide_false, reduceIte, Bool.false_eq_true, if_false, if_true, iSeq_lst, iSeq_tup, iSeq_rdl, iEnu_lst, iEnu_tup]
  rw [rng2 (by decide) (by decide) (by omega) (by omega), w_some, show ((n : Int) - 1 - 1).toNat = n - 2 by omega]
  refine ws_rng (fun i L s' => ∃ y, L = [some (.int n), some (.int p), some (.tup [.int o, .int l, .int g]), some (.int o), some (.int l), some (.int g), y] ∧ s = s' ∧ clrB l (2 * o + l) i p = true) ⟨none, rfl, rfl, rfl⟩ ?_ ?_
  · rintro i L s' hi ⟨y3, rfl, rfl, hc⟩
    have eq1 : (1 : Int) + i = ((i + 1 : Nat) : Int) := by omega
    have stp : clrB l (2 * o + l) (i + 1) p = !(decide (l < ((i + 1 : Nat) : Int) * p) && decide (((i + 1 : Nat) : Int) * p < (2 * o + l))) := by
      have : clrB l (2 * o + l) (i + 1) p = (clrB l (2 * o + l) i p && !(decide (l < ((i + 1 : Nat) : Int) * p) && decide (((i + 1 : Nat) : Int) * p < (2 * o + l)))) := by
        unfold clrB
        rw [List.range_succ, List.all_append]
        simp
      rw [this, hc, Bool.true_and]
    rw [eq1]
    simp (implicitDefEqProofs := false) only [qp_ok s (show i + 1 ≤ 100 by omega) p0 p1, m2, ↓w_lcT, ↓w_mth, ↓w_calm, ↓w_tryM, ↓w_tm0, ↓w_tmN, ↓w_tmS, ↓w_seq, ↓w_next, ↓w_break, ↓w_cont, ↓w_retN, ↓w_asg, ↓w_expr, ↓w_ret, ↓w_if, ↓w_asgG, ↓w_for, ↓w_put, ↓w_aug, ↓w_augS, ↓w_raise0, ↓w_raise1, ↓w_raise2, ↓w_try, ↓w_tryAs, ↓w_var, ↓w_c, ↓w_op, ↓w_chain, ↓w_notV, ↓w_andV, ↓w_orV, ↓w_ifE, ↓w_tst, ↓w_not, ↓w_and, ↓w_or, ↓w_yes, ↓w_nil, ↓w_cons, ↓w_tup, ↓w_lst, ↓w_lstT, ↓w_cb, ↓w_call, ↓w_callK, ↓w_neg, ↓w_no, ↓w_pt, ↓w_sl, ↓w_fld, ↓w_src, ↓w_rng, ↓w_enu, ↓w_listT, ↓w_app, ↓w_lc, ↓w_xf, ↓w_fldT, ↓w_make, ↓w_makeL, ↓w_run, ↓w_cut, ↓w_pure, ↓w_drop, w_ok, w_ex, w_nx, w_rt, w_bk, w_ct, w_exS, w_some, w_v, w_tr, w_fa, w_tb, w_ti, w_tn, w_L, w_L0, wb_not, cn_f, startD, arr, gN_eq, gTp, gCn, gNl, Option.bind_some, List.filterMap_cons, List.filterMap_nil, List.map_cons, List.map_nil, List.replicate_succ, List.replicate_zero, List.cons_append, List.nil_append, List.getElem?_cons_zero, List.getElem?_cons_succ, List.set_cons_zero, List.set_cons_succ, List.length_cons, List.length_nil, Nat.reduceAdd, Nat.reduceSub, Nat.reduceLeDiff, Nat.reduceEqDiff, Int.reducePow, Int.reduceToNat, Int.reduceNeg, Int.reduceAdd, Int.reduceMul, Int.reduceSub, Int.reduceLT, Int.reduceLE, Int.reduceEq, Nat.zero_add, Int.zero_add, big_eq, true_and, and_true, and_self, dSub_int, dAdd_int, dAddI_int, dLt_int, dLe_int, dGt_int, dGe_int, dEqD_int, bInt_int, bLen_lst, bLen_tup, bMin_int, bMax_int, bAbs_int, dIs_non, dIs_int, dIs_nn, Bool.not_true, Bool.not_false, decide_true, decide_false, reduceIte, Bool.false_eq_true, if_false, if_true, iSeq_lst, iSeq_tup, iSeq_rdl, iEnu_lst, iEnu_tup]
    refine wb_dec (fun h1 => ?_) (fun h1 => ?_)
    · simp (implicitDefEqProofs := false) only [qp_ok s (show i + 1 ≤ 100 by omega) p0 p1, m2, ↓w_lcT, ↓w_mth, ↓w_calm, ↓w_tryM, ↓w_tm0, ↓w_tmN, ↓w_tmS, ↓w_seq, ↓w_next, ↓w_break, ↓w_cont, ↓w_retN, ↓w_asg, ↓w_expr, ↓w_ret, ↓w_if, ↓w_asgG, ↓w_for, ↓w_put, ↓w_aug, ↓w_augS, ↓w_raise0, ↓w_raise1, ↓w_raise2, ↓w_try, ↓w_tryAs, ↓w_var, ↓w_c, ↓w_op, ↓w_chain, ↓w_notV, ↓w_andV, ↓w_orV, ↓w_ifE, ↓w_tst, ↓w_not, ↓w_and, ↓w_or, ↓w_yes, ↓w_nil, ↓w_cons, ↓w_tup, ↓w_lst, ↓w_lstT, ↓w_cb, ↓w_call, ↓w_callK, ↓w_neg, ↓w_no, ↓w_pt, ↓w_sl, ↓w_fld, ↓w_src, ↓w_rng, ↓w_enu, ↓w_listT, ↓w_app, ↓w_lc, ↓w_xf, ↓w_fldT, ↓w_make, ↓w_makeL, ↓w_run, ↓w_cut, ↓w_pure, ↓w_drop, w_ok, w_ex, w_nx, w_rt, w_bk, w_ct, w_exS, w_some, w_v, w_tr, w_fa, w_tb, w_ti, w_tn, w_L, w_L0, wb_not, cn_f, startD, arr, gN_eq, gTp, gCn, gNl, Option.bind_some, List.filterMap_cons, List.filterMap_nil, List.map_cons, List.map_nil, List.replicate_succ, List.replicate_zero, List.cons_append, List.nil_append, List.getElem?_cons_zero, List.getElem?_cons_succ, List.set_cons_zero, List.set_cons_succ, List.length_cons, List.length_nil, Nat.reduceAdd, Nat.reduceSub, Nat.reduceLeDiff, Nat.reduceEqDiff, Int.reducePow, Int.reduceToNat, Int.reduceNeg, Int.reduceAdd, Int.reduceMul, Int.reduceSub, Int.reduceLT, Int.reduceLE, Int.reduceEq, Nat.zero_add, Int.zero_add, big_eq, true_and, and_true, and_self, dSub_int, dAdd_int, dAddI_int, dLt_int, dLe_int, dGt_int, dGe_int, dEqD_int, bInt_int, bLen_lst, bLen_tup, bMin_int, bMax_int, bAbs_int, dIs_non, dIs_int, dIs_nn, Bool.not_true, Bool.not_false, decide_true, decide_false, reduceIte, Bool.false_eq_true, if_false, if_true, iSeq_lst, iSeq_tup, iSeq_rdl, iEnu_lst, iEnu_tup]
      refine wb_dec (fun h2 => ?_) (fun h2 => ?_)
      · simp (implicitDefEqProofs := false) only [↓w_lcT, ↓w_mth, ↓w_calm, ↓w_tryM, ↓w_tm0, ↓w_tmN, ↓w_tmS, ↓w_seq, ↓w_next, ↓w_break, ↓w_cont, ↓w_retN, ↓w_asg, ↓w_expr, ↓w_ret, ↓w_if, ↓w_asgG, ↓w_for, ↓w_put, ↓w_aug, ↓w_augS, ↓w_raise0, ↓w_raise1, ↓w_raise2, ↓w_try, ↓w_tryAs, ↓w_var, ↓w_c, ↓w_op, ↓w_chain, ↓w_notV, ↓w_andV, ↓w_orV, ↓w_ifE, ↓w_tst, ↓w_not, ↓w_and, ↓w_or, ↓w_yes, ↓w_nil, ↓w_cons, ↓w_tup, ↓w_lst, ↓w_lstT, ↓w_cb, ↓w_call, ↓w_callK, ↓w_neg, ↓w_no, ↓w_pt, ↓w_sl, ↓w_fld, ↓w_src, ↓w_rng, ↓w_enu, ↓w_listT, ↓w_app, ↓w_lc, ↓w_xf, ↓w_fldT, ↓w_make, ↓w_makeL, ↓w_run, ↓w_cut, ↓w_pure, ↓w_drop, w_ok, w_ex, w_nx, w_rt, w_bk, w_ct, w_exS, w_some, w_v, w_tr, w_fa, w_tb, w_ti, w_tn, w_L, w_L0, wb_not, cn_f, startD, arr, gN_eq, gTp, gCn, gNl, Option.bind_some, List.filterMap_cons, List.filterMap_nil, List.map_cons, List.map_nil, List.replicate_succ, List.replicate_zero, List.cons_append, List.nil_append, List.getElem?_cons_zero, List.getElem?_cons_succ, List.set_cons_zero, List.set_cons_succ, List.length_cons, List.length_nil, Nat.reduceAdd, Nat.reduceSub, Nat.reduceLeDiff, Nat.reduceEqDiff, Int.reducePow, Int.reduceToNat, Int.reduceNeg, Int.reduceAdd, Int.reduceMul, Int.reduceSub, Int.reduceLT, Int.reduceLE, Int.reduceEq, Nat.zero_add, Int.zero_add, big_eq, true_and, and_true, and_self, dSub_int, dAdd_int, dAddI_int, dLt_int, dLe_int, dGt_int, dGe_int, dEqD_int, bInt_int, bLen_lst, bLen_tup, bMin_int, bMax_int, bAbs_int, dIs_non, dIs_int, dIs_nn, Bool.not_true, Bool.not_false, decide_true, decide_false, reduceIte, Bool.false_eq_true, if_false, if_true, iSeq_lst, iSeq_tup, iSeq_rdl, iEnu_lst, iEnu_tup]
        cases hb : clrB l (2 * o + l) (n - 2) p with
        | false => rfl
        | true => exact absurd ⟨h1, h2⟩ (clrB_iff.mp hb (i + 1) (by omega) (by omega))
      · simp (implicitDefEqProofs := false) only [↓w_lcT, ↓w_mth, ↓w_calm, ↓w_tryM, ↓w_tm0, ↓w_tmN, ↓w_tmS, ↓w_seq, ↓w_next, ↓w_break, ↓w_cont, ↓w_retN, ↓w_asg, ↓w_expr, ↓w_ret, ↓w_if, ↓w_asgG, ↓w_for, ↓w_put, ↓w_aug, ↓w_augS, ↓w_raise0, ↓w_raise1, ↓w_raise2, ↓w_try, ↓w_tryAs, ↓w_var, ↓w_c, ↓w_op, ↓w_chain, ↓w_notV, ↓w_andV, ↓w_orV, ↓w_ifE, ↓w_tst, ↓w_not, ↓w_and, ↓w_or, ↓w_yes, ↓w_nil, ↓w_cons, ↓w_tup, ↓w_lst, ↓w_lstT, ↓w_cb, ↓w_call, ↓w_callK, ↓w_neg, ↓w_no, ↓w_pt, ↓w_sl, ↓w_fld, ↓w_src, ↓w_rng, ↓w_enu, ↓w_listT, ↓w_app, ↓w_lc, ↓w_xf, ↓w_fldT, ↓w_make, ↓w_makeL, ↓w_run, ↓w_cut, ↓w_pure, ↓w_drop, w_ok, w_ex, w_nx, w_rt, w_bk, w_ct, w_exS, w_some, w_v, w_tr, w_fa, w_tb, w_ti, w_tn, w_L, w_L0, wb_not, cn_f, startD, arr, gN_eq, gTp, gCn, gNl, Option.bind_some, List.filterMap_cons, List.filterMap_nil, List.map_cons, List.map_nil, List.replicate_succ, List.replicate_zero, List.cons_append, List.nil_append, List.getElem?_cons_zero, List.getElem?_cons_succ, List.set_cons_zero, List.set_cons_succ, List.length_cons, List.length_nil, Nat.reduceAdd, Nat.reduceSub, Nat.reduceLeDiff, Nat.reduceEqDiff, Int.reducePow, Int.reduceToNat, Int.reduceNeg, Int.reduceAdd, Int.reduceMul, Int.reduceSub, Int.reduceLT, Int.reduceLE, Int.reduceEq, Nat.zero_add, Int.zero_add, big_eq, true_and, and_true, and_self, dSub_int, dAdd_int, dAddI_int, dLt_int, dLe_int, dGt_int, dGe_int, dEqD_int, bInt_int, bLen_lst, bLen_tup, bMin_int, bMax_int, bAbs_int, dIs_non, dIs_int, dIs_nn, Bool.not_true, Bool.not_false, decide_true, decide_false, reduceIte, Bool.false_eq_true, if_false, if_true, iSeq_lst, iSeq_tup, iSeq_rdl, iEnu_lst, iEnu_tup]
        exact ⟨_, rfl, by rw [stp]; simp only [h1, h2, decide_true, decide_false, Bool.and_false, Bool.not_false]⟩
    · simp (implicitDefEqProofs := false) only [↓w_lcT, ↓w_mth, ↓w_calm, ↓w_tryM, ↓w_tm0, ↓w_tmN, ↓w_tmS, ↓w_seq, ↓w_next, ↓w_break, ↓w_cont, ↓w_retN, ↓w_asg, ↓w_expr, ↓w_ret, ↓w_if, ↓w_asgG, ↓w_for, ↓w_put, ↓w_aug, ↓w_augS, ↓w_raise0, ↓w_raise1, ↓w_raise2, ↓w_try, ↓w_tryAs, ↓w_var, ↓w_c, ↓w_op, ↓w_chain, ↓w_notV, ↓w_andV, ↓w_orV, ↓w_ifE, ↓w_tst, ↓w_not, ↓w_and, ↓w_or, ↓w_yes, ↓w_nil, ↓w_cons, ↓w_tup, ↓w_lst, ↓w_lstT, ↓w_cb, ↓w_call, ↓w_callK, ↓w_neg, ↓w_no, ↓w_pt, ↓w_sl, ↓w_fld, ↓w_src, ↓w_rng, ↓w_enu, ↓w_listT, ↓w_app, ↓w_lc, ↓w_xf, ↓w_fldT, ↓w_make, ↓w_makeL, ↓w_run, ↓w_cut, ↓w_pure, ↓w_drop, w_ok, w_ex, w_nx, w_rt, w_bk, w_ct, w_exS, w_some, w_v, w_tr, w_fa, w_tb, w_ti, w_tn, w_L, w_L0, wb_not, cn_f, startD, arr, gN_eq, gTp, gCn, gNl, Option.bind_some, List.filterMap_cons, List.filterMap_nil, List.map_cons, List.map_nil, List.replicate_succ, List.replicate_zero, List.cons_append, List.nil_append, List.getElem?_cons_zero, List.getElem?_cons_succ, List.set_cons_zero, List.set_cons_succ, List.length_cons, List.length_nil, Nat.reduceAdd, Nat.reduceSub, Nat.reduceLeDiff, Nat.reduceEqDiff, Int.reducePow, Int.reduceToNat, Int.reduceNeg, Int.reduceAdd, Int.reduceMul, Int.reduceSub, Int.reduceLT, Int.reduceLE, Int.reduceEq, Nat.zero_add, Int.zero_add, big_eq, true_and, and_true, and_self, dSub_int, dAdd_int, dAddI_int, dLt_int, dLe_int, dGt_int, dGe_int, dEqD_int, bInt_int, bLen_lst, bLen_tup, bMin_int, bMax_int, bAbs_int, dIs_non, dIs_int, dIs_nn, Bool.not_true, Bool.not_false, decide_true, decide_false, reduceIte, Bool.false_eq_true, if_false, if_true, iSeq_lst, iSeq_tup, iSeq_rdl, iEnu_lst, iEnu_tup]
      exact ⟨_, rfl, by rw [stp]; simp only [h1, decide_false, Bool.false_and, Bool.not_false]⟩
  · rintro L s' ⟨y3, rfl, rfl, hc⟩
    simp (implicitDefEqProofs := false) only [hc, ↓w_lcT, ↓w_mth, ↓w_calm, ↓w_tryM, ↓w_tm0, ↓w_tmN, ↓w_tmS, ↓w_seq, ↓w_next, ↓w_break, ↓w_cont, ↓w_retN, ↓w_asg, ↓w_expr, ↓w_ret, ↓w_if, ↓w_asgG, ↓w_for, ↓w_put, ↓w_aug, ↓w_augS, ↓w_raise0, ↓w_raise1, ↓w_raise2, ↓w_try, ↓w_tryAs, ↓w_var, ↓w_c, ↓w_op, ↓w_chain, ↓w_notV, ↓w_andV, ↓w_orV, ↓w_ifE, ↓w_tst, ↓w_not, ↓w_and, ↓w_or, ↓w_yes, ↓w_nil, ↓w_cons, ↓w_tup, ↓w_lst, ↓w_lstT, ↓w_cb, ↓w_call, ↓w_callK, ↓w_neg, ↓w_no, ↓w_pt, ↓w_sl, ↓w_fld, ↓w_src, ↓w_rng, ↓w_enu, ↓w_listT, ↓w_app, ↓w_lc, ↓w_xf, ↓w_fldT, ↓w_make, ↓w_makeL, ↓w_run, ↓w_cut, ↓w_pure, ↓w_drop, w_ok, w_ex, w_nx, w_rt, w_bk, w_ct, w_exS, w_some, w_v, w_tr, w_fa, w_tb, w_ti, w_tn, w_L, w_L0, wb_not, cn_f, startD, arr, gN_eq, gTp, gCn, gNl, Option.bind_some, List.filterMap_cons, List.filterMap_nil, List.map_cons, List.map_nil, List.replicate_succ, List.replicate_zero, List.cons_append, List.nil_append, List.getElem?_cons_zero, List.getElem?_cons_succ, List.set_cons_zero, List.set_cons_succ, List.length_cons, List.length_nil, Nat.reduceAdd, Nat.reduceSub, Nat.reduceLeDiff, Nat.reduceEqDiff, Int.reducePow, Int.reduceToNat, Int.reduceNeg, Int.reduceAdd, Int.reduceMul, Int.reduceSub, Int.reduceLT, Int.reduceLE, Int.reduceEq, Nat.zero_add, Int.zero_add, big_eq, true_and, and_true, and_self, dSub_int, dAdd_int, dAddI_int, dLt_int, dLe_int, dGt_int, dGe_int, dEqD_int, bInt_int, bLen_lst, bLen_tup, bMin_int, bMax_int, bAbs_int, dIs_non, dIs_int, dIs_nn, Bool.not_true, Bool.not_false, decide_true, decide_false, reduceIte, Bool.false_eq_true, if_false, if_true, iSeq_lst, iSeq_tup, iSeq_rdl, iEnu_lst, iEnu_tup]
/-! how far the law steps -/
def rch (l d p : Int) : Nat → Int
  | 0 => p
  | k + 1 => if l < ((k + 1 : Nat) : Int) * p ∧ ((k + 1 : Nat) : Int) * p < d then max (rch l d p k) (cdv d (k + 1)) else rch l d p k
theorem rch_ge (l d p : Int) : ∀ k, p ≤ rch l d p k
  | 0 => Int.le_refl _
  | k + 1 => by
    have := rch_ge l d p k
    unfold rch
    split <;> omega
theorem rch_hit {l d p : Int} : ∀ {k}, rch l d p k ≠ p → ∃ q : Nat, 1 ≤ q ∧ q ≤ k ∧ l < q * p ∧ q * p < d ∧ rch l d p k = cdv d q
  | 0, h => absurd rfl h
  | k + 1, h => by
    by_cases hv : l < ((k + 1 : Nat) : Int) * p ∧ ((k + 1 : Nat) : Int) * p < d
    · have e : rch l d p (k + 1) = max (rch l d p k) (cdv d (k + 1)) := by rw [rch, if_pos hv]
      have a := (cdv_lt (d := d) (p := p) (q := k + 1) (by omega)).mpr hv.2
      by_cases hk : rch l d p k ≤ cdv d (k + 1)
      · exact ⟨k + 1, by omega, by omega, hv.1, hv.2, by rw [e]; omega⟩
      · obtain ⟨q, q0, q1, q2, q3, q4⟩ := rch_hit (k := k) (l := l) (d := d) (p := p) (by omega)
        exact ⟨q, q0, by omega, q2, q3, by rw [e]; omega⟩
    · have e : rch l d p (k + 1) = rch l d p k := by rw [rch, if_neg hv]
      rw [e] at h
      obtain ⟨q, q0, q1, q2, q3, q4⟩ := rch_hit h
      exact ⟨q, q0, by omega, q2, q3, by rw [e]; exact q4⟩
theorem rch_clr {l d p : Int} : ∀ {k}, rch l d p k = p → Clr l d k p
  | 0, _ => fun q q0 q1 => by omega
  | k + 1, h => by
    by_cases hv : l < ((k + 1 : Nat) : Int) * p ∧ ((k + 1 : Nat) : Int) * p < d
    · have e : rch l d p (k + 1) = max (rch l d p k) (cdv d (k + 1)) := by rw [rch, if_pos hv]
      have a := (cdv_lt (d := d) (p := p) (q := k + 1) (by omega)).mpr hv.2
      omega
    · have e : rch l d p (k + 1) = rch l d p k := by rw [rch, if_neg hv]
      rw [e] at h
      intro q q0 q1
      by_cases hq : q = k + 1
      · subst hq
        exact hv
      · exact rch_clr h q q0 (by omega)
def cq (d p : Int) : Nat → Nat
  | 0 => 0
  | k + 1 => cq d p k + if ((k + 1 : Nat) : Int) * p < d then 1 else 0
theorem cq_le (d p : Int) : ∀ k, cq d p k ≤ k
  | 0 => Nat.le_refl _
  | k + 1 => by
    have := cq_le d p k
    unfold cq
    split <;> omega
theorem cq_mono {d p p' : Int} (h : p ≤ p') : ∀ k, cq d p' k ≤ cq d p k
  | 0 => Nat.le_refl _
  | k + 1 => by
    have := cq_mono h k (d := d)
    have h2 : ((k + 1 : Nat) : Int) * p ≤ ((k + 1 : Nat) : Int) * p' := Int.mul_le_mul_of_nonneg_left h (by omega)
    unfold cq
    split <;> split <;> omega
theorem cq_lt {d p p' : Int} (h : p ≤ p') {q : Nat} (h1 : (q : Int) * p < d) (h2 : d ≤ q * p') (q0 : 1 ≤ q) : ∀ {k}, q ≤ k → cq d p' k < cq d p k
  | 0, hk => by omega
  | k + 1, hk => by
    by_cases e : q = k + 1
    · subst e
      have := cq_mono h k (d := d)
      rw [cq, cq, if_pos h1, if_neg (by omega)]
      omega
    · have := cq_lt h h1 h2 q0 (k := k) (by omega)
      have h2 : ((k + 1 : Nat) : Int) * p ≤ ((k + 1 : Nat) : Int) * p' := Int.mul_le_mul_of_nonneg_left h (by omega)
      rw [cq, cq]
      split <;> split <;> omega
theorem lreach_ok {o l g : Int} (o0 : 0 ≤ o) (o1 : o ≤ 1000000000) (l0 : 0 ≤ l) (l1 : l ≤ 1000000000) {n : Nat} (hn : n ≤ 42) {p : Int} (p0 : 0 ≤ p) (p1 : p ≤ 10 ^ 20) (s : S) : G__law_reach c [.int n, .int p, .tup [.int o, .int l, .int g]] s = .ok (.int (rch l (2 * o + l) p (n - 2))) s := by
  have m2 : dMul s (.int 2) (.int o) = some (.int (2 * o)) := dMul_small (by omega) (by omega) (by omega) (by omega)
  apply eq_ok
  unfold G__law_reach
  simp (implicitDefEqProofs := false) only [↓w_lcT, ↓w_mth, ↓w_calm, ↓w_tryM, ↓w_tm0, ↓w_tmN, ↓w_tmS, ↓w_seq, ↓w_next, ↓w_break, ↓w_cont, ↓w_retN, ↓w_asg, ↓w_expr, ↓w_ret, ↓w_if, ↓w_asgG, ↓w_for, ↓w_put, ↓w_aug, ↓w_augS, ↓w_raise0, ↓w_raise1, ↓w_raise2, ↓w_try, ↓w_tryAs, ↓w_var, ↓w_c, ↓w_op, ↓w_chain, ↓w_notV, ↓w_andV, ↓w_orV, ↓w_ifE, ↓w_tst, ↓w_not, ↓w_and, ↓w_or, ↓w_yes, ↓w_nil, ↓w_cons, ↓w_tup, ↓w_lst, ↓w_lstT, ↓w_cb, ↓w_call, ↓w_callK, ↓w_neg, ↓w_no, ↓w_pt, ↓w_sl, ↓w_fld, ↓w_src, ↓w_rng, ↓w_enu, ↓w_listT, ↓w_app, ↓w_lc, ↓w_xf, ↓w_fldT, ↓w_make, ↓w_makeL, ↓w_run, ↓w_cut, ↓w_pure, ↓w_drop, w_ok, w_ex, w_nx, w_rt, w_bk, w_ct, w_exS, w_some, w_v, w_tr, w_fa, w_tb, w_ti, w_tn, w_L, w_L0, wb_not, cn_f, startD, arr, gN_eq, gTp, gCn, gNl, Option.bind_some, List.filterMap_cons, List.filterMap_nil, List.map_cons, List.map_nil, List.replicate_succ, List.replicate_zero, List.cons_append, List.nil_append, List.getElem?_cons_zero, List.getElem?_cons_succ, List.set_cons_zero, List.set_cons_succ, List.length_cons, List.length_nil, Nat.reduceAdd, Nat.reduceSub, Nat.reduceLeDiff, Nat.reduceEqDiff, Int.reducePow, Int.reduceToNat, Int.reduceNeg, Int.reduceAdd, Int.reduceMul, Int.reduceSub, Int.reduceLT, Int.reduceLE, Int.reduceEq, Nat.zero_add, Int.zero_add, big_eq, true_and, and_true, and_self, dSub_int, dAdd_int, dAddI_int, dLt_int, dLe_int, dGt_int, dGe_int, dEqD_int, bInt_int, bLen_lst, bLen_tup, bMin_int, bMax_int, bAbs_int, dIs_non, dIs_int, dIs_nn, Bool.not_true, Bool.not_false, decide_true, decide_false, reduceIte, Bool.false_eq_true, if_false, if_true, iSeq_lst, iSeq_tup, iSeq_rdl, iEnu_lst, iEnu_tup]
  rw [rng2 (by decide) (by decide) (by omega) (by omega), w_some, show ((n : Int) - 1 - 1).toNat = n - 2 by omega]
  refine ws_rng (fun i L s' => ∃ y, L = [some (.int n), some (.int p), some (.tup [.int o, .int l, .int g]), some (.int o), some (.int l), some (.int g), some (.int (rch l (2 * o + l) p i)), y] ∧ s = s') ⟨none, rfl, rfl⟩ ?_ ?_
  · rintro i L s' hi ⟨y3, rfl, rfl⟩
    have eq1 : (1 : Int) + i = ((i + 1 : Nat) : Int) := by omega
    rw [eq1]
    have dv : dDiv s (.int (2 * o + l - 1)) (.int ((i + 1 : Nat) : Int)) = some (.int (cdv (2 * o + l) (i + 1) - 1)) := by
      rw [dDiv_small (by omega) (by omega)]
      unfold cdv
      have := Int.add_mul_ediv_right (2 * o + l - 1) 1 (show ((i + 1 : Nat) : Int) ≠ 0 by omega)
      rw [Int.one_mul] at this
      rw [show 2 * o + l + ((i + 1 : Nat) : Int) - 1 = 2 * o + l - 1 + ((i + 1 : Nat) : Int) by omega, this]
      simp
    simp (implicitDefEqProofs := false) only [qp_ok s (show i + 1 ≤ 100 by omega) p0 p1, m2, ↓w_lcT, ↓w_mth, ↓w_calm, ↓w_tryM, ↓w_tm0, ↓w_tmN, ↓w_tmS, ↓w_seq, ↓w_next, ↓w_break, ↓w_cont, ↓w_retN, ↓w_asg, ↓w_expr, ↓w_ret, ↓w_if, ↓w_asgG, ↓w_for, ↓w_put, ↓w_aug, ↓w_augS, ↓w_raise0, ↓w_raise1, ↓w_raise2, ↓w_try, ↓w_tryAs, ↓w_var, ↓w_c, ↓w_op, ↓w_chain, ↓w_notV, ↓w_andV, ↓w_orV, ↓w_ifE, ↓w_tst, ↓w_not, ↓w_and, ↓w_or, ↓w_yes, ↓w_nil, ↓w_cons, ↓w_tup, ↓w_lst, ↓w_lstT, ↓w_cb, ↓w_call, ↓w_callK, ↓w_neg, ↓w_no, ↓w_pt, ↓w_sl, ↓w_fld, ↓w_src, ↓w_rng, ↓w_enu, ↓w_listT, ↓w_app, ↓w_lc, ↓w_xf, ↓w_fldT, ↓w_make, ↓w_makeL, ↓w_run, ↓w_cut, ↓w_pure, ↓w_drop, w_ok, w_ex, w_nx, w_rt, w_bk, w_ct, w_exS, w_some, w_v, w_tr, w_fa, w_tb, w_ti, w_tn, w_L, w_L0, wb_not, cn_f, startD, arr, gN_eq, gTp, gCn, gNl, Option.bind_some, List.filterMap_cons, List.filterMap_nil, List.map_cons, List.map_nil, List.replicate_succ, List.replicate_zero, List.cons_append, List.nil_append, List.getElem?_cons_zero, List.getElem?_cons_succ, List.set_cons_zero, List.set_cons_succ, List.length_cons, List.length_nil, Nat.reduceAdd, Nat.reduceSub, Nat.reduceLeDiff, Nat.reduceEqDiff, Int.reducePow, Int.reduceToNat, Int.reduceNeg, Int.reduceAdd, Int.reduceMul, Int.reduceSub, Int.reduceLT, Int.reduceLE, Int.reduceEq, Nat.zero_add, Int.zero_add, big_eq, true_and, and_true, and_self, dSub_int, dAdd_int, dAddI_int, dLt_int, dLe_int, dGt_int, dGe_int, dEqD_int, bInt_int, bLen_lst, bLen_tup, bMin_int, bMax_int, bAbs_int, dIs_non, dIs_int, dIs_nn, Bool.not_true, Bool.not_false, decide_true, decide_false, reduceIte, Bool.false_eq_true, if_false, if_true, iSeq_lst, iSeq_tup, iSeq_rdl, iEnu_lst, iEnu_tup]
    refine wb_dec (fun h1 => ?_) (fun h1 => ?_)
    · simp (implicitDefEqProofs := false) only [qp_ok s (show i + 1 ≤ 100 by omega) p0 p1, m2, ↓w_lcT, ↓w_mth, ↓w_calm, ↓w_tryM, ↓w_tm0, ↓w_tmN, ↓w_tmS, ↓w_seq, ↓w_next, ↓w_break, ↓w_cont, ↓w_retN, ↓w_asg, ↓w_expr, ↓w_ret, ↓w_if, ↓w_asgG, ↓w_for, ↓w_put, ↓w_aug, ↓w_augS, ↓w_raise0, ↓w_raise1, ↓w_raise2, ↓w_try, ↓w_tryAs, ↓w_var, ↓w_c, ↓w_op, ↓w_chain, ↓w_notV, ↓w_andV, ↓w_orV, ↓w_ifE, ↓w_tst, ↓w_not, ↓w_and, ↓w_or, ↓w_yes, ↓w_nil, ↓w_cons, ↓w_tup, ↓w_lst, ↓w_lstT, ↓w_cb, ↓w_call, ↓w_callK, ↓w_neg, ↓w_no, ↓w_pt, ↓w_sl, ↓w_fld, ↓w_src, ↓w_rng, ↓w_enu, ↓w_listT, ↓w_app, ↓w_lc, ↓w_xf, ↓w_fldT, ↓w_make, ↓w_makeL, ↓w_run, ↓w_cut, ↓w_pure, ↓w_drop, w_ok, w_ex, w_nx, w_rt, w_bk, w_ct, w_exS, w_some, w_v, w_tr, w_fa, w_tb, w_ti, w_tn, w_L, w_L0, wb_not, cn_f, startD, arr, gN_eq, gTp, gCn, gNl, Option.bind_some, List.filterMap_cons, List.filterMap_nil, List.map_cons, List.map_nil, List.replicate_succ, List.replicate_zero, List.cons_append, List.nil_append, List.getElem?_cons_zero, List.getElem?_cons_succ, List.set_cons_zero, List.set_cons_succ, List.length_cons, List.length_nil, Nat.reduceAdd, Nat.reduceSub, Nat.reduceLeDiff, Nat.reduceEqDiff, Int.reducePow, Int.reduceToNat, Int.reduceNeg, Int.reduceAdd, Int.reduceMul, Int.reduceSub, Int.reduceLT, Int.reduceLE, Int.reduceEq, Nat.zero_add, Int.zero_add, big_eq, true_and, and_true, and_self, dSub_int, dAdd_int, dAddI_int, dLt_int, dLe_int, dGt_int, dGe_int, dEqD_int, bInt_int, bLen_lst, bLen_tup, bMin_int, bMax_int, bAbs_int, dIs_non, dIs_int, dIs_nn, Bool.not_true, Bool.not_false, decide_true, decide_false, reduceIte, Bool.false_eq_true, if_false, if_true, iSeq_lst, iSeq_tup, iSeq_rdl, iEnu_lst, iEnu_tup]
      refine wb_dec (fun h2 => ?_) (fun h2 => ?_)
      · simp (implicitDefEqProofs := false) only [m2, dv, show cdv (2 * o + l) (i + 1) - 1 + 1 = cdv (2 * o + l) (i + 1) by omega, ↓w_lcT, ↓w_mth, ↓w_calm, ↓w_tryM, ↓w_tm0, ↓w_tmN, ↓w_tmS, ↓w_seq, ↓w_next, ↓w_break, ↓w_cont, ↓w_retN, ↓w_asg, ↓w_expr, ↓w_ret, ↓w_if, ↓w_asgG, ↓w_for, ↓w_put, ↓w_aug, ↓w_augS, ↓w_raise0, ↓w_raise1, ↓w_raise2, ↓w_try, ↓w_tryAs, ↓w_var, ↓w_c, ↓w_op, ↓w_chain, ↓w_notV, ↓w_andV, ↓w_orV, ↓w_ifE, ↓w_tst, ↓w_not, ↓w_and, ↓w_or, ↓w_yes, ↓w_nil, ↓w_cons, ↓w_tup, ↓w_lst, ↓w_lstT, ↓w_cb, ↓w_call, ↓w_callK, ↓w_neg, ↓w_no, ↓w_pt, ↓w_sl, ↓w_fld, ↓w_src, ↓w_rng, ↓w_enu, ↓w_listT, ↓w_app, ↓w_lc, ↓w_xf, ↓w_fldT, ↓w_make, ↓w_makeL, ↓w_run, ↓w_cut, ↓w_pure, ↓w_drop, w_ok, w_ex, w_nx, w_rt, w_bk, w_ct, w_exS, w_some, w_v, w_tr, w_fa, w_tb, w_ti, w_tn, w_L, w_L0, wb_not, cn_f, startD, arr, gN_eq, gTp, gCn, gNl, Option.bind_some, List.filterMap_cons, List.filterMap_nil, List.map_cons, List.map_nil, List.replicate_succ, List.replicate_zero, List.cons_append, List.nil_append, List.getElem?_cons_zero, List.getElem?_cons_succ, List.set_cons_zero, List.set_cons_succ, List.length_cons, List.length_nil, Nat.reduceAdd, Nat.reduceSub, Nat.reduceLeDiff, Nat.reduceEqDiff, Int.reducePow, Int.reduceToNat, Int.reduceNeg, Int.reduceAdd, Int.reduceMul, Int.reduceSub, Int.reduceLT, Int.reduceLE, Int.reduceEq, Nat.zero_add, Int.zero_add, big_eq, true_and, and_true, and_self, dSub_int, dAdd_int, dAddI_int, dLt_int, dLe_int, dGt_int, dGe_int, dEqD_int, bInt_int, bLen_lst, bLen_tup, bMin_int, bMax_int, bAbs_int, dIs_non, dIs_int, dIs_nn, Bool.not_true, Bool.not_false, decide_true, decide_false, reduceIte, Bool.false_eq_true, if_false, if_true, iSeq_lst, iSeq_tup, iSeq_rdl, iEnu_lst, iEnu_tup]
        exact ⟨_, by rw [rch, if_pos ⟨h1, h2⟩]⟩
      · simp (implicitDefEqProofs := false) only [↓w_lcT, ↓w_mth, ↓w_calm, ↓w_tryM, ↓w_tm0, ↓w_tmN, ↓w_tmS, ↓w_seq, ↓w_next, ↓w_break, ↓w_cont, ↓w_retN, ↓w_asg, ↓w_expr, ↓w_ret, ↓w_if, ↓w_asgG, ↓w_for, ↓w_put, ↓w_aug, ↓w_augS, ↓w_raise0, ↓w_raise1, ↓w_raise2, ↓w_try, ↓w_tryAs, ↓w_var, ↓w_c, ↓w_op, ↓w_chain, ↓w_notV, ↓w_andV, ↓w_orV, ↓w_ifE, ↓w_tst, ↓w_not, ↓w_and, ↓w_or, ↓w_yes, ↓w_nil, ↓w_cons, ↓w_tup, ↓w_lst, ↓w_lstT, ↓w_cb, ↓w_call, ↓w_callK, ↓w_neg, ↓w_no, ↓w_pt, ↓w_sl, ↓w_fld, ↓w_src, ↓w_rng, ↓w_enu, ↓w_listT, ↓w_app, ↓w_lc, ↓w_xf, ↓w_fldT, ↓w_make, ↓w_makeL, ↓w_run, ↓w_cut, ↓w_pure, ↓w_drop, w_ok, w_ex, w_nx, w_rt, w_bk, w_ct, w_exS, w_some, w_v, w_tr, w_fa, w_tb, w_ti, w_tn, w_L, w_L0, wb_not, cn_f, startD, arr, gN_eq, gTp, gCn, gNl, Option.bind_some, List.filterMap_cons, List.filterMap_nil, List.map_cons, List.map_nil, List.replicate_succ, List.replicate_zero, List.cons_append, List.nil_append, List.getElem?_cons_zero, List.getElem?_cons_succ, List.set_cons_zero, List.set_cons_succ, List.length_cons, List.length_nil, Nat.reduceAdd, Nat.reduceSub, Nat.reduceLeDiff, Nat.reduceEqDiff, Int.reducePow, Int.reduceToNat, Int.reduceNeg, Int.reduceAdd, Int.reduceMul, Int.reduceSub, Int.reduceLT, Int.reduceLE, Int.reduceEq, Nat.zero_add, Int.zero_add, big_eq, true_and, and_true, and_self, dSub_int, dAdd_int, dAddI_int, dLt_int, dLe_int, dGt_int, dGe_int, dEqD_int, bInt_int, bLen_lst, bLen_tup, bMin_int, bMax_int, bAbs_int, dIs_non, dIs_int, dIs_nn, Bool.not_true, Bool.not_false, decide_true, decide_false, reduceIte, Bool.false_eq_true, if_false, if_true, iSeq_lst, iSeq_tup, iSeq_rdl, iEnu_lst, iEnu_tup]
        exact ⟨_, by rw [rch, if_neg fun z => h2 z.2]⟩
    · simp (implicitDefEqProofs := false) only [↓w_lcT, ↓w_mth, ↓w_calm, ↓w_tryM, ↓w_tm0, ↓w_tmN, ↓w_tmS, ↓w_seq, ↓w_next, ↓w_break, ↓w_cont, ↓w_retN, ↓w_asg, ↓w_expr, ↓w_ret, ↓w_if, ↓w_asgG, ↓w_for, ↓w_put, ↓w_aug, ↓w_augS, ↓w_raise0, ↓w_raise1, ↓w_raise2, ↓w_try, ↓w_tryAs, ↓w_var, ↓w_c, ↓w_op, ↓w_chain, ↓w_notV, ↓w_andV, ↓w_orV, ↓w_ifE, ↓w_tst, ↓w_not, ↓w_and, ↓w_or, ↓w_yes, ↓w_nil, ↓w_cons, ↓w_tup, ↓w_lst, ↓w_lstT, ↓w_cb, ↓w_call, ↓w_callK, ↓w_neg, ↓w_no, ↓w_pt, ↓w_sl, ↓w_fld, ↓w_src, ↓w_rng, ↓w_enu, ↓w_listT, ↓w_app, ↓w_lc, ↓w_xf, ↓w_fldT, ↓w_make, ↓w_makeL, ↓w_run, ↓w_cut, ↓w_pure, ↓w_drop, w_ok, w_ex, w_nx, w_rt, w_bk, w_ct, w_exS, w_some, w_v, w_tr, w_fa, w_tb, w_ti, w_tn, w_L, w_L0, wb_not, cn_f, startD, arr, gN_eq, gTp, gCn, gNl, Option.bind_some, List.filterMap_cons, List.filterMap_nil, List.map_cons, List.map_nil, List.replicate_succ, List.replicate_zero, List.cons_append, List.nil_append, List.getElem?_cons_zero, List.getElem?_cons_succ, List.set_cons_zero, List.set_cons_succ, List.length_cons, List.length_nil, Nat.reduceAdd, Nat.reduceSub, Nat.reduceLeDiff, Nat.reduceEqDiff, Int.reducePow, Int.reduceToNat, Int.reduceNeg, Int.reduceAdd, Int.reduceMul, Int.reduceSub, Int.reduceLT, Int.reduceLE, Int.reduceEq, Nat.zero_add, Int.zero_add, big_eq, true_and, and_true, and_self, dSub_int, dAdd_int, dAddI_int, dLt_int, dLe_int, dGt_int, dGe_int, dEqD_int, bInt_int, bLen_lst, bLen_tup, bMin_int, bMax_int, bAbs_int, dIs_non, dIs_int, dIs_nn, Bool.not_true, Bool.not_false, decide_true, decide_false, reduceIte, Bool.false_eq_true, if_false, if_true, iSeq_lst, iSeq_tup, iSeq_rdl, iEnu_lst, iEnu_tup]
      exact ⟨_, by rw [rch, if_neg fun z => h1 z.1]⟩
  · rintro L s' ⟨y3, rfl, rfl⟩
    simp (implicitDefEqProofs := false) only [↓w_lcT, ↓w_mth, ↓w_calm, ↓w_tryM, ↓w_tm0, ↓w_tmN, ↓w_tmS, ↓w_seq, ↓w_next, ↓w_break, ↓w_cont, ↓w_retN, ↓w_asg, ↓w_expr, ↓w_ret, ↓w_if, ↓w_asgG, ↓w_for, ↓w_put, ↓w_aug, ↓w_augS, ↓w_raise0, ↓w_raise1, ↓w_raise2, ↓w_try, ↓w_tryAs, ↓w_var, ↓w_c, ↓w_op, ↓w_chain, ↓w_notV, ↓w_andV, ↓w_orV, ↓w_ifE, ↓w_tst, ↓w_not, ↓w_and, ↓w_or, ↓w_yes, ↓w_nil, ↓w_cons, ↓w_tup, ↓w_lst, ↓w_lstT, ↓w_cb, ↓w_call, ↓w_callK, ↓w_neg, ↓w_no, ↓w_pt, ↓w_sl, ↓w_fld, ↓w_src, ↓w_rng, ↓w_enu, ↓w_listT, ↓w_app, ↓w_lc, ↓w_xf, ↓w_fldT, ↓w_make, ↓w_makeL, ↓w_run, ↓w_cut, ↓w_pure, ↓w_drop, w_ok, w_ex, w_nx, w_rt, w_bk, w_ct, w_exS, w_some, w_v, w_tr, w_fa, w_tb, w_ti, w_tn, w_L, w_L0, wb_not, cn_f, startD, arr, gN_eq, gTp, gCn, gNl, Option.bind_some, List.filterMap_cons, List.filterMap_nil, List.map_cons, List.map_nil, List.replicate_succ, List.replicate_zero, List.cons_append, List.nil_append, List.getElem?_cons_zero, List.getElem?_cons_succ, List.set_cons_zero, List.set_cons_succ, List.length_cons, List.length_nil, Nat.reduceAdd, Nat.reduceSub, Nat.reduceLeDiff, Nat.reduceEqDiff, Int.reducePow, Int.reduceToNat, Int.reduceNeg, Int.reduceAdd, Int.reduceMul, Int.reduceSub, Int.reduceLT, Int.reduceLE, Int.reduceEq, Nat.zero_add, Int.zero_add, big_eq, true_and, and_true, and_self, dSub_int, dAdd_int, dAddI_int, dLt_int, dLe_int, dGt_int, dGe_int, dEqD_int, bInt_int, bLen_lst, bLen_tup, bMin_int, bMax_int, bAbs_int, dIs_non, dIs_int, dIs_nn, Bool.not_true, Bool.not_false, decide_true, decide_false, reduceIte, Bool.false_eq_true, if_false, if_true, iSeq_lst, iSeq_tup, iSeq_rdl, iEnu_lst, iEnu_tup]
theorem law_true (c : Cl) (hc : OkC c) (ns : List Int) (hl : ns.length ≤ 63) (hb : ∀ z ∈ ns, Builtin.Int.intBits z ≤ 1048576) : ∃ s', G_law c [.rdl (ns.map D.int)] [] = .ok (.bl true) s' := by
  suffices h : @WR _ (G_law c [.rdl (ns.map D.int)] []) ⟨fun d s' => d = .bl true⟩ ⟨nE⟩ by
    revert h
    generalize G_law c [.rdl (ns.map D.int)] [] = z
    intro h
    obtain ⟨a, s', h1, rfl⟩ := ex_ok h
    exact ⟨s', h1⟩
  unfold G_law
  simp (implicitDefEqProofs := false) only [eSrc, ↓w_lcT, ↓w_mth, ↓w_calm, ↓w_tryM, ↓w_tm0, ↓w_tmN, ↓w_tmS, ↓w_seq, ↓w_next, ↓w_break, ↓w_cont, ↓w_retN, ↓w_asg, ↓w_expr, ↓w_ret, ↓w_if, ↓w_asgG, ↓w_for, ↓w_put, ↓w_aug, ↓w_augS, ↓w_raise0, ↓w_raise1, ↓w_raise2, ↓w_try, ↓w_tryAs, ↓w_var, ↓w_c, ↓w_op, ↓w_chain, ↓w_notV, ↓w_andV, ↓w_orV, ↓w_ifE, ↓w_tst, ↓w_not, ↓w_and, ↓w_or, ↓w_yes, ↓w_nil, ↓w_cons, ↓w_tup, ↓w_lst, ↓w_lstT, ↓w_cb, ↓w_call, ↓w_callK, ↓w_neg, ↓w_no, ↓w_pt, ↓w_sl, ↓w_fld, ↓w_src, ↓w_rng, ↓w_enu, ↓w_listT, ↓w_app, ↓w_lc, ↓w_xf, ↓w_fldT, ↓w_make, ↓w_makeL, ↓w_run, ↓w_cut, ↓w_pure, ↓w_drop, w_ok, w_ex, w_nx, w_rt, w_bk, w_ct, w_exS, w_some, w_v, w_tr, w_fa, w_tb, w_ti, w_tn, w_L, w_L0, wb_not, cn_f, startD, arr, gN_eq, gTp, gCn, gNl, Option.bind_some, List.filterMap_cons, List.filterMap_nil, List.map_cons, List.map_nil, List.replicate_succ, List.replicate_zero, List.cons_append, List.nil_append, List.getElem?_cons_zero, List.getElem?_cons_succ, List.set_cons_zero, List.set_cons_succ, List.length_cons, List.length_nil, Nat.reduceAdd, Nat.reduceSub, Nat.reduceLeDiff, Nat.reduceEqDiff, Int.reducePow, Int.reduceToNat, Int.reduceNeg, Int.reduceAdd, Int.reduceMul, Int.reduceSub, Int.reduceLT, Int.reduceLE, Int.reduceEq, Nat.zero_add, Int.zero_add, big_eq, true_and, and_true, and_self, dSub_int, dAdd_int, dAddI_int, dLt_int, dLe_int, dGt_int, dGe_int, dEqD_int, bInt_int, bLen_lst, bLen_tup, bMin_int, bMax_int, bAbs_int, dIs_non, dIs_int, dIs_nn, Bool.not_true, Bool.not_false, decide_true, decide_false, reduceIte, Bool.false_eq_true, if_false, if_true, iSeq_lst, iSeq_tup, iSeq_rdl, iEnu_lst, iEnu_tup]
  refine src_wp hl hb fun v ok => ?_
  simp (implicitDefEqProofs := false) only [eNum, ↓w_lcT, ↓w_mth, ↓w_calm, ↓w_tryM, ↓w_tm0, ↓w_tmN, ↓w_tmS, ↓w_seq, ↓w_next, ↓w_break, ↓w_cont, ↓w_retN, ↓w_asg, ↓w_expr, ↓w_ret, ↓w_if, ↓w_asgG, ↓w_for, ↓w_put, ↓w_aug, ↓w_augS, ↓w_raise0, ↓w_raise1, ↓w_raise2, ↓w_try, ↓w_tryAs, ↓w_var, ↓w_c, ↓w_op, ↓w_chain, ↓w_notV, ↓w_andV, ↓w_orV, ↓w_ifE, ↓w_tst, ↓w_not, ↓w_and, ↓w_or, ↓w_yes, ↓w_nil, ↓w_cons, ↓w_tup, ↓w_lst, ↓w_lstT, ↓w_cb, ↓w_call, ↓w_callK, ↓w_neg, ↓w_no, ↓w_pt, ↓w_sl, ↓w_fld, ↓w_src, ↓w_rng, ↓w_enu, ↓w_listT, ↓w_app, ↓w_lc, ↓w_xf, ↓w_fldT, ↓w_make, ↓w_makeL, ↓w_run, ↓w_cut, ↓w_pure, ↓w_drop, w_ok, w_ex, w_nx, w_rt, w_bk, w_ct, w_exS, w_some, w_v, w_tr, w_fa, w_tb, w_ti, w_tn, w_L, w_L0, wb_not, cn_f, startD, arr, gN_eq, gTp, gCn, gNl, Option.bind_some, List.filterMap_cons, List.filterMap_nil, List.map_cons, List.map_nil, List.replicate_succ, List.replicate_zero, List.cons_append, List.nil_append, List.getElem?_cons_zero, List.getElem?_cons_succ, List.set_cons_zero, List.set_cons_succ, List.length_cons, List.length_nil, Nat.reduceAdd, Nat.reduceSub, Nat.reduceLeDiff, Nat.reduceEqDiff, Int.reducePow, Int.reduceToNat, Int.reduceNeg, Int.reduceAdd, Int.reduceMul, Int.reduceSub, Int.reduceLT, Int.reduceLE, Int.reduceEq, Nat.zero_add, Int.zero_add, big_eq, true_and, and_true, and_self, dSub_int, dAdd_int, dAddI_int, dLt_int, dLe_int, dGt_int, dGe_int, dEqD_int, bInt_int, bLen_lst, bLen_tup, bMin_int, bMax_int, bAbs_int, dIs_non, dIs_int, dIs_nn, Bool.not_true, Bool.not_false, decide_true, decide_false, reduceIte, Bool.false_eq_true, if_false, if_true, iSeq_lst, iSeq_tup, iSeq_rdl, iEnu_lst, iEnu_tup]
  refine numB_wp ok (by omega) fun M0 v1 hM0 ok1 => ?_
  simp (implicitDefEqProofs := false) only [↓w_lcT, ↓w_mth, ↓w_calm, ↓w_tryM, ↓w_tm0, ↓w_tmN, ↓w_tmS, ↓w_seq, ↓w_next, ↓w_break, ↓w_cont, ↓w_retN, ↓w_asg, ↓w_expr, ↓w_ret, ↓w_if, ↓w_asgG, ↓w_for, ↓w_put, ↓w_aug, ↓w_augS, ↓w_raise0, ↓w_raise1, ↓w_raise2, ↓w_try, ↓w_tryAs, ↓w_var, ↓w_c, ↓w_op, ↓w_chain, ↓w_notV, ↓w_andV, ↓w_orV, ↓w_ifE, ↓w_tst, ↓w_not, ↓w_and, ↓w_or, ↓w_yes, ↓w_nil, ↓w_cons, ↓w_tup, ↓w_lst, ↓w_lstT, ↓w_cb, ↓w_call, ↓w_callK, ↓w_neg, ↓w_no, ↓w_pt, ↓w_sl, ↓w_fld, ↓w_src, ↓w_rng, ↓w_enu, ↓w_listT, ↓w_app, ↓w_lc, ↓w_xf, ↓w_fldT, ↓w_make, ↓w_makeL, ↓w_run, ↓w_cut, ↓w_pure, ↓w_drop, w_ok, w_ex, w_nx, w_rt, w_bk, w_ct, w_exS, w_some, w_v, w_tr, w_fa, w_tb, w_ti, w_tn, w_L, w_L0, wb_not, cn_f, startD, arr, gN_eq, gTp, gCn, gNl, Option.bind_some, List.filterMap_cons, List.filterMap_nil, List.map_cons, List.map_nil, List.replicate_succ, List.replicate_zero, List.cons_append, List.nil_append, List.getElem?_cons_zero, List.getElem?_cons_succ, List.set_cons_zero, List.set_cons_succ, List.length_cons, List.length_nil, Nat.reduceAdd, Nat.reduceSub, Nat.reduceLeDiff, Nat.reduceEqDiff, Int.reducePow, Int.reduceToNat, Int.reduceNeg, Int.reduceAdd, Int.reduceMul, Int.reduceSub, Int.reduceLT, Int.reduceLE, Int.reduceEq, Nat.zero_add, Int.zero_add, big_eq, true_and, and_true, and_self, dSub_int, dAdd_int, dAddI_int, dLt_int, dLe_int, dGt_int, dGe_int, dEqD_int, bInt_int, bLen_lst, bLen_tup, bMin_int, bMax_int, bAbs_int, dIs_non, dIs_int, dIs_nn, Bool.not_true, Bool.not_false, decide_true, decide_false, reduceIte, Bool.false_eq_true, if_false, if_true, iSeq_lst, iSeq_tup, iSeq_rdl, iEnu_lst, iEnu_tup]
  refine steep_wp hM0 ok1 (by omega) fun o' l' g v2 o0' l0' l1' g0 g1 ok2 => ?_
  obtain ⟨o, eo⟩ : ∃ o, o = min o' 1000000000 := ⟨_, rfl⟩
  have o0 : 0 ≤ o := by omega
  have o1 : o ≤ 1000000000 := by omega
  simp (implicitDefEqProofs := false) only [pow9, ← eo, ↓w_lcT, ↓w_mth, ↓w_calm, ↓w_tryM, ↓w_tm0, ↓w_tmN, ↓w_tmS, ↓w_next, ↓w_break, ↓w_cont, ↓w_retN, ↓w_asg, ↓w_expr, ↓w_ret, ↓w_if, ↓w_asgG, ↓w_for, ↓w_put, ↓w_aug, ↓w_augS, ↓w_raise0, ↓w_raise1, ↓w_raise2, ↓w_try, ↓w_tryAs, ↓w_var, ↓w_c, ↓w_op, ↓w_chain, ↓w_notV, ↓w_andV, ↓w_orV, ↓w_ifE, ↓w_tst, ↓w_not, ↓w_and, ↓w_or, ↓w_yes, ↓w_nil, ↓w_cons, ↓w_tup, ↓w_lst, ↓w_lstT, ↓w_cb, ↓w_call, ↓w_callK, ↓w_neg, ↓w_no, ↓w_pt, ↓w_sl, ↓w_fld, ↓w_src, ↓w_rng, ↓w_enu, ↓w_listT, ↓w_app, ↓w_lc, ↓w_xf, ↓w_fldT, ↓w_make, ↓w_makeL, ↓w_run, ↓w_cut, ↓w_pure, ↓w_drop, ↓wq_asg, ↓wq_asgG, ↓wq_expr, ↓wq_put, ↓wq_aug, ↓wq_augS, ↓wq_for, w_ok, w_ex, w_nx, w_rt, w_bk, w_ct, w_exS, w_some, w_v, w_tr, w_fa, w_tb, w_ti, w_tn, w_L, w_L0, wb_not, cn_f, startD, arr, gN_eq, gTp, gCn, gNl, Option.bind_some, List.filterMap_cons, List.filterMap_nil, List.map_cons, List.map_nil, List.replicate_succ, List.replicate_zero, List.cons_append, List.nil_append, List.getElem?_cons_zero, List.getElem?_cons_succ, List.set_cons_zero, List.set_cons_succ, List.length_cons, List.length_nil, Nat.reduceAdd, Nat.reduceSub, Nat.reduceLeDiff, Nat.reduceEqDiff, Int.reducePow, Int.reduceToNat, Int.reduceNeg, Int.reduceAdd, Int.reduceMul, Int.reduceSub, Int.reduceLT, Int.reduceLE, Int.reduceEq, Nat.zero_add, Int.zero_add, big_eq, true_and, and_true, and_self, dSub_int, dAdd_int, dAddI_int, dLt_int, dLe_int, dGt_int, dGe_int, dEqD_int, bInt_int, bLen_lst, bLen_tup, bMin_int, bMax_int, bAbs_int, dIs_non, dIs_int, dIs_nn, Bool.not_true, Bool.not_false, decide_true, decide_false, reduceIte, Bool.false_eq_true, if_false, if_true, iSeq_lst, iSeq_tup, iSeq_rdl, iEnu_lst, iEnu_tup]
  refine ws_cut (fun L s => ∃ M : Mc, L = [some (.rdl (ns.map D.int)), some (.ref 0), some (.int M.o), some (.int M.l), some (.int M.g), none, none, none, none, none, none, none, none] ∧ s = [v2.o] ∧ M.Ok) ?_ ?_
  · simp (implicitDefEqProofs := false) only [↓w_lcT, ↓w_mth, ↓w_calm, ↓w_tryM, ↓w_tm0, ↓w_tmN, ↓w_tmS, ↓w_seq, ↓w_next, ↓w_break, ↓w_cont, ↓w_retN, ↓w_asg, ↓w_expr, ↓w_ret, ↓w_if, ↓w_asgG, ↓w_for, ↓w_put, ↓w_aug, ↓w_augS, ↓w_raise0, ↓w_raise1, ↓w_raise2, ↓w_try, ↓w_tryAs, ↓w_var, ↓w_c, ↓w_op, ↓w_chain, ↓w_notV, ↓w_andV, ↓w_orV, ↓w_ifE, ↓w_tst, ↓w_not, ↓w_and, ↓w_or, ↓w_yes, ↓w_nil, ↓w_cons, ↓w_tup, ↓w_lst, ↓w_lstT, ↓w_cb, ↓w_call, ↓w_callK, ↓w_neg, ↓w_no, ↓w_pt, ↓w_sl, ↓w_fld, ↓w_src, ↓w_rng, ↓w_enu, ↓w_listT, ↓w_app, ↓w_lc, ↓w_xf, ↓w_fldT, ↓w_make, ↓w_makeL, ↓w_run, ↓w_cut, ↓w_pure, ↓w_drop, w_ok, w_ex, w_nx, w_rt, w_bk, w_ct, w_exS, w_some, w_v, w_tr, w_fa, w_tb, w_ti, w_tn, w_L, w_L0, wb_not, cn_f, startD, arr, gN_eq, gTp, gCn, gNl, Option.bind_some, List.filterMap_cons, List.filterMap_nil, List.map_cons, List.map_nil, List.replicate_succ, List.replicate_zero, List.cons_append, List.nil_append, List.getElem?_cons_zero, List.getElem?_cons_succ, List.set_cons_zero, List.set_cons_succ, List.length_cons, List.length_nil, Nat.reduceAdd, Nat.reduceSub, Nat.reduceLeDiff, Nat.reduceEqDiff, Int.reducePow, Int.reduceToNat, Int.reduceNeg, Int.reduceAdd, Int.reduceMul, Int.reduceSub, Int.reduceLT, Int.reduceLE, Int.reduceEq, Nat.zero_add, Int.zero_add, big_eq, true_and, and_true, and_self, dSub_int, dAdd_int, dAddI_int, dLt_int, dLe_int, dGt_int, dGe_int, dEqD_int, bInt_int, bLen_lst, bLen_tup, bMin_int, bMax_int, bAbs_int, dIs_non, dIs_int, dIs_nn, Bool.not_true, Bool.not_false, decide_true, decide_false, reduceIte, Bool.false_eq_true, if_false, if_true, iSeq_lst, iSeq_tup, iSeq_rdl, iEnu_lst, iEnu_tup]
    rw [dMul_small (by omega) (by omega) (by omega) (by omega)]
    simp (implicitDefEqProofs := false) only [↓w_lcT, ↓w_mth, ↓w_calm, ↓w_tryM, ↓w_tm0, ↓w_tmN, ↓w_tmS, ↓w_seq, ↓w_next, ↓w_break, ↓w_cont, ↓w_retN, ↓w_asg, ↓w_expr, ↓w_ret, ↓w_if, ↓w_asgG, ↓w_for, ↓w_put, ↓w_aug, ↓w_augS, ↓w_raise0, ↓w_raise1, ↓w_raise2, ↓w_try, ↓w_tryAs, ↓w_var, ↓w_c, ↓w_op, ↓w_chain, ↓w_notV, ↓w_andV, ↓w_orV, ↓w_ifE, ↓w_tst, ↓w_not, ↓w_and, ↓w_or, ↓w_yes, ↓w_nil, ↓w_cons, ↓w_tup, ↓w_lst, ↓w_lstT, ↓w_cb, ↓w_call, ↓w_callK, ↓w_neg, ↓w_no, ↓w_pt, ↓w_sl, ↓w_fld, ↓w_src, ↓w_rng, ↓w_enu, ↓w_listT, ↓w_app, ↓w_lc, ↓w_xf, ↓w_fldT, ↓w_make, ↓w_makeL, ↓w_run, ↓w_cut, ↓w_pure, ↓w_drop, w_ok, w_ex, w_nx, w_rt, w_bk, w_ct, w_exS, w_some, w_v, w_tr, w_fa, w_tb, w_ti, w_tn, w_L, w_L0, wb_not, cn_f, startD, arr, gN_eq, gTp, gCn, gNl, Option.bind_some, List.filterMap_cons, List.filterMap_nil, List.map_cons, List.map_nil, List.replicate_succ, List.replicate_zero, List.cons_append, List.nil_append, List.getElem?_cons_zero, List.getElem?_cons_succ, List.set_cons_zero, List.set_cons_succ, List.length_cons, List.length_nil, Nat.reduceAdd, Nat.reduceSub, Nat.reduceLeDiff, Nat.reduceEqDiff, Int.reducePow, Int.reduceToNat, Int.reduceNeg, Int.reduceAdd, Int.reduceMul, Int.reduceSub, Int.reduceLT, Int.reduceLE, Int.reduceEq, Nat.zero_add, Int.zero_add, big_eq, true_and, and_true, and_self, dSub_int, dAdd_int, dAddI_int, dLt_int, dLe_int, dGt_int, dGe_int, dEqD_int, bInt_int, bLen_lst, bLen_tup, bMin_int, bMax_int, bAbs_int, dIs_non, dIs_int, dIs_nn, Bool.not_true, Bool.not_false, decide_true, decide_false, reduceIte, Bool.false_eq_true, if_false, if_true, iSeq_lst, iSeq_tup, iSeq_rdl, iEnu_lst, iEnu_tup]
    refine wb_dec (fun h => ?_) (fun h => ?_)
    · simp (implicitDefEqProofs := false) only [↓w_lcT, ↓w_mth, ↓w_calm, ↓w_tryM, ↓w_tm0, ↓w_tmN, ↓w_tmS, ↓w_seq, ↓w_next, ↓w_break, ↓w_cont, ↓w_retN, ↓w_asg, ↓w_expr, ↓w_ret, ↓w_if, ↓w_asgG, ↓w_for, ↓w_put, ↓w_aug, ↓w_augS, ↓w_raise0, ↓w_raise1, ↓w_raise2, ↓w_try, ↓w_tryAs, ↓w_var, ↓w_c, ↓w_op, ↓w_chain, ↓w_notV, ↓w_andV, ↓w_orV, ↓w_ifE, ↓w_tst, ↓w_not, ↓w_and, ↓w_or, ↓w_yes, ↓w_nil, ↓w_cons, ↓w_tup, ↓w_lst, ↓w_lstT, ↓w_cb, ↓w_call, ↓w_callK, ↓w_neg, ↓w_no, ↓w_pt, ↓w_sl, ↓w_fld, ↓w_src, ↓w_rng, ↓w_enu, ↓w_listT, ↓w_app, ↓w_lc, ↓w_xf, ↓w_fldT, ↓w_make, ↓w_makeL, ↓w_run, ↓w_cut, ↓w_pure, ↓w_drop, w_ok, w_ex, w_nx, w_rt, w_bk, w_ct, w_exS, w_some, w_v, w_tr, w_fa, w_tb, w_ti, w_tn, w_L, w_L0, wb_not, cn_f, startD, arr, gN_eq, gTp, gCn, gNl, Option.bind_some, List.filterMap_cons, List.filterMap_nil, List.map_cons, List.map_nil, List.replicate_succ, List.replicate_zero, List.cons_append, List.nil_append, List.getElem?_cons_zero, List.getElem?_cons_succ, List.set_cons_zero, List.set_cons_succ, List.length_cons, List.length_nil, Nat.reduceAdd, Nat.reduceSub, Nat.reduceLeDiff, Nat.reduceEqDiff, Int.reducePow, Int.reduceToNat, Int.reduceNeg, Int.reduceAdd, Int.reduceMul, Int.reduceSub, Int.reduceLT, Int.reduceLE, Int.reduceEq, Nat.zero_add, Int.zero_add, big_eq, true_and, and_true, and_self, dSub_int, dAdd_int, dAddI_int, dLt_int, dLe_int, dGt_int, dGe_int, dEqD_int, bInt_int, bLen_lst, bLen_tup, bMin_int, bMax_int, bAbs_int, dIs_non, dIs_int, dIs_nn, Bool.not_true, Bool.not_false, decide_true, decide_false, reduceIte, Bool.false_eq_true, if_false, if_true, iSeq_lst, iSeq_tup, iSeq_rdl, iEnu_lst, iEnu_tup]
      exact ⟨⟨o, 1, g⟩, rfl, ⟨o0, o1, by show (0 : Int) ≤ 1; decide, by show (1 : Int) ≤ _; decide, g0, g1, by show 0 < 2 * o + 1; omega⟩⟩
    · simp (implicitDefEqProofs := false) only [↓w_lcT, ↓w_mth, ↓w_calm, ↓w_tryM, ↓w_tm0, ↓w_tmN, ↓w_tmS, ↓w_seq, ↓w_next, ↓w_break, ↓w_cont, ↓w_retN, ↓w_asg, ↓w_expr, ↓w_ret, ↓w_if, ↓w_asgG, ↓w_for, ↓w_put, ↓w_aug, ↓w_augS, ↓w_raise0, ↓w_raise1, ↓w_raise2, ↓w_try, ↓w_tryAs, ↓w_var, ↓w_c, ↓w_op, ↓w_chain, ↓w_notV, ↓w_andV, ↓w_orV, ↓w_ifE, ↓w_tst, ↓w_not, ↓w_and, ↓w_or, ↓w_yes, ↓w_nil, ↓w_cons, ↓w_tup, ↓w_lst, ↓w_lstT, ↓w_cb, ↓w_call, ↓w_callK, ↓w_neg, ↓w_no, ↓w_pt, ↓w_sl, ↓w_fld, ↓w_src, ↓w_rng, ↓w_enu, ↓w_listT, ↓w_app, ↓w_lc, ↓w_xf, ↓w_fldT, ↓w_make, ↓w_makeL, ↓w_run, ↓w_cut, ↓w_pure, ↓w_drop, w_ok, w_ex, w_nx, w_rt, w_bk, w_ct, w_exS, w_some, w_v, w_tr, w_fa, w_tb, w_ti, w_tn, w_L, w_L0, wb_not, cn_f, startD, arr, gN_eq, gTp, gCn, gNl, Option.bind_some, List.filterMap_cons, List.filterMap_nil, List.map_cons, List.map_nil, List.replicate_succ, List.replicate_zero, List.cons_append, List.nil_append, List.getElem?_cons_zero, List.getElem?_cons_succ, List.set_cons_zero, List.set_cons_succ, List.length_cons, List.length_nil, Nat.reduceAdd, Nat.reduceSub, Nat.reduceLeDiff, Nat.reduceEqDiff, Int.reducePow, Int.reduceToNat, Int.reduceNeg, Int.reduceAdd, Int.reduceMul, Int.reduceSub, Int.reduceLT, Int.reduceLE, Int.reduceEq, Nat.zero_add, Int.zero_add, big_eq, true_and, and_true, and_self, dSub_int, dAdd_int, dAddI_int, dLt_int, dLe_int, dGt_int, dGe_int, dEqD_int, bInt_int, bLen_lst, bLen_tup, bMin_int, bMax_int, bAbs_int, dIs_non, dIs_int, dIs_nn, Bool.not_true, Bool.not_false, decide_true, decide_false, reduceIte, Bool.false_eq_true, if_false, if_true, iSeq_lst, iSeq_tup, iSeq_rdl, iEnu_lst, iEnu_tup]
      exact ⟨⟨o, l', g⟩, rfl, ⟨o0, o1, l0', l1', g0, g1, by show 0 < 2 * o + l'; omega⟩⟩
  rintro L s ⟨M, rfl, rfl, hM⟩
  have mo0 := hM.o0
  have mo1 := hM.o1
  have ml0 := hM.l0
  have ml1 := hM.l1
  have eL : 2 * M.o + M.l = M.letter := rfl
  have eG : max M.o M.g = M.gap := rfl
  have ll0 := hM.letter0
  have ll1 := hM.letter1
  have gg0 := hM.gap0
  have gg1 := hM.gap1
  simp (implicitDefEqProofs := false) only [mk_ok hM, eDraw, ↓w_lcT, ↓w_mth, ↓w_calm, ↓w_tryM, ↓w_tm0, ↓w_tmN, ↓w_tmS, ↓w_seq, ↓w_next, ↓w_break, ↓w_cont, ↓w_retN, ↓w_asg, ↓w_expr, ↓w_ret, ↓w_if, ↓w_asgG, ↓w_for, ↓w_put, ↓w_aug, ↓w_augS, ↓w_raise0, ↓w_raise1, ↓w_raise2, ↓w_try, ↓w_tryAs, ↓w_var, ↓w_c, ↓w_op, ↓w_chain, ↓w_notV, ↓w_andV, ↓w_orV, ↓w_ifE, ↓w_tst, ↓w_not, ↓w_and, ↓w_or, ↓w_yes, ↓w_nil, ↓w_cons, ↓w_tup, ↓w_lst, ↓w_lstT, ↓w_cb, ↓w_call, ↓w_callK, ↓w_neg, ↓w_no, ↓w_pt, ↓w_sl, ↓w_fld, ↓w_src, ↓w_rng, ↓w_enu, ↓w_listT, ↓w_app, ↓w_lc, ↓w_xf, ↓w_fldT, ↓w_make, ↓w_makeL, ↓w_run, ↓w_cut, ↓w_pure, ↓w_drop, w_ok, w_ex, w_nx, w_rt, w_bk, w_ct, w_exS, w_some, w_v, w_tr, w_fa, w_tb, w_ti, w_tn, w_L, w_L0, wb_not, cn_f, startD, arr, gN_eq, gTp, gCn, gNl, Option.bind_some, List.filterMap_cons, List.filterMap_nil, List.map_cons, List.map_nil, List.replicate_succ, List.replicate_zero, List.cons_append, List.nil_append, List.getElem?_cons_zero, List.getElem?_cons_succ, List.set_cons_zero, List.set_cons_succ, List.length_cons, List.length_nil, Nat.reduceAdd, Nat.reduceSub, Nat.reduceLeDiff, Nat.reduceEqDiff, Int.reducePow, Int.reduceToNat, Int.reduceNeg, Int.reduceAdd, Int.reduceMul, Int.reduceSub, Int.reduceLT, Int.reduceLE, Int.reduceEq, Nat.zero_add, Int.zero_add, big_eq, true_and, and_true, and_self, dSub_int, dAdd_int, dAddI_int, dLt_int, dLe_int, dGt_int, dGe_int, dEqD_int, bInt_int, bLen_lst, bLen_tup, bMin_int, bMax_int, bAbs_int, dIs_non, dIs_int, dIs_nn, Bool.not_true, Bool.not_false, decide_true, decide_false, reduceIte, Bool.false_eq_true, if_false, if_true, iSeq_lst, iSeq_tup, iSeq_rdl, iEnu_lst, iEnu_tup]
  refine drawB_wp ok2 (by omega) (by decide) (by decide +kernel) fun k v3 k0 k1 ok3 => ?_
  simp (implicitDefEqProofs := false) only [↓w_lcT, ↓w_mth, ↓w_calm, ↓w_tryM, ↓w_tm0, ↓w_tmN, ↓w_tmS, ↓w_seq, ↓w_next, ↓w_break, ↓w_cont, ↓w_retN, ↓w_asg, ↓w_expr, ↓w_ret, ↓w_if, ↓w_asgG, ↓w_for, ↓w_put, ↓w_aug, ↓w_augS, ↓w_raise0, ↓w_raise1, ↓w_raise2, ↓w_try, ↓w_tryAs, ↓w_var, ↓w_c, ↓w_op, ↓w_chain, ↓w_notV, ↓w_andV, ↓w_orV, ↓w_ifE, ↓w_tst, ↓w_not, ↓w_and, ↓w_or, ↓w_yes, ↓w_nil, ↓w_cons, ↓w_tup, ↓w_lst, ↓w_lstT, ↓w_cb, ↓w_call, ↓w_callK, ↓w_neg, ↓w_no, ↓w_pt, ↓w_sl, ↓w_fld, ↓w_src, ↓w_rng, ↓w_enu, ↓w_listT, ↓w_app, ↓w_lc, ↓w_xf, ↓w_fldT, ↓w_make, ↓w_makeL, ↓w_run, ↓w_cut, ↓w_pure, ↓w_drop, w_ok, w_ex, w_nx, w_rt, w_bk, w_ct, w_exS, w_some, w_v, w_tr, w_fa, w_tb, w_ti, w_tn, w_L, w_L0, wb_not, cn_f, startD, arr, gN_eq, gTp, gCn, gNl, Option.bind_some, List.filterMap_cons, List.filterMap_nil, List.map_cons, List.map_nil, List.replicate_succ, List.replicate_zero, List.cons_append, List.nil_append, List.getElem?_cons_zero, List.getElem?_cons_succ, List.set_cons_zero, List.set_cons_succ, List.length_cons, List.length_nil, Nat.reduceAdd, Nat.reduceSub, Nat.reduceLeDiff, Nat.reduceEqDiff, Int.reducePow, Int.reduceToNat, Int.reduceNeg, Int.reduceAdd, Int.reduceMul, Int.reduceSub, Int.reduceLT, Int.reduceLE, Int.reduceEq, Nat.zero_add, Int.zero_add, big_eq, true_and, and_true, and_self, dSub_int, dAdd_int, dAddI_int, dLt_int, dLe_int, dGt_int, dGe_int, dEqD_int, bInt_int, bLen_lst, bLen_tup, bMin_int, bMax_int, bAbs_int, dIs_non, dIs_int, dIs_nn, Bool.not_true, Bool.not_false, decide_true, decide_false, reduceIte, Bool.false_eq_true, if_false, if_true, iSeq_lst, iSeq_tup, iSeq_rdl, iEnu_lst, iEnu_tup]
  refine wo_pick (fun x => ∃ n : Nat, x = .int n ∧ 2 ≤ n ∧ n ≤ 40) k0 (by simpa using k1) ?_ ?_
  · intro x hx
    simp only [List.mem_cons, List.not_mem_nil, or_false] at hx
    rcases hx with rfl | rfl | rfl | rfl | rfl | rfl | rfl
    · exact ⟨4, rfl, by decide, by decide⟩
    · exact ⟨2, rfl, by decide, by decide⟩
    · exact ⟨3, rfl, by decide, by decide⟩
    · exact ⟨5, rfl, by decide, by decide⟩
    · exact ⟨7, rfl, by decide, by decide⟩
    · exact ⟨12, rfl, by decide, by decide⟩
    · exact ⟨20, rfl, by decide, by decide⟩
  rintro x ⟨n0, rfl, n00, n01⟩
  simp (implicitDefEqProofs := false) only [↓w_lcT, ↓w_mth, ↓w_calm, ↓w_tryM, ↓w_tm0, ↓w_tmN, ↓w_tmS, ↓w_next, ↓w_break, ↓w_cont, ↓w_retN, ↓w_asg, ↓w_expr, ↓w_ret, ↓w_if, ↓w_asgG, ↓w_for, ↓w_put, ↓w_aug, ↓w_augS, ↓w_raise0, ↓w_raise1, ↓w_raise2, ↓w_try, ↓w_tryAs, ↓w_var, ↓w_c, ↓w_op, ↓w_chain, ↓w_notV, ↓w_andV, ↓w_orV, ↓w_ifE, ↓w_tst, ↓w_not, ↓w_and, ↓w_or, ↓w_yes, ↓w_nil, ↓w_cons, ↓w_tup, ↓w_lst, ↓w_lstT, ↓w_cb, ↓w_call, ↓w_callK, ↓w_neg, ↓w_no, ↓w_pt, ↓w_sl, ↓w_fld, ↓w_src, ↓w_rng, ↓w_enu, ↓w_listT, ↓w_app, ↓w_lc, ↓w_xf, ↓w_fldT, ↓w_make, ↓w_makeL, ↓w_run, ↓w_cut, ↓w_pure, ↓w_drop, ↓wq_asg, ↓wq_asgG, ↓wq_expr, ↓wq_put, ↓wq_aug, ↓wq_augS, ↓wq_for, w_ok, w_ex, w_nx, w_rt, w_bk, w_ct, w_exS, w_some, w_v, w_tr, w_fa, w_tb, w_ti, w_tn, w_L, w_L0, wb_not, cn_f, startD, arr, gN_eq, gTp, gCn, gNl, Option.bind_some, List.filterMap_cons, List.filterMap_nil, List.map_cons, List.map_nil, List.replicate_succ, List.replicate_zero, List.cons_append, List.nil_append, List.getElem?_cons_zero, List.getElem?_cons_succ, List.set_cons_zero, List.set_cons_succ, List.length_cons, List.length_nil, Nat.reduceAdd, Nat.reduceSub, Nat.reduceLeDiff, Nat.reduceEqDiff, Int.reducePow, Int.reduceToNat, Int.reduceNeg, Int.reduceAdd, Int.reduceMul, Int.reduceSub, Int.reduceLT, Int.reduceLE, Int.reduceEq, Nat.zero_add, Int.zero_add, big_eq, true_and, and_true, and_self, dSub_int, dAdd_int, dAddI_int, dLt_int, dLe_int, dGt_int, dGe_int, dEqD_int, bInt_int, bLen_lst, bLen_tup, bMin_int, bMax_int, bAbs_int, dIs_non, dIs_int, dIs_nn, Bool.not_true, Bool.not_false, decide_true, decide_false, reduceIte, Bool.false_eq_true, if_false, if_true, iSeq_lst, iSeq_tup, iSeq_rdl, iEnu_lst, iEnu_tup]
  refine ws_cut (fun L s => ∃ (n : Nat) (v : SrcV), L = [some (.rdl (ns.map D.int)), some (.ref 0), some (.int M.o), some (.int M.l), some (.int M.g), some (.tup [.int M.o, .int M.l, .int M.g]), some (M.d c), some (.int n), none, none, none, none, none] ∧ s = [v.o] ∧ 2 ≤ n ∧ n ≤ 40) ?_ ?_
  · simp (implicitDefEqProofs := false) only [eDraw, ↓w_lcT, ↓w_mth, ↓w_calm, ↓w_tryM, ↓w_tm0, ↓w_tmN, ↓w_tmS, ↓w_seq, ↓w_next, ↓w_break, ↓w_cont, ↓w_retN, ↓w_asg, ↓w_expr, ↓w_ret, ↓w_if, ↓w_asgG, ↓w_for, ↓w_put, ↓w_aug, ↓w_augS, ↓w_raise0, ↓w_raise1, ↓w_raise2, ↓w_try, ↓w_tryAs, ↓w_var, ↓w_c, ↓w_op, ↓w_chain, ↓w_notV, ↓w_andV, ↓w_orV, ↓w_ifE, ↓w_tst, ↓w_not, ↓w_and, ↓w_or, ↓w_yes, ↓w_nil, ↓w_cons, ↓w_tup, ↓w_lst, ↓w_lstT, ↓w_cb, ↓w_call, ↓w_callK, ↓w_neg, ↓w_no, ↓w_pt, ↓w_sl, ↓w_fld, ↓w_src, ↓w_rng, ↓w_enu, ↓w_listT, ↓w_app, ↓w_lc, ↓w_xf, ↓w_fldT, ↓w_make, ↓w_makeL, ↓w_run, ↓w_cut, ↓w_pure, ↓w_drop, w_ok, w_ex, w_nx, w_rt, w_bk, w_ct, w_exS, w_some, w_v, w_tr, w_fa, w_tb, w_ti, w_tn, w_L, w_L0, wb_not, cn_f, startD, arr, gN_eq, gTp, gCn, gNl, Option.bind_some, List.filterMap_cons, List.filterMap_nil, List.map_cons, List.map_nil, List.replicate_succ, List.replicate_zero, List.cons_append, List.nil_append, List.getElem?_cons_zero, List.getElem?_cons_succ, List.set_cons_zero, List.set_cons_succ, List.length_cons, List.length_nil, Nat.reduceAdd, Nat.reduceSub, Nat.reduceLeDiff, Nat.reduceEqDiff, Int.reducePow, Int.reduceToNat, Int.reduceNeg, Int.reduceAdd, Int.reduceMul, Int.reduceSub, Int.reduceLT, Int.reduceLE, Int.reduceEq, Nat.zero_add, Int.zero_add, big_eq, true_and, and_true, and_self, dSub_int, dAdd_int, dAddI_int, dLt_int, dLe_int, dGt_int, dGe_int, dEqD_int, bInt_int, bLen_lst, bLen_tup, bMin_int, bMax_int, bAbs_int, dIs_non, dIs_int, dIs_nn, Bool.not_true, Bool.not_false, decide_true, decide_false, reduceIte, Bool.false_eq_true, if_false, if_true, iSeq_lst, iSeq_tup, iSeq_rdl, iEnu_lst, iEnu_tup]
    refine drawB_wp ok3 (by omega) (by decide) (by decide +kernel) fun y v4 y0 y1 ok4 => ?_
    simp (implicitDefEqProofs := false) only [↓w_lcT, ↓w_mth, ↓w_calm, ↓w_tryM, ↓w_tm0, ↓w_tmN, ↓w_tmS, ↓w_seq, ↓w_next, ↓w_break, ↓w_cont, ↓w_retN, ↓w_asg, ↓w_expr, ↓w_ret, ↓w_if, ↓w_asgG, ↓w_for, ↓w_put, ↓w_aug, ↓w_augS, ↓w_raise0, ↓w_raise1, ↓w_raise2, ↓w_try, ↓w_tryAs, ↓w_var, ↓w_c, ↓w_op, ↓w_chain, ↓w_notV, ↓w_andV, ↓w_orV, ↓w_ifE, ↓w_tst, ↓w_not, ↓w_and, ↓w_or, ↓w_yes, ↓w_nil, ↓w_cons, ↓w_tup, ↓w_lst, ↓w_lstT, ↓w_cb, ↓w_call, ↓w_callK, ↓w_neg, ↓w_no, ↓w_pt, ↓w_sl, ↓w_fld, ↓w_src, ↓w_rng, ↓w_enu, ↓w_listT, ↓w_app, ↓w_lc, ↓w_xf, ↓w_fldT, ↓w_make, ↓w_makeL, ↓w_run, ↓w_cut, ↓w_pure, ↓w_drop, w_ok, w_ex, w_nx, w_rt, w_bk, w_ct, w_exS, w_some, w_v, w_tr, w_fa, w_tb, w_ti, w_tn, w_L, w_L0, wb_not, cn_f, startD, arr, gN_eq, gTp, gCn, gNl, Option.bind_some, List.filterMap_cons, List.filterMap_nil, List.map_cons, List.map_nil, List.replicate_succ, List.replicate_zero, List.cons_append, List.nil_append, List.getElem?_cons_zero, List.getElem?_cons_succ, List.set_cons_zero, List.set_cons_succ, List.length_cons, List.length_nil, Nat.reduceAdd, Nat.reduceSub, Nat.reduceLeDiff, Nat.reduceEqDiff, Int.reducePow, Int.reduceToNat, Int.reduceNeg, Int.reduceAdd, Int.reduceMul, Int.reduceSub, Int.reduceLT, Int.reduceLE, Int.reduceEq, Nat.zero_add, Int.zero_add, big_eq, true_and, and_true, and_self, dSub_int, dAdd_int, dAddI_int, dLt_int, dLe_int, dGt_int, dGe_int, dEqD_int, bInt_int, bLen_lst, bLen_tup, bMin_int, bMax_int, bAbs_int, dIs_non, dIs_int, dIs_nn, Bool.not_true, Bool.not_false, decide_true, decide_false, reduceIte, Bool.false_eq_true, if_false, if_true, iSeq_lst, iSeq_tup, iSeq_rdl, iEnu_lst, iEnu_tup]
    refine wb_dec (fun h => ?_) (fun h => ?_)
    · simp (implicitDefEqProofs := false) only [↓w_lcT, ↓w_mth, ↓w_calm, ↓w_tryM, ↓w_tm0, ↓w_tmN, ↓w_tmS, ↓w_seq, ↓w_next, ↓w_break, ↓w_cont, ↓w_retN, ↓w_asg, ↓w_expr, ↓w_ret, ↓w_if, ↓w_asgG, ↓w_for, ↓w_put, ↓w_aug, ↓w_augS, ↓w_raise0, ↓w_raise1, ↓w_raise2, ↓w_try, ↓w_tryAs, ↓w_var, ↓w_c, ↓w_op, ↓w_chain, ↓w_notV, ↓w_andV, ↓w_orV, ↓w_ifE, ↓w_tst, ↓w_not, ↓w_and, ↓w_or, ↓w_yes, ↓w_nil, ↓w_cons, ↓w_tup, ↓w_lst, ↓w_lstT, ↓w_cb, ↓w_call, ↓w_callK, ↓w_neg, ↓w_no, ↓w_pt, ↓w_sl, ↓w_fld, ↓w_src, ↓w_rng, ↓w_enu, ↓w_listT, ↓w_app, ↓w_lc, ↓w_xf, ↓w_fldT, ↓w_make, ↓w_makeL, ↓w_run, ↓w_cut, ↓w_pure, ↓w_drop, w_ok, w_ex, w_nx, w_rt, w_bk, w_ct, w_exS, w_some, w_v, w_tr, w_fa, w_tb, w_ti, w_tn, w_L, w_L0, wb_not, cn_f, startD, arr, gN_eq, gTp, gCn, gNl, Option.bind_some, List.filterMap_cons, List.filterMap_nil, List.map_cons, List.map_nil, List.replicate_succ, List.replicate_zero, List.cons_append, List.nil_append, List.getElem?_cons_zero, List.getElem?_cons_succ, List.set_cons_zero, List.set_cons_succ, List.length_cons, List.length_nil, Nat.reduceAdd, Nat.reduceSub, Nat.reduceLeDiff, Nat.reduceEqDiff, Int.reducePow, Int.reduceToNat, Int.reduceNeg, Int.reduceAdd, Int.reduceMul, Int.reduceSub, Int.reduceLT, Int.reduceLE, Int.reduceEq, Nat.zero_add, Int.zero_add, big_eq, true_and, and_true, and_self, dSub_int, dAdd_int, dAddI_int, dLt_int, dLe_int, dGt_int, dGe_int, dEqD_int, bInt_int, bLen_lst, bLen_tup, bMin_int, bMax_int, bAbs_int, dIs_non, dIs_int, dIs_nn, Bool.not_true, Bool.not_false, decide_true, decide_false, reduceIte, Bool.false_eq_true, if_false, if_true, iSeq_lst, iSeq_tup, iSeq_rdl, iEnu_lst, iEnu_tup]
      exact ⟨40, v4, rfl, rfl, by decide, by decide⟩
    · simp (implicitDefEqProofs := false) only [↓w_lcT, ↓w_mth, ↓w_calm, ↓w_tryM, ↓w_tm0, ↓w_tmN, ↓w_tmS, ↓w_seq, ↓w_next, ↓w_break, ↓w_cont, ↓w_retN, ↓w_asg, ↓w_expr, ↓w_ret, ↓w_if, ↓w_asgG, ↓w_for, ↓w_put, ↓w_aug, ↓w_augS, ↓w_raise0, ↓w_raise1, ↓w_raise2, ↓w_try, ↓w_tryAs, ↓w_var, ↓w_c, ↓w_op, ↓w_chain, ↓w_notV, ↓w_andV, ↓w_orV, ↓w_ifE, ↓w_tst, ↓w_not, ↓w_and, ↓w_or, ↓w_yes, ↓w_nil, ↓w_cons, ↓w_tup, ↓w_lst, ↓w_lstT, ↓w_cb, ↓w_call, ↓w_callK, ↓w_neg, ↓w_no, ↓w_pt, ↓w_sl, ↓w_fld, ↓w_src, ↓w_rng, ↓w_enu, ↓w_listT, ↓w_app, ↓w_lc, ↓w_xf, ↓w_fldT, ↓w_make, ↓w_makeL, ↓w_run, ↓w_cut, ↓w_pure, ↓w_drop, w_ok, w_ex, w_nx, w_rt, w_bk, w_ct, w_exS, w_some, w_v, w_tr, w_fa, w_tb, w_ti, w_tn, w_L, w_L0, wb_not, cn_f, startD, arr, gN_eq, gTp, gCn, gNl, Option.bind_some, List.filterMap_cons, List.filterMap_nil, List.map_cons, List.map_nil, List.replicate_succ, List.replicate_zero, List.cons_append, List.nil_append, List.getElem?_cons_zero, List.getElem?_cons_succ, List.set_cons_zero, List.set_cons_succ, List.length_cons, List.length_nil, Nat.reduceAdd, Nat.reduceSub, Nat.reduceLeDiff, Nat.reduceEqDiff, Int.reducePow, Int.reduceToNat, Int.reduceNeg, Int.reduceAdd, Int.reduceMul, Int.reduceSub, Int.reduceLT, Int.reduceLE, Int.reduceEq, Nat.zero_add, Int.zero_add, big_eq, true_and, and_true, and_self, dSub_int, dAdd_int, dAddI_int, dLt_int, dLe_int, dGt_int, dGe_int, dEqD_int, bInt_int, bLen_lst, bLen_tup, bMin_int, bMax_int, bAbs_int, dIs_non, dIs_int, dIs_nn, Bool.not_true, Bool.not_false, decide_true, decide_false, reduceIte, Bool.false_eq_true, if_false, if_true, iSeq_lst, iSeq_tup, iSeq_rdl, iEnu_lst, iEnu_tup]
      exact ⟨n0, v4, rfl, rfl, n00, n01⟩
  rintro L s ⟨n, v4, rfl, rfl, hn0, hn1⟩
  obtain ⟨p, hp, hple, e1⟩ := least_period_ok (c := c) hM hn0 hn1 [v4.o] (by simp [bel_src])
  have hpg := hp.ge
  have e2 : G__law_integer c [.int p] [v4.o] = .ok (.bl true) [v4.o] := rfl
  have p20 : ∀ x : Int, x ≤ p → x ≤ 10 ^ 20 := fun x h => by omega
  have e3 := lclear_ok (c := c) (l := M.l) (g := M.g) mo0 mo1 (show n ≤ 42 by omega) (show 0 ≤ p by omega) (p20 p (Int.le_refl _)) [v4.o]
  rw [eL, clrB_iff.mpr hp.clr] at e3
  have mn : dMul [v4.o] (.int n) (.int n) = some (.int (n * n)) := by
    have : (n : Int) * n ≤ 40 * 40 := Int.mul_le_mul (by omega) (by omega) (by omega) (by omega)
    exact dMul_small (by omega) (by omega) (by omega) (by omega)
  have nn1 : (n : Int) * n ≤ 1600 := by
    have : (n : Int) * n ≤ 40 * 40 := Int.mul_le_mul (by omega) (by omega) (by omega) (by omega)
    omega
  have nn0 : (n : Int) * 1 ≤ n * n := Int.mul_le_mul_of_nonneg_left (by omega) (by omega)
  simp (implicitDefEqProofs := false) only [e1, eG, e2, show ¬ p < M.gap by omega, e3, mn, ↓w_lcT, ↓w_mth, ↓w_calm, ↓w_tryM, ↓w_tm0, ↓w_tmN, ↓w_tmS, ↓w_seq, ↓w_next, ↓w_break, ↓w_cont, ↓w_retN, ↓w_asg, ↓w_expr, ↓w_ret, ↓w_if, ↓w_asgG, ↓w_for, ↓w_put, ↓w_aug, ↓w_augS, ↓w_raise0, ↓w_raise1, ↓w_raise2, ↓w_try, ↓w_tryAs, ↓w_var, ↓w_c, ↓w_op, ↓w_chain, ↓w_notV, ↓w_andV, ↓w_orV, ↓w_ifE, ↓w_tst, ↓w_not, ↓w_and, ↓w_or, ↓w_yes, ↓w_nil, ↓w_cons, ↓w_tup, ↓w_lst, ↓w_lstT, ↓w_cb, ↓w_call, ↓w_callK, ↓w_neg, ↓w_no, ↓w_pt, ↓w_sl, ↓w_fld, ↓w_src, ↓w_rng, ↓w_enu, ↓w_listT, ↓w_app, ↓w_lc, ↓w_xf, ↓w_fldT, ↓w_make, ↓w_makeL, ↓w_run, ↓w_cut, ↓w_pure, ↓w_drop, w_ok, w_ex, w_nx, w_rt, w_bk, w_ct, w_exS, w_some, w_v, w_tr, w_fa, w_tb, w_ti, w_tn, w_L, w_L0, wb_not, cn_f, startD, arr, gN_eq, gTp, gCn, gNl, Option.bind_some, List.filterMap_cons, List.filterMap_nil, List.map_cons, List.map_nil, List.replicate_succ, List.replicate_zero, List.cons_append, List.nil_append, List.getElem?_cons_zero, List.getElem?_cons_succ, List.set_cons_zero, List.set_cons_succ, List.length_cons, List.length_nil, Nat.reduceAdd, Nat.reduceSub, Nat.reduceLeDiff, Nat.reduceEqDiff, Int.reducePow, Int.reduceToNat, Int.reduceNeg, Int.reduceAdd, Int.reduceMul, Int.reduceSub, Int.reduceLT, Int.reduceLE, Int.reduceEq, Nat.zero_add, Int.zero_add, big_eq, true_and, and_true, and_self, dSub_int, dAdd_int, dAddI_int, dLt_int, dLe_int, dGt_int, dGe_int, dEqD_int, bInt_int, bLen_lst, bLen_tup, bMin_int, bMax_int, bAbs_int, dIs_non, dIs_int, dIs_nn, Bool.not_true, Bool.not_false, decide_true, decide_false, reduceIte, Bool.false_eq_true, if_false, if_true, iSeq_lst, iSeq_tup, iSeq_rdl, iEnu_lst, iEnu_tup]
  rw [rng1 (by omega) (by omega), w_some]
  refine ws_rng (fun i L s' => ∃ (per : Int) (y11 y12 : Option D), L = [some (.rdl (ns.map D.int)), some (.ref 0), some (.int M.o), some (.int M.l), some (.int M.g), some (.tup [.int M.o, .int M.l, .int M.g]), some (M.d c), some (.int n), some (.int p), some (.int M.gap), some (.int per), y11, y12] ∧ s' = [v4.o] ∧ M.gap ≤ per ∧ per ≤ p ∧ cq M.letter per (n - 2) + i ≤ n - 2) ⟨M.gap, none, none, rfl, rfl, Int.le_refl _, hpg, by have := cq_le M.letter M.gap (n - 2); omega⟩ ?_ ?_
  · rintro i L s' hi ⟨per, y11, y12, rfl, rfl, h1, h2, h3⟩
    have e4 := lreach_ok (c := c) (g := M.g) mo0 mo1 ml0 ml1 (show n ≤ 42 by omega) (show 0 ≤ per by omega) (p20 per h2) [v4.o]
    rw [eL] at e4
    simp (implicitDefEqProofs := false) only [e4, ↓w_lcT, ↓w_mth, ↓w_calm, ↓w_tryM, ↓w_tm0, ↓w_tmN, ↓w_tmS, ↓w_seq, ↓w_next, ↓w_break, ↓w_cont, ↓w_retN, ↓w_asg, ↓w_expr, ↓w_ret, ↓w_if, ↓w_asgG, ↓w_for, ↓w_put, ↓w_aug, ↓w_augS, ↓w_raise0, ↓w_raise1, ↓w_raise2, ↓w_try, ↓w_tryAs, ↓w_var, ↓w_c, ↓w_op, ↓w_chain, ↓w_notV, ↓w_andV, ↓w_orV, ↓w_ifE, ↓w_tst, ↓w_not, ↓w_and, ↓w_or, ↓w_yes, ↓w_nil, ↓w_cons, ↓w_tup, ↓w_lst, ↓w_lstT, ↓w_cb, ↓w_call, ↓w_callK, ↓w_neg, ↓w_no, ↓w_pt, ↓w_sl, ↓w_fld, ↓w_src, ↓w_rng, ↓w_enu, ↓w_listT, ↓w_app, ↓w_lc, ↓w_xf, ↓w_fldT, ↓w_make, ↓w_makeL, ↓w_run, ↓w_cut, ↓w_pure, ↓w_drop, w_ok, w_ex, w_nx, w_rt, w_bk, w_ct, w_exS, w_some, w_v, w_tr, w_fa, w_tb, w_ti, w_tn, w_L, w_L0, wb_not, cn_f, startD, arr, gN_eq, gTp, gCn, gNl, Option.bind_some, List.filterMap_cons, List.filterMap_nil, List.map_cons, List.map_nil, List.replicate_succ, List.replicate_zero, List.cons_append, List.nil_append, List.getElem?_cons_zero, List.getElem?_cons_succ, List.set_cons_zero, List.set_cons_succ, List.length_cons, List.length_nil, Nat.reduceAdd, Nat.reduceSub, Nat.reduceLeDiff, Nat.reduceEqDiff, Int.reducePow, Int.reduceToNat, Int.reduceNeg, Int.reduceAdd, Int.reduceMul, Int.reduceSub, Int.reduceLT, Int.reduceLE, Int.reduceEq, Nat.zero_add, Int.zero_add, big_eq, true_and, and_true, and_self, dSub_int, dAdd_int, dAddI_int, dLt_int, dLe_int, dGt_int, dGe_int, dEqD_int, bInt_int, bLen_lst, bLen_tup, bMin_int, bMax_int, bAbs_int, dIs_non, dIs_int, dIs_nn, Bool.not_true, Bool.not_false, decide_true, decide_false, reduceIte, Bool.false_eq_true, if_false, if_true, iSeq_lst, iSeq_tup, iSeq_rdl, iEnu_lst, iEnu_tup]
    refine wb_dec (fun h => ?_) (fun h => ?_)
    · have hcl := rch_clr h
      have hpp : per = p := Int.le_antisymm h2 (hp.le per h1 hcl)
      simp (implicitDefEqProofs := false) only [hpp, ↓w_lcT, ↓w_mth, ↓w_calm, ↓w_tryM, ↓w_tm0, ↓w_tmN, ↓w_tmS, ↓w_seq, ↓w_next, ↓w_break, ↓w_cont, ↓w_retN, ↓w_asg, ↓w_expr, ↓w_ret, ↓w_if, ↓w_asgG, ↓w_for, ↓w_put, ↓w_aug, ↓w_augS, ↓w_raise0, ↓w_raise1, ↓w_raise2, ↓w_try, ↓w_tryAs, ↓w_var, ↓w_c, ↓w_op, ↓w_chain, ↓w_notV, ↓w_andV, ↓w_orV, ↓w_ifE, ↓w_tst, ↓w_not, ↓w_and, ↓w_or, ↓w_yes, ↓w_nil, ↓w_cons, ↓w_tup, ↓w_lst, ↓w_lstT, ↓w_cb, ↓w_call, ↓w_callK, ↓w_neg, ↓w_no, ↓w_pt, ↓w_sl, ↓w_fld, ↓w_src, ↓w_rng, ↓w_enu, ↓w_listT, ↓w_app, ↓w_lc, ↓w_xf, ↓w_fldT, ↓w_make, ↓w_makeL, ↓w_run, ↓w_cut, ↓w_pure, ↓w_drop, w_ok, w_ex, w_nx, w_rt, w_bk, w_ct, w_exS, w_some, w_v, w_tr, w_fa, w_tb, w_ti, w_tn, w_L, w_L0, wb_not, cn_f, startD, arr, gN_eq, gTp, gCn, gNl, Option.bind_some, List.filterMap_cons, List.filterMap_nil, List.map_cons, List.map_nil, List.replicate_succ, List.replicate_zero, List.cons_append, List.nil_append, List.getElem?_cons_zero, List.getElem?_cons_succ, List.set_cons_zero, List.set_cons_succ, List.length_cons, List.length_nil, Nat.reduceAdd, Nat.reduceSub, Nat.reduceLeDiff, Nat.reduceEqDiff, Int.reducePow, Int.reduceToNat, Int.reduceNeg, Int.reduceAdd, Int.reduceMul, Int.reduceSub, Int.reduceLT, Int.reduceLE, Int.reduceEq, Nat.zero_add, Int.zero_add, big_eq, true_and, and_true, and_self, dSub_int, dAdd_int, dAddI_int, dLt_int, dLe_int, dGt_int, dGe_int, dEqD_int, bInt_int, bLen_lst, bLen_tup, bMin_int, bMax_int, bAbs_int, dIs_non, dIs_int, dIs_nn, Bool.not_true, Bool.not_false, decide_true, decide_false, reduceIte, Bool.false_eq_true, if_false, if_true, iSeq_lst, iSeq_tup, iSeq_rdl, iEnu_lst, iEnu_tup]
    · obtain ⟨q, q0, q1, q2, q3, q4⟩ := rch_hit h
      have hge := rch_ge M.l M.letter per (n - 2)
      have hq : M.letter ≤ q * cdv M.letter q := (cdv_le (d := M.letter) q0).mp (Int.le_refl _)
      have hlp : cdv M.letter q ≤ p := by
        rcases Int.lt_or_le p (cdv M.letter q) with z | z
        · have a := (cdv_lt (d := M.letter) q0).mp z
          have b : (q : Int) * per ≤ q * p := Int.mul_le_mul_of_nonneg_left h2 (by omega)
          exact absurd ⟨by omega, a⟩ (hp.clr q q0 q1)
        · exact z
      have hcq := cq_lt (d := M.letter) (p := per) (p' := rch M.l M.letter per (n - 2)) hge q3 (by rw [q4]; exact hq) q0 q1
      simp (implicitDefEqProofs := false) only [↓w_lcT, ↓w_mth, ↓w_calm, ↓w_tryM, ↓w_tm0, ↓w_tmN, ↓w_tmS, ↓w_seq, ↓w_next, ↓w_break, ↓w_cont, ↓w_retN, ↓w_asg, ↓w_expr, ↓w_ret, ↓w_if, ↓w_asgG, ↓w_for, ↓w_put, ↓w_aug, ↓w_augS, ↓w_raise0, ↓w_raise1, ↓w_raise2, ↓w_try, ↓w_tryAs, ↓w_var, ↓w_c, ↓w_op, ↓w_chain, ↓w_notV, ↓w_andV, ↓w_orV, ↓w_ifE, ↓w_tst, ↓w_not, ↓w_and, ↓w_or, ↓w_yes, ↓w_nil, ↓w_cons, ↓w_tup, ↓w_lst, ↓w_lstT, ↓w_cb, ↓w_call, ↓w_callK, ↓w_neg, ↓w_no, ↓w_pt, ↓w_sl, ↓w_fld, ↓w_src, ↓w_rng, ↓w_enu, ↓w_listT, ↓w_app, ↓w_lc, ↓w_xf, ↓w_fldT, ↓w_make, ↓w_makeL, ↓w_run, ↓w_cut, ↓w_pure, ↓w_drop, w_ok, w_ex, w_nx, w_rt, w_bk, w_ct, w_exS, w_some, w_v, w_tr, w_fa, w_tb, w_ti, w_tn, w_L, w_L0, wb_not, cn_f, startD, arr, gN_eq, gTp, gCn, gNl, Option.bind_some, List.filterMap_cons, List.filterMap_nil, List.map_cons, List.map_nil, List.replicate_succ, List.replicate_zero, List.cons_append, List.nil_append, List.getElem?_cons_zero, List.getElem?_cons_succ, List.set_cons_zero, List.set_cons_succ, List.length_cons, List.length_nil, Nat.reduceAdd, Nat.reduceSub, Nat.reduceLeDiff, Nat.reduceEqDiff, Int.reducePow, Int.reduceToNat, Int.reduceNeg, Int.reduceAdd, Int.reduceMul, Int.reduceSub, Int.reduceLT, Int.reduceLE, Int.reduceEq, Nat.zero_add, Int.zero_add, big_eq, true_and, and_true, and_self, dSub_int, dAdd_int, dAddI_int, dLt_int, dLe_int, dGt_int, dGe_int, dEqD_int, bInt_int, bLen_lst, bLen_tup, bMin_int, bMax_int, bAbs_int, dIs_non, dIs_int, dIs_nn, Bool.not_true, Bool.not_false, decide_true, decide_false, reduceIte, Bool.false_eq_true, if_false, if_true, iSeq_lst, iSeq_tup, iSeq_rdl, iEnu_lst, iEnu_tup]
      exact ⟨_, _, _, rfl, by omega, by rw [q4]; exact hlp, by omega⟩
  · rintro L s' ⟨per, y11, y12, rfl, rfl, h1, h2, h3⟩
    omega
end Lw

namespace Lw
open PySem PySem.Spec PyProof.Rows L2 SI Pg
def topS (i : Nat) : Stmt := PySem.Challenge.pw_tellontree_k56_whole_least_period.main.body.getD i (.Pass ⟨0, 0, 0, 0⟩)
abbrev s_InvalidMachine___init__ : Stmt := (inClass (topS 2) 0)
theorem sc_InvalidMachine___init__ : FnScope ["self", "part"] ["self", "part"] (defScope s_InvalidMachine___init__) := ⟨rfl, rfl, rfl, by decide +kernel, rfl, by decide +kernel, by decide +kernel⟩
abbrev s_is_integer : Stmt := (topS 5)
theorem sc_is_integer : FnScope ["thing"] ["thing"] (defScope s_is_integer) := ⟨rfl, rfl, rfl, by decide +kernel, rfl, by decide +kernel, by decide +kernel⟩
abbrev s_between : Stmt := (topS 6)
theorem sc_between : FnScope ["thing", "low", "high"] ["thing", "low", "high"] (defScope s_between) := ⟨rfl, rfl, rfl, by decide +kernel, rfl, by decide +kernel, by decide +kernel⟩
abbrev s_checked_count : Stmt := (topS 7)
theorem sc_checked_count : FnScope ["n", "low", "high"] ["n", "low", "high"] (defScope s_checked_count) := ⟨rfl, rfl, rfl, by decide +kernel, rfl, by decide +kernel, by decide +kernel⟩
abbrev s_is_clear : Stmt := (topS 10)
theorem sc_is_clear : FnScope ["machine", "n", "period", "distance"] ["machine", "n", "period"] (defScope s_is_clear) := ⟨rfl, rfl, rfl, by decide +kernel, rfl, by decide +kernel, by decide +kernel⟩
abbrev s_least_period : Stmt := (topS 11)
theorem sc_least_period : FnScope ["machine", "n", "periods", "distance", "quotient", "period"] ["machine", "n"] (defScope s_least_period) := ⟨rfl, rfl, rfl, by decide +kernel, rfl, by decide +kernel, by decide +kernel⟩
abbrev s_Machine___init__ : Stmt := (inClass (topS 14) 0)
theorem sc_Machine___init__ : FnScope ["self", "o", "l", "g"] ["self", "o", "l", "g"] (defScope s_Machine___init__) := ⟨rfl, rfl, rfl, by decide +kernel, rfl, by decide +kernel, by decide +kernel⟩
abbrev s__law_source : Stmt := (topS 16)
theorem sc__law_source : FnScope ["_law_script", "_law_cell"] ["_law_script"] (defScope s__law_source) := ⟨rfl, rfl, rfl, by decide +kernel, rfl, by decide +kernel, by decide +kernel⟩
abbrev s__law_draw : Stmt := (topS 17)
theorem sc__law_draw : FnScope ["_law_source_here", "_law_limit", "_law_cell", "_law_digit", "_law_one", "_law_two", "_law_three"] ["_law_source_here", "_law_limit"] (defScope s__law_draw) := ⟨rfl, rfl, rfl, by decide +kernel, rfl, by decide +kernel, by decide +kernel⟩
abbrev s__law_wide : Stmt := (topS 18)
theorem sc__law_wide : FnScope ["_law_source_here", "_law_limit", "_law_high", "_law_middle", "_law_low"] ["_law_source_here", "_law_limit"] (defScope s__law_wide) := ⟨rfl, rfl, rfl, by decide +kernel, rfl, by decide +kernel, by decide +kernel⟩
abbrev s__law_numbers : Stmt := (topS 19)
theorem sc__law_numbers : FnScope ["_law_source_here", "_law_size", "_law_kind", "_law_o", "_law_l", "_law_g"] ["_law_source_here"] (defScope s__law_numbers) := ⟨rfl, rfl, rfl, by decide +kernel, rfl, by decide +kernel, by decide +kernel⟩
abbrev s__law_integer : Stmt := (topS 20)
theorem sc__law_integer : FnScope ["_law_thing"] ["_law_thing"] (defScope s__law_integer) := ⟨rfl, rfl, rfl, by decide +kernel, rfl, by decide +kernel, by decide +kernel⟩
abbrev s__law_clear : Stmt := (topS 21)
theorem sc__law_clear : FnScope ["_law_n", "_law_period", "_law_numbers_here", "_law_o", "_law_l", "_law_g", "_law_q"] ["_law_n", "_law_period", "_law_numbers_here"] (defScope s__law_clear) := ⟨rfl, rfl, rfl, by decide +kernel, rfl, by decide +kernel, by decide +kernel⟩
abbrev s__law_reach : Stmt := (topS 22)
theorem sc__law_reach : FnScope ["_law_n", "_law_period", "_law_numbers_here", "_law_o", "_law_l", "_law_g", "_law_best", "_law_q"] ["_law_n", "_law_period", "_law_numbers_here"] (defScope s__law_reach) := ⟨rfl, rfl, rfl, by decide +kernel, rfl, by decide +kernel, by decide +kernel⟩
abbrev s__law_steep : Stmt := (topS 23)
theorem sc__law_steep : FnScope ["_law_source_here", "_law_numbers_here", "_law_o", "_law_l", "_law_g", "_law_kind"] ["_law_source_here", "_law_numbers_here"] (defScope s__law_steep) := ⟨rfl, rfl, rfl, by decide +kernel, rfl, by decide +kernel, by decide +kernel⟩
abbrev s_law : Stmt := (topS 24)
theorem sc_law : FnScope ["_law_script", "_law_source_here", "_law_o", "_law_l", "_law_g", "_law_numbers_here", "_law_machine", "_law_n", "_law_told", "_law_gap", "_law_period", "_law_k", "_law_further"] ["_law_script"] (defScope s_law) := ⟨rfl, rfl, rfl, by decide +kernel, rfl, by decide +kernel, by decide +kernel⟩
structure Ad where
  a_InvalidMachine___init__ : Addr
  fd_InvalidMachine___init__ : FuncData
  a_is_integer : Addr
  fd_is_integer : FuncData
  a_between : Addr
  fd_between : FuncData
  a_checked_count : Addr
  fd_checked_count : FuncData
  a_is_clear : Addr
  fd_is_clear : FuncData
  a_least_period : Addr
  fd_least_period : FuncData
  a_Machine___init__ : Addr
  fd_Machine___init__ : FuncData
  a__law_source : Addr
  fd__law_source : FuncData
  a__law_draw : Addr
  fd__law_draw : FuncData
  a__law_wide : Addr
  fd__law_wide : FuncData
  a__law_numbers : Addr
  fd__law_numbers : FuncData
  a__law_integer : Addr
  fd__law_integer : FuncData
  a__law_clear : Addr
  fd__law_clear : FuncData
  a__law_reach : Addr
  fd__law_reach : FuncData
  a__law_steep : Addr
  fd__law_steep : FuncData
  a_law : Addr
  fd_law : FuncData
  t_GREATEST : Tok
  t_MOST_HANDS : Tok
structure Txt (K : PySem.W.Frag) (mg : Str → Option Value) (c : Cl) (z : Ad) : Prop where
  F_InvalidMachine___init__ : Fun K "__init__" "InvalidMachine.__init__" s_InvalidMachine___init__ z.a_InvalidMachine___init__ z.fd_InvalidMachine___init__
  b_InvalidMachine___init__ : Binds K z.fd_InvalidMachine___init__ ["self", "part"] []
  F_is_integer : Fun K "is_integer" "is_integer" s_is_integer z.a_is_integer z.fd_is_integer
  b_is_integer : Binds K z.fd_is_integer ["thing"] []
  g_is_integer : mg "is_integer" = some (.ref z.a_is_integer)
  F_between : Fun K "between" "between" s_between z.a_between z.fd_between
  b_between : Binds K z.fd_between ["thing", "low", "high"] []
  g_between : mg "between" = some (.ref z.a_between)
  F_checked_count : Fun K "checked_count" "checked_count" s_checked_count z.a_checked_count z.fd_checked_count
  b_checked_count : Binds K z.fd_checked_count ["n", "low", "high"] []
  g_checked_count : mg "checked_count" = some (.ref z.a_checked_count)
  F_is_clear : Fun K "is_clear" "is_clear" s_is_clear z.a_is_clear z.fd_is_clear
  b_is_clear : Binds K z.fd_is_clear ["machine", "n", "period"] []
  g_is_clear : mg "is_clear" = some (.ref z.a_is_clear)
  F_least_period : Fun K "least_period" "least_period" s_least_period z.a_least_period z.fd_least_period
  b_least_period : Binds K z.fd_least_period ["machine", "n"] []
  g_least_period : mg "least_period" = some (.ref z.a_least_period)
  F_Machine___init__ : Fun K "__init__" "Machine.__init__" s_Machine___init__ z.a_Machine___init__ z.fd_Machine___init__
  b_Machine___init__ : Binds K z.fd_Machine___init__ ["self", "o", "l", "g"] []
  F__law_source : Fun K "_law_source" "_law_source" s__law_source z.a__law_source z.fd__law_source
  b__law_source : Binds K z.fd__law_source ["_law_script"] []
  g__law_source : mg "_law_source" = some (.ref z.a__law_source)
  F__law_draw : Fun K "_law_draw" "_law_draw" s__law_draw z.a__law_draw z.fd__law_draw
  b__law_draw : Binds K z.fd__law_draw ["_law_source_here", "_law_limit"] []
  g__law_draw : mg "_law_draw" = some (.ref z.a__law_draw)
  F__law_wide : Fun K "_law_wide" "_law_wide" s__law_wide z.a__law_wide z.fd__law_wide
  b__law_wide : Binds K z.fd__law_wide ["_law_source_here", "_law_limit"] []
  g__law_wide : mg "_law_wide" = some (.ref z.a__law_wide)
  F__law_numbers : Fun K "_law_numbers" "_law_numbers" s__law_numbers z.a__law_numbers z.fd__law_numbers
  b__law_numbers : Binds K z.fd__law_numbers ["_law_source_here"] []
  g__law_numbers : mg "_law_numbers" = some (.ref z.a__law_numbers)
  F__law_integer : Fun K "_law_integer" "_law_integer" s__law_integer z.a__law_integer z.fd__law_integer
  b__law_integer : Binds K z.fd__law_integer ["_law_thing"] []
  g__law_integer : mg "_law_integer" = some (.ref z.a__law_integer)
  F__law_clear : Fun K "_law_clear" "_law_clear" s__law_clear z.a__law_clear z.fd__law_clear
  b__law_clear : Binds K z.fd__law_clear ["_law_n", "_law_period", "_law_numbers_here"] []
  g__law_clear : mg "_law_clear" = some (.ref z.a__law_clear)
  F__law_reach : Fun K "_law_reach" "_law_reach" s__law_reach z.a__law_reach z.fd__law_reach
  b__law_reach : Binds K z.fd__law_reach ["_law_n", "_law_period", "_law_numbers_here"] []
  g__law_reach : mg "_law_reach" = some (.ref z.a__law_reach)
  F__law_steep : Fun K "_law_steep" "_law_steep" s__law_steep z.a__law_steep z.fd__law_steep
  b__law_steep : Binds K z.fd__law_steep ["_law_source_here", "_law_numbers_here"] []
  g__law_steep : mg "_law_steep" = some (.ref z.a__law_steep)
  F_law : Fun K "law" "law" s_law z.a_law z.fd_law
  b_law : Binds K z.fd_law ["_law_script"] []
  g_law : mg "law" = some (.ref z.a_law)
  n_bool : mg "bool" = none
  n_int : mg "int" = none
  n_isinstance : mg "isinstance" = none
  n_len : mg "len" = none
  n_max : mg "max" = none
  n_min : mg "min" = none
  n_range : mg "range" = none
  c_GREATEST : mg "GREATEST" = some (.int 1000000000 z.t_GREATEST)
  c_MOST_HANDS : mg "MOST_HANDS" = some (.int 40 z.t_MOST_HANDS)
  g_Machine : mg "Machine" = some (.ref c.Machine)
  mk_Machine : Mk K c.Machine z.a_Machine___init__
  it_Machine : InsTxt K c.Machine
  g_InvalidCount : mg "InvalidCount" = some (.ref c.InvalidCount)
  g_InvalidMachine : mg "InvalidMachine" = some (.ref c.InvalidMachine)
  x0_InvalidCount : Ex0 K c.InvalidCount
  x_InvalidMachine : ExE K c.InvalidMachine
  xi_InvalidMachine : PySem.W.findIn K (.ref c.InvalidMachine) "__init__" = some (some (.ref z.a_InvalidMachine___init__))
  xt_InvalidMachine : PySem.W.typeIn K (.ref z.a_InvalidMachine___init__) = some (.type "function")
  xk_InvalidMachine_part : PySem.W.takerIn K c.InvalidMachine "part" = some none
  its : ∀ C ∈ c.cs, InsTxt K C
  f_g : ∀ C ∈ [c.Machine], Cls K C ∧ NoAttr K C "g"
  f_gap : ∀ C ∈ [c.Machine], Cls K C ∧ NoAttr K C "gap"
  f_l : ∀ C ∈ [c.Machine], Cls K C ∧ NoAttr K C "l"
  f_letter : ∀ C ∈ [c.Machine], Cls K C ∧ NoAttr K C "letter"
  f_o : ∀ C ∈ [c.Machine], Cls K C ∧ NoAttr K C "o"
section
variable {P : Program} {w : World} {K : PySem.W.Frag} {mg : Str → Option Value} {base : Heap} {c : Cl} {z : Ad}
theorem ok_InvalidMachine___init__ (T : Txt K mg c z) : FnOk P w K mg base (L2.CX P w) 1 z.a_InvalidMachine___init__ z.fd_InvalidMachine___init__ ["self", "part"] (spX1 K "part") := by
  exact ok_x1 T.F_InvalidMachine___init__ sc_InvalidMachine___init__ fun _ _ _ _ _ _ => pss_one (ps_est (pe_var rfl (Or.inl rfl) (by decide) (by decide)) (pe_var rfl (Or.inl rfl) (by decide) (by decide)))
theorem ok_is_integer (T : Txt K mg c z) : FnOk P w K mg base (L2.CX P w) 1 z.a_is_integer z.fd_is_integer ["thing"] (spI K 1 (G_is_integer c)) := by
  exact ok_fn T.F_is_integer sc_is_integer fun cdv A outer s H E hr tk po =>
    (pSs_one (pS_ret (pE_and (pE_isi T.its T.n_isinstance (pA_cons (pE_var 0) (pA_cons (pE_ty T.n_int (by decide +kernel)) pA_nil))) (pE_one (pE_not (pE_isi T.its T.n_isinstance (pA_cons (pE_var 0) (pA_cons (pE_ty T.n_bool (by decide +kernel)) pA_nil))))))))
theorem ok_between (T : Txt K mg c z) : FnOk P w K mg base (L2.CX P w) 2 z.a_between z.fd_between ["thing", "low", "high"] (spI K 3 (G_between c)) := by
  exact ok_fn T.F_between sc_between fun cdv A outer s H E hr tk po =>
    (pSs_one (pS_ret (pE_and (pE_call (ok_is_integer T) (hr.mono (by decide)) T.g_is_integer T.F_is_integer.kp T.b_is_integer tk (pA_cons (pE_var 0) pA_nil)) (pE_one (pE_chainI op_le op_le dc_dLe dc_dLe (pE_var 1) (pE_var 0) (pE_var 2))))))
theorem ok_checked_count (T : Txt K mg c z) : FnOk P w K mg base (L2.CX P w) 3 z.a_checked_count z.fd_checked_count ["n", "low", "high"] (spI K 3 (G_checked_count c)) := by
  exact ok_fn T.F_checked_count sc_checked_count fun cdv A outer s H E hr tk po =>
    (pSs_cons (pS_if (pT_not (pT_val (pE_call (ok_between T) (hr.mono (by decide)) T.g_between T.F_between.kp T.b_between tk (pA_cons (pE_var 0) (pA_cons (pE_var 1) (pA_cons (pE_var 2) pA_nil)))))) (pSs_one (pS_raise0 rfl tk T.x0_InvalidCount T.g_InvalidCount)) pSs_nil)
      (pSs_one (pS_ret (pE_var 0))))
theorem ok_is_clear (T : Txt K mg c z) : FnOk P w K mg base (L2.CX P w) 1 z.a_is_clear z.fd_is_clear ["machine", "n", "period"] (spI K 3 (G_is_clear c)) := by
  exact ok_fn T.F_is_clear sc_is_clear fun cdv A outer s H E hr tk po =>
    (pSs_cons (pS_for po rfl (pI_rng2 T.n_range (pA_cons pE_int (pA_cons (pE_sub (pE_var 1) pE_int) pA_nil))) (pG_name (i := 3) sc_is_clear.nd) (pSs_one (pS_if (pT_chainI op_lt op_lt dc_dLt dc_dLt (pE_fld T.f_l (pE_var 0)) (pE_mul (pE_var 3) (pE_var 2)) (pE_fld T.f_letter (pE_var 0))) (pSs_one (pS_ret pE_bl)) pSs_nil)))
      (pSs_one (pS_ret pE_bl)))
theorem ok_least_period (T : Txt K mg c z) : FnOk P w K mg base (L2.CX P w) 4 z.a_least_period z.fd_least_period ["machine", "n"] (spI K 2 (G_least_period c)) := by
  exact FnOk.imp (ok_fn T.F_least_period sc_least_period fun cdv A outer s H E hr tk po =>
    (pSs_cons (pS_expr (pE_call (ok_checked_count T) (hr.mono (by decide)) T.g_checked_count T.F_checked_count.kp T.b_checked_count tk (pA_cons (pE_var 1) (pA_cons pE_int (pA_cons (pE_gint T.c_MOST_HANDS) pA_nil)))))
      (pSs_cons (pS_set (i := 2) sc_least_period.nd (pE_lstT (pA_cons (pE_fld T.f_gap (pE_var 0)) pA_nil)))
      (pSs_cons (pS_for po rfl (pI_rng2 T.n_range (pA_cons pE_int (pA_cons (pE_sub (pE_var 1) pE_int) pA_nil))) (pG_name (i := 3) sc_least_period.nd) (pSs_cons (pS_set (i := 4) sc_least_period.nd (pE_div (pE_sub (pE_add (pE_fld T.f_letter (pE_var 0)) (pE_var 3)) pE_int) (pE_var 3)))
      (pSs_one (pS_if (pT_gt (pE_var 4) (pE_fld T.f_gap (pE_var 0))) (pSs_one (pS_expr (pE_append (pE_var 2) (pA_cons (pE_var 4) pA_nil)))) pSs_nil))))
      (pSs_one (pS_ret (pE_min1 rfl T.n_min (pA_cons (pE_lc rfl sc_least_period.nd (pI_seq (pE_var 2)) (blkOk_by (N := ["machine", "n", "periods", "distance", "quotient", "period"]) (sc := defScope s_least_period) (own := [("period", 5)]) (by decide +kernel)) (kg_name (by decide)) mon_name (fun _ _ _ _ _ => (pg_name (i := 5) sc_least_period.nd rfl (by first | exact Or.inl rfl | exact Or.inr rfl))) (fun _ _ _ _ _ => (pTs_one (pT_val (pE_call (ok_is_clear T) (hr.mono (by decide)) T.g_is_clear T.F_is_clear.kp T.b_is_clear tk0 (pA_cons (pE_var 0) (pA_cons (pE_var 1) (pA_cons (pE_var 5) pA_nil))))))) (fun _ _ _ _ _ => (pE_var 5))) pA_nil)))))))) spI_pure
theorem ok_Machine___init__ (T : Txt K mg c z) : FnOk P w K mg base (L2.CX P w) 3 z.a_Machine___init__ z.fd_Machine___init__ ["self", "o", "l", "g"] (spI K 4 (G_Machine___init__ c)) := by
  exact ok_fn T.F_Machine___init__ sc_Machine___init__ fun cdv A outer s H E hr tk po =>
    (pSs_cons (pS_if (pT_not (pT_val (pE_call (ok_between T) (hr.mono (by decide)) T.g_between T.F_between.kp T.b_between tk (pA_cons (pE_var 1) (pA_cons pE_int (pA_cons (pE_gint T.c_GREATEST) pA_nil)))))) (pSs_one (pS_raise1 rfl tk T.x_InvalidMachine T.xk_InvalidMachine_part T.xi_InvalidMachine T.xt_InvalidMachine (ok_InvalidMachine___init__ T) (hr.mono (by decide)) T.b_InvalidMachine___init__ T.g_InvalidMachine (pA_cons pE_str pA_nil))) pSs_nil)
      (pSs_cons (pS_if (pT_not (pT_val (pE_call (ok_between T) (hr.mono (by decide)) T.g_between T.F_between.kp T.b_between tk (pA_cons (pE_var 2) (pA_cons pE_int (pA_cons (pE_gint T.c_GREATEST) pA_nil)))))) (pSs_one (pS_raise1 rfl tk T.x_InvalidMachine T.xk_InvalidMachine_part T.xi_InvalidMachine T.xt_InvalidMachine (ok_InvalidMachine___init__ T) (hr.mono (by decide)) T.b_InvalidMachine___init__ T.g_InvalidMachine (pA_cons pE_str pA_nil))) pSs_nil)
      (pSs_cons (pS_if (pT_not (pT_val (pE_call (ok_between T) (hr.mono (by decide)) T.g_between T.F_between.kp T.b_between tk (pA_cons (pE_var 3) (pA_cons pE_int (pA_cons (pE_gint T.c_GREATEST) pA_nil)))))) (pSs_one (pS_raise1 rfl tk T.x_InvalidMachine T.xk_InvalidMachine_part T.xi_InvalidMachine T.xt_InvalidMachine (ok_InvalidMachine___init__ T) (hr.mono (by decide)) T.b_InvalidMachine___init__ T.g_InvalidMachine (pA_cons pE_str pA_nil))) pSs_nil)
      (pSs_cons (pS_if (pT_eq hr (pE_add (pE_mul pE_int (pE_var 1)) (pE_var 2)) pE_int) (pSs_one (pS_raise1 rfl tk T.x_InvalidMachine T.xk_InvalidMachine_part T.xi_InvalidMachine T.xt_InvalidMachine (ok_InvalidMachine___init__ T) (hr.mono (by decide)) T.b_InvalidMachine___init__ T.g_InvalidMachine (pA_cons pE_str pA_nil))) pSs_nil)
      (pSs_cons (pS_fld T.f_o (pE_var 0) (pE_var 1))
      (pSs_cons (pS_fld T.f_l (pE_var 0) (pE_var 2))
      (pSs_cons (pS_fld T.f_g (pE_var 0) (pE_var 3))
      (pSs_cons (pS_fld T.f_letter (pE_var 0) (pE_add (pE_mul pE_int (pE_var 1)) (pE_var 2)))
      (pSs_one (pS_fld T.f_gap (pE_var 0) (pE_max rfl T.n_max (pA_cons (pE_var 1) (pA_cons (pE_var 3) pA_nil)))))))))))))
theorem ok__law_source (T : Txt K mg c z) : FnOk P w K mg base (L2.CX P w) 1 z.a__law_source z.fd__law_source ["_law_script"] (spI K 1 (G__law_source c)) := by
  exact ok_fn T.F__law_source sc__law_source fun cdv A outer s H E hr tk po =>
    (pSs_one (pS_ret (pE_lstT (pA_cons (pE_lc rfl sc__law_source.nd (pI_seq (weak_sl (pE_var 0) pO_none (pO_some pE_int))) (blkOk_by (N := ["_law_script", "_law_cell"]) (sc := defScope s__law_source) (own := [("_law_cell", 1)]) (by decide +kernel)) (kg_name (by decide)) mon_name (fun _ _ _ _ _ => (pg_name (i := 1) sc__law_source.nd rfl (by first | exact Or.inl rfl | exact Or.inr rfl))) (fun _ _ _ _ _ => pTs_nil) (fun _ _ _ _ _ => (pE_int1 T.n_int (pA_cons (pE_var 1) pA_nil)))) (pA_cons pE_int (pA_cons pE_int (pA_cons pE_int (pA_cons pE_int pA_nil))))))))
theorem ok__law_draw (T : Txt K mg c z) : FnOk P w K mg base (L2.CX P w) 1 z.a__law_draw z.fd__law_draw ["_law_source_here", "_law_limit"] (spI K 2 (G__law_draw c)) := by
  exact ok_fn T.F__law_draw sc__law_draw fun cdv A outer s H E hr tk po =>
    (pSs_cons (pS_augSL (pE_var 0) pE_int pE_int)
      (pSs_cons (pS_if (PW.pt (pW_and (pT_eq hr (pE_sub2 (pE_var 0) pE_int) pE_int) (pW_and1 (pT_lt (pE_sub2 (pE_var 0) pE_int) (pE_len T.n_len (pA_cons (pE_sub2 (pE_var 0) pE_int) pA_nil)))))) (pSs_cons (pS_set (i := 2) sc__law_draw.nd (pE_sub2 (pE_sub2 (pE_var 0) pE_int) (pE_sub2 (pE_var 0) pE_int)))
      (pSs_cons (pS_augSL (pE_var 0) pE_int pE_int)
      (pSs_one (pS_if (pT_ge (pE_var 2) (pE_pow pE_int pE_int)) (pSs_one (pS_put putl_list (ps_asg (pE_var 2) (pg_sub (pE_var 0) pE_int set_list)))) (pSs_one (pS_put putl_list (ps_asg (pE_mod (pE_int1 T.n_int (pA_cons (pE_add (pE_add (pE_mul (pE_sub2 (pE_var 0) pE_int) pE_int) (pE_mul (pE_var 2) pE_int)) pE_int) pA_nil)) pE_int) (pg_sub (pE_var 0) pE_int set_list)))))))) pSs_nil)
      (pSs_cons (pS_if (pT_gt (pE_sub2 (pE_var 0) pE_int) pE_int) (pSs_cons (pS_set (i := 3) sc__law_draw.nd (pE_mod (pE_int1 T.n_int (pA_cons (pE_sub2 (pE_var 0) pE_int) pA_nil)) (pE_var 1)))
      (pSs_cons (pS_put putl_list (ps_asg (pE_div (pE_sub2 (pE_var 0) pE_int) (pE_var 1)) (pg_sub (pE_var 0) pE_int set_list)))
      (pSs_one (pS_ret (pE_var 3))))) pSs_nil)
      (pSs_cons (pS_set (i := 4) sc__law_draw.nd (pE_mod (pE_int1 T.n_int (pA_cons (pE_mul (pE_add (pE_add (pE_sub2 (pE_var 0) pE_int) (pE_mul pE_int (pE_sub2 (pE_var 0) pE_int))) pE_int) pE_int) pA_nil)) pE_int))
      (pSs_cons (pS_set (i := 5) sc__law_draw.nd (pE_mod (pE_int1 T.n_int (pA_cons (pE_mul (pE_var 4) (pE_add (pE_div (pE_var 4) pE_int) pE_int)) pA_nil)) pE_int))
      (pSs_cons (pS_set (i := 6) sc__law_draw.nd (pE_mod (pE_int1 T.n_int (pA_cons (pE_mul (pE_var 5) (pE_add (pE_div (pE_var 5) pE_int) pE_int)) pA_nil)) pE_int))
      (pSs_one (pS_ret (pE_mod (pE_int1 T.n_int (pA_cons (pE_div (pE_var 6) pE_int) pA_nil)) (pE_var 1))))))))))
theorem ok__law_wide (T : Txt K mg c z) : FnOk P w K mg base (L2.CX P w) 2 z.a__law_wide z.fd__law_wide ["_law_source_here", "_law_limit"] (spI K 2 (G__law_wide c)) := by
  exact ok_fn T.F__law_wide sc__law_wide fun cdv A outer s H E hr tk po =>
    (pSs_cons (pS_if (pT_le (pE_var 1) pE_int) (pSs_one (pS_ret (pE_call (ok__law_draw T) (hr.mono (by decide)) T.g__law_draw T.F__law_draw.kp T.b__law_draw tk (pA_cons (pE_var 0) (pA_cons (pE_var 1) pA_nil))))) pSs_nil)
      (pSs_cons (pS_set (i := 2) sc__law_wide.nd (pE_call (ok__law_draw T) (hr.mono (by decide)) T.g__law_draw T.F__law_draw.kp T.b__law_draw tk (pA_cons (pE_var 0) (pA_cons pE_int pA_nil))))
      (pSs_cons (pS_set (i := 3) sc__law_wide.nd (pE_call (ok__law_draw T) (hr.mono (by decide)) T.g__law_draw T.F__law_draw.kp T.b__law_draw tk (pA_cons (pE_var 0) (pA_cons pE_int pA_nil))))
      (pSs_cons (pS_set (i := 4) sc__law_wide.nd (pE_call (ok__law_draw T) (hr.mono (by decide)) T.g__law_draw T.F__law_draw.kp T.b__law_draw tk (pA_cons (pE_var 0) (pA_cons pE_int pA_nil))))
      (pSs_one (pS_ret (pE_mod (pE_int1 T.n_int (pA_cons (pE_add (pE_mul (pE_add (pE_mul (pE_var 2) pE_int) (pE_var 3)) pE_int) (pE_var 4)) pA_nil)) (pE_var 1))))))))
theorem ok__law_numbers (T : Txt K mg c z) : FnOk P w K mg base (L2.CX P w) 3 z.a__law_numbers z.fd__law_numbers ["_law_source_here"] (spI K 1 (G__law_numbers c)) := by
  exact ok_fn T.F__law_numbers sc__law_numbers fun cdv A outer s H E hr tk po =>
    (pSs_cons (pS_set (i := 1) sc__law_numbers.nd (pE_sub2 (pE_lst (pA_cons pE_int (pA_cons pE_int (pA_cons pE_int (pA_cons pE_int (pA_cons (pE_add (pE_pow pE_int pE_int) pE_int) pA_nil)))))) (pE_call (ok__law_draw T) (hr.mono (by decide)) T.g__law_draw T.F__law_draw.kp T.b__law_draw tk (pA_cons (pE_var 0) (pA_cons pE_int pA_nil)))))
      (pSs_cons (pS_set (i := 2) sc__law_numbers.nd (pE_call (ok__law_draw T) (hr.mono (by decide)) T.g__law_draw T.F__law_draw.kp T.b__law_draw tk (pA_cons (pE_var 0) (pA_cons pE_int pA_nil))))
      (pSs_cons (pS_set (i := 3) sc__law_numbers.nd (pE_call (ok__law_wide T) (hr.mono (by decide)) T.g__law_wide T.F__law_wide.kp T.b__law_wide tk (pA_cons (pE_var 0) (pA_cons (pE_var 1) pA_nil))))
      (pSs_cons (pS_set (i := 4) sc__law_numbers.nd (pE_call (ok__law_wide T) (hr.mono (by decide)) T.g__law_wide T.F__law_wide.kp T.b__law_wide tk (pA_cons (pE_var 0) (pA_cons (pE_var 1) pA_nil))))
      (pSs_cons (pS_set (i := 5) sc__law_numbers.nd (pE_add pE_int (pE_call (ok__law_wide T) (hr.mono (by decide)) T.g__law_wide T.F__law_wide.kp T.b__law_wide tk (pA_cons (pE_var 0) (pA_cons (pE_sub (pE_var 1) pE_int) pA_nil)))))
      (pSs_cons (pS_if (pT_eq hr (pE_var 2) pE_int) (pSs_one (pS_set (i := 3) sc__law_numbers.nd pE_int)) pSs_nil)
      (pSs_cons (pS_if (pT_eq hr (pE_var 2) pE_int) (pSs_one (pS_set (i := 4) sc__law_numbers.nd pE_int)) pSs_nil)
      (pSs_cons (pS_if (PW.pt (pW_and (pT_eq hr (pE_var 2) pE_int) (pW_and1 (pT_gt (pE_var 1) pE_int)))) (pSs_one (pS_set (i := 5) sc__law_numbers.nd (pE_add pE_int (pE_mod (pE_int1 T.n_int (pA_cons (pE_var 5) pA_nil)) pE_int)))) pSs_nil)
      (pSs_cons (pS_if (pT_eq hr (pE_add (pE_mul pE_int (pE_var 3)) (pE_var 4)) pE_int) (pSs_one (pS_set (i := 4) sc__law_numbers.nd pE_int)) pSs_nil)
      (pSs_one (pS_ret (pE_tup (pA_cons (pE_var 3) (pA_cons (pE_var 4) (pA_cons (pE_var 5) pA_nil)))))))))))))))
theorem ok__law_integer (T : Txt K mg c z) : FnOk P w K mg base (L2.CX P w) 1 z.a__law_integer z.fd__law_integer ["_law_thing"] (spI K 1 (G__law_integer c)) := by
  exact ok_fn T.F__law_integer sc__law_integer fun cdv A outer s H E hr tk po =>
    (pSs_one (pS_ret (pE_and (pE_isi T.its T.n_isinstance (pA_cons (pE_var 0) (pA_cons (pE_ty T.n_int (by decide +kernel)) pA_nil))) (pE_one (pE_not (pE_isi T.its T.n_isinstance (pA_cons (pE_var 0) (pA_cons (pE_ty T.n_bool (by decide +kernel)) pA_nil))))))))
theorem ok__law_clear (T : Txt K mg c z) : FnOk P w K mg base (L2.CX P w) 1 z.a__law_clear z.fd__law_clear ["_law_n", "_law_period", "_law_numbers_here"] (spI K 3 (G__law_clear c)) := by
  exact ok_fn T.F__law_clear sc__law_clear fun cdv A outer s H E hr tk po =>
    (pSs_cons (pS_asg (pE_var 2) (pG_tup (pg_tup rfl (pGs_cons (pG_name (i := 3) sc__law_clear.nd) (pGs_cons (pG_name (i := 4) sc__law_clear.nd) (pGs_cons (pG_name (i := 5) sc__law_clear.nd) pGs_nil (pgs_cons (pG_name (i := 5) sc__law_clear.nd) pGs_nil)) (pgs_cons (pG_name (i := 4) sc__law_clear.nd) (pGs_cons (pG_name (i := 5) sc__law_clear.nd) pGs_nil (pgs_cons (pG_name (i := 5) sc__law_clear.nd) pGs_nil)))) (pgs_cons (pG_name (i := 3) sc__law_clear.nd) (pGs_cons (pG_name (i := 4) sc__law_clear.nd) (pGs_cons (pG_name (i := 5) sc__law_clear.nd) pGs_nil (pgs_cons (pG_name (i := 5) sc__law_clear.nd) pGs_nil)) (pgs_cons (pG_name (i := 4) sc__law_clear.nd) (pGs_cons (pG_name (i := 5) sc__law_clear.nd) pGs_nil (pgs_cons (pG_name (i := 5) sc__law_clear.nd) pGs_nil))))))) (gCn_len (gCn_len (gCn_len (fun _ _ _ h => gNl_len h))))) (ps_asg (pE_var 2) (pG_tup (pg_tup rfl (pGs_cons (pG_name (i := 3) sc__law_clear.nd) (pGs_cons (pG_name (i := 4) sc__law_clear.nd) (pGs_cons (pG_name (i := 5) sc__law_clear.nd) pGs_nil (pgs_cons (pG_name (i := 5) sc__law_clear.nd) pGs_nil)) (pgs_cons (pG_name (i := 4) sc__law_clear.nd) (pGs_cons (pG_name (i := 5) sc__law_clear.nd) pGs_nil (pgs_cons (pG_name (i := 5) sc__law_clear.nd) pGs_nil)))) (pgs_cons (pG_name (i := 3) sc__law_clear.nd) (pGs_cons (pG_name (i := 4) sc__law_clear.nd) (pGs_cons (pG_name (i := 5) sc__law_clear.nd) pGs_nil (pgs_cons (pG_name (i := 5) sc__law_clear.nd) pGs_nil)) (pgs_cons (pG_name (i := 4) sc__law_clear.nd) (pGs_cons (pG_name (i := 5) sc__law_clear.nd) pGs_nil (pgs_cons (pG_name (i := 5) sc__law_clear.nd) pGs_nil))))))) (gCn_len (gCn_len (gCn_len (fun _ _ _ h => gNl_len h)))))))
      (pSs_cons (pS_for po rfl (pI_rng2 T.n_range (pA_cons pE_int (pA_cons (pE_sub (pE_var 0) pE_int) pA_nil))) (pG_name (i := 6) sc__law_clear.nd) (pSs_one (pS_if (PW.pt (pW_and (pT_lt (pE_var 4) (pE_mul (pE_var 6) (pE_var 1))) (pW_and1 (pT_lt (pE_mul (pE_var 6) (pE_var 1)) (pE_add (pE_mul pE_int (pE_var 3)) (pE_var 4)))))) (pSs_one (pS_ret pE_bl)) pSs_nil)))
      (pSs_one (pS_ret pE_bl))))
theorem ok__law_reach (T : Txt K mg c z) : FnOk P w K mg base (L2.CX P w) 1 z.a__law_reach z.fd__law_reach ["_law_n", "_law_period", "_law_numbers_here"] (spI K 3 (G__law_reach c)) := by
  exact ok_fn T.F__law_reach sc__law_reach fun cdv A outer s H E hr tk po =>
    (pSs_cons (pS_asg (pE_var 2) (pG_tup (pg_tup rfl (pGs_cons (pG_name (i := 3) sc__law_reach.nd) (pGs_cons (pG_name (i := 4) sc__law_reach.nd) (pGs_cons (pG_name (i := 5) sc__law_reach.nd) pGs_nil (pgs_cons (pG_name (i := 5) sc__law_reach.nd) pGs_nil)) (pgs_cons (pG_name (i := 4) sc__law_reach.nd) (pGs_cons (pG_name (i := 5) sc__law_reach.nd) pGs_nil (pgs_cons (pG_name (i := 5) sc__law_reach.nd) pGs_nil)))) (pgs_cons (pG_name (i := 3) sc__law_reach.nd) (pGs_cons (pG_name (i := 4) sc__law_reach.nd) (pGs_cons (pG_name (i := 5) sc__law_reach.nd) pGs_nil (pgs_cons (pG_name (i := 5) sc__law_reach.nd) pGs_nil)) (pgs_cons (pG_name (i := 4) sc__law_reach.nd) (pGs_cons (pG_name (i := 5) sc__law_reach.nd) pGs_nil (pgs_cons (pG_name (i := 5) sc__law_reach.nd) pGs_nil))))))) (gCn_len (gCn_len (gCn_len (fun _ _ _ h => gNl_len h))))) (ps_asg (pE_var 2) (pG_tup (pg_tup rfl (pGs_cons (pG_name (i := 3) sc__law_reach.nd) (pGs_cons (pG_name (i := 4) sc__law_reach.nd) (pGs_cons (pG_name (i := 5) sc__law_reach.nd) pGs_nil (pgs_cons (pG_name (i := 5) sc__law_reach.nd) pGs_nil)) (pgs_cons (pG_name (i := 4) sc__law_reach.nd) (pGs_cons (pG_name (i := 5) sc__law_reach.nd) pGs_nil (pgs_cons (pG_name (i := 5) sc__law_reach.nd) pGs_nil)))) (pgs_cons (pG_name (i := 3) sc__law_reach.nd) (pGs_cons (pG_name (i := 4) sc__law_reach.nd) (pGs_cons (pG_name (i := 5) sc__law_reach.nd) pGs_nil (pgs_cons (pG_name (i := 5) sc__law_reach.nd) pGs_nil)) (pgs_cons (pG_name (i := 4) sc__law_reach.nd) (pGs_cons (pG_name (i := 5) sc__law_reach.nd) pGs_nil (pgs_cons (pG_name (i := 5) sc__law_reach.nd) pGs_nil))))))) (gCn_len (gCn_len (gCn_len (fun _ _ _ h => gNl_len h)))))))
      (pSs_cons (pS_set (i := 6) sc__law_reach.nd (pE_var 1))
      (pSs_cons (pS_for po rfl (pI_rng2 T.n_range (pA_cons pE_int (pA_cons (pE_sub (pE_var 0) pE_int) pA_nil))) (pG_name (i := 7) sc__law_reach.nd) (pSs_one (pS_if (PW.pt (pW_and (pT_lt (pE_var 4) (pE_mul (pE_var 7) (pE_var 1))) (pW_and1 (pT_lt (pE_mul (pE_var 7) (pE_var 1)) (pE_add (pE_mul pE_int (pE_var 3)) (pE_var 4)))))) (pSs_one (pS_set (i := 6) sc__law_reach.nd (pE_max rfl T.n_max (pA_cons (pE_var 6) (pA_cons (pE_add (pE_div (pE_sub (pE_add (pE_mul pE_int (pE_var 3)) (pE_var 4)) pE_int) (pE_var 7)) pE_int) pA_nil))))) pSs_nil)))
      (pSs_one (pS_ret (pE_var 6))))))
theorem ok__law_steep (T : Txt K mg c z) : FnOk P w K mg base (L2.CX P w) 2 z.a__law_steep z.fd__law_steep ["_law_source_here", "_law_numbers_here"] (spI K 2 (G__law_steep c)) := by
  exact ok_fn T.F__law_steep sc__law_steep fun cdv A outer s H E hr tk po =>
    (pSs_cons (pS_asg (pE_var 1) (pG_tup (pg_tup rfl (pGs_cons (pG_name (i := 2) sc__law_steep.nd) (pGs_cons (pG_name (i := 3) sc__law_steep.nd) (pGs_cons (pG_name (i := 4) sc__law_steep.nd) pGs_nil (pgs_cons (pG_name (i := 4) sc__law_steep.nd) pGs_nil)) (pgs_cons (pG_name (i := 3) sc__law_steep.nd) (pGs_cons (pG_name (i := 4) sc__law_steep.nd) pGs_nil (pgs_cons (pG_name (i := 4) sc__law_steep.nd) pGs_nil)))) (pgs_cons (pG_name (i := 2) sc__law_steep.nd) (pGs_cons (pG_name (i := 3) sc__law_steep.nd) (pGs_cons (pG_name (i := 4) sc__law_steep.nd) pGs_nil (pgs_cons (pG_name (i := 4) sc__law_steep.nd) pGs_nil)) (pgs_cons (pG_name (i := 3) sc__law_steep.nd) (pGs_cons (pG_name (i := 4) sc__law_steep.nd) pGs_nil (pgs_cons (pG_name (i := 4) sc__law_steep.nd) pGs_nil))))))) (gCn_len (gCn_len (gCn_len (fun _ _ _ h => gNl_len h))))) (ps_asg (pE_var 1) (pG_tup (pg_tup rfl (pGs_cons (pG_name (i := 2) sc__law_steep.nd) (pGs_cons (pG_name (i := 3) sc__law_steep.nd) (pGs_cons (pG_name (i := 4) sc__law_steep.nd) pGs_nil (pgs_cons (pG_name (i := 4) sc__law_steep.nd) pGs_nil)) (pgs_cons (pG_name (i := 3) sc__law_steep.nd) (pGs_cons (pG_name (i := 4) sc__law_steep.nd) pGs_nil (pgs_cons (pG_name (i := 4) sc__law_steep.nd) pGs_nil)))) (pgs_cons (pG_name (i := 2) sc__law_steep.nd) (pGs_cons (pG_name (i := 3) sc__law_steep.nd) (pGs_cons (pG_name (i := 4) sc__law_steep.nd) pGs_nil (pgs_cons (pG_name (i := 4) sc__law_steep.nd) pGs_nil)) (pgs_cons (pG_name (i := 3) sc__law_steep.nd) (pGs_cons (pG_name (i := 4) sc__law_steep.nd) pGs_nil (pgs_cons (pG_name (i := 4) sc__law_steep.nd) pGs_nil))))))) (gCn_len (gCn_len (gCn_len (fun _ _ _ h => gNl_len h)))))))
      (pSs_cons (pS_set (i := 5) sc__law_steep.nd (pE_call (ok__law_draw T) (hr.mono (by decide)) T.g__law_draw T.F__law_draw.kp T.b__law_draw tk (pA_cons (pE_var 0) (pA_cons pE_int pA_nil))))
      (pSs_cons (pS_if (pT_eq hr (pE_var 5) pE_int) (pSs_one (pS_ret (pE_tup (pA_cons (pE_add pE_int (pE_var 2)) (pA_cons (pE_mod (pE_int1 T.n_int (pA_cons (pE_var 3) pA_nil)) (pE_add pE_int (pE_var 2))) (pA_cons (pE_add pE_int (pE_mod (pE_int1 T.n_int (pA_cons (pE_var 4) pA_nil)) pE_int)) pA_nil)))))) pSs_nil)
      (pSs_cons (pS_if (pT_eq hr (pE_var 5) pE_int) (pSs_one (pS_ret (pE_tup (pA_cons (pE_div (pE_var 2) pE_int) (pA_cons (pE_var 3) (pA_cons (pE_add pE_int (pE_mod (pE_int1 T.n_int (pA_cons (pE_var 4) pA_nil)) pE_int)) pA_nil)))))) pSs_nil)
      (pSs_cons (pS_if (PW.pt (pW_and (pT_eq hr (pE_var 5) pE_int) (pW_and1 (pT_lt (pE_add (pE_var 3) (pE_mul pE_int (pE_var 4))) (pE_pow pE_int pE_int))))) (pSs_one (pS_ret (pE_tup (pA_cons (pE_var 2) (pA_cons (pE_add (pE_var 3) (pE_mul pE_int (pE_var 4))) (pA_cons (pE_var 4) pA_nil)))))) pSs_nil)
      (pSs_cons (pS_if (pT_gt (pE_add (pE_mul pE_int (pE_var 2)) (pE_var 3)) pE_int) (pSs_one (pS_ret (pE_var 1))) pSs_nil)
      (pSs_one (pS_ret (pE_tup (pA_cons (pE_var 2) (pA_cons pE_int (pA_cons (pE_var 4) pA_nil))))))))))))
theorem ok_law (T : Txt K mg c z) : FnOk P w K mg base (L2.CX P w) 5 z.a_law z.fd_law ["_law_script"] (spI K 1 (G_law c)) := by
  exact ok_fn T.F_law sc_law fun cdv A outer s H E hr tk po =>
    (pSs_cons (pS_set (i := 1) sc_law.nd (pE_call (ok__law_source T) (hr.mono (by decide)) T.g__law_source T.F__law_source.kp T.b__law_source tk (pA_cons (pE_var 0) pA_nil)))
      (pSs_cons (pS_asg (pE_call (ok__law_steep T) (hr.mono (by decide)) T.g__law_steep T.F__law_steep.kp T.b__law_steep tk (pA_cons (pE_var 1) (pA_cons (pE_call (ok__law_numbers T) (hr.mono (by decide)) T.g__law_numbers T.F__law_numbers.kp T.b__law_numbers tk (pA_cons (pE_var 1) pA_nil)) pA_nil))) (pG_tup (pg_tup rfl (pGs_cons (pG_name (i := 2) sc_law.nd) (pGs_cons (pG_name (i := 3) sc_law.nd) (pGs_cons (pG_name (i := 4) sc_law.nd) pGs_nil (pgs_cons (pG_name (i := 4) sc_law.nd) pGs_nil)) (pgs_cons (pG_name (i := 3) sc_law.nd) (pGs_cons (pG_name (i := 4) sc_law.nd) pGs_nil (pgs_cons (pG_name (i := 4) sc_law.nd) pGs_nil)))) (pgs_cons (pG_name (i := 2) sc_law.nd) (pGs_cons (pG_name (i := 3) sc_law.nd) (pGs_cons (pG_name (i := 4) sc_law.nd) pGs_nil (pgs_cons (pG_name (i := 4) sc_law.nd) pGs_nil)) (pgs_cons (pG_name (i := 3) sc_law.nd) (pGs_cons (pG_name (i := 4) sc_law.nd) pGs_nil (pgs_cons (pG_name (i := 4) sc_law.nd) pGs_nil))))))) (gCn_len (gCn_len (gCn_len (fun _ _ _ h => gNl_len h))))) (ps_asg (pE_call (ok__law_steep T) (hr.mono (by decide)) T.g__law_steep T.F__law_steep.kp T.b__law_steep tk (pA_cons (pE_var 1) (pA_cons (pE_call (ok__law_numbers T) (hr.mono (by decide)) T.g__law_numbers T.F__law_numbers.kp T.b__law_numbers tk (pA_cons (pE_var 1) pA_nil)) pA_nil))) (pG_tup (pg_tup rfl (pGs_cons (pG_name (i := 2) sc_law.nd) (pGs_cons (pG_name (i := 3) sc_law.nd) (pGs_cons (pG_name (i := 4) sc_law.nd) pGs_nil (pgs_cons (pG_name (i := 4) sc_law.nd) pGs_nil)) (pgs_cons (pG_name (i := 3) sc_law.nd) (pGs_cons (pG_name (i := 4) sc_law.nd) pGs_nil (pgs_cons (pG_name (i := 4) sc_law.nd) pGs_nil)))) (pgs_cons (pG_name (i := 2) sc_law.nd) (pGs_cons (pG_name (i := 3) sc_law.nd) (pGs_cons (pG_name (i := 4) sc_law.nd) pGs_nil (pgs_cons (pG_name (i := 4) sc_law.nd) pGs_nil)) (pgs_cons (pG_name (i := 3) sc_law.nd) (pGs_cons (pG_name (i := 4) sc_law.nd) pGs_nil (pgs_cons (pG_name (i := 4) sc_law.nd) pGs_nil))))))) (gCn_len (gCn_len (gCn_len (fun _ _ _ h => gNl_len h)))))))
      (pSs_cons (pS_set (i := 2) sc_law.nd (pE_min rfl T.n_min (pA_cons (pE_var 2) (pA_cons (pE_pow pE_int pE_int) pA_nil))))
      (pSs_cons (pS_if (pT_eq hr (pE_add (pE_mul pE_int (pE_var 2)) (pE_var 3)) pE_int) (pSs_one (pS_set (i := 3) sc_law.nd pE_int)) pSs_nil)
      (pSs_cons (pS_set (i := 5) sc_law.nd (pE_tup (pA_cons (pE_var 2) (pA_cons (pE_var 3) (pA_cons (pE_var 4) pA_nil)))))
      (pSs_cons (pS_set (i := 6) sc_law.nd (pE_make T.mk_Machine (ok_Machine___init__ T) (hr.mono (by decide)) T.g_Machine T.b_Machine___init__ tk (pA_cons (pE_var 2) (pA_cons (pE_var 3) (pA_cons (pE_var 4) pA_nil)))))
      (pSs_cons (pS_set (i := 7) sc_law.nd (pE_sub2 (pE_lst (pA_cons pE_int (pA_cons pE_int (pA_cons pE_int (pA_cons pE_int (pA_cons pE_int (pA_cons pE_int (pA_cons pE_int pA_nil)))))))) (pE_call (ok__law_draw T) (hr.mono (by decide)) T.g__law_draw T.F__law_draw.kp T.b__law_draw tk (pA_cons (pE_var 1) (pA_cons pE_int pA_nil)))))
      (pSs_cons (pS_if (pT_eq hr (pE_call (ok__law_draw T) (hr.mono (by decide)) T.g__law_draw T.F__law_draw.kp T.b__law_draw tk (pA_cons (pE_var 1) (pA_cons pE_int pA_nil))) pE_int) (pSs_one (pS_set (i := 7) sc_law.nd pE_int)) pSs_nil)
      (pSs_cons (pS_set (i := 8) sc_law.nd (pE_call (ok_least_period T) (hr.mono (by decide)) T.g_least_period T.F_least_period.kp T.b_least_period tk (pA_cons (pE_var 6) (pA_cons (pE_var 7) pA_nil))))
      (pSs_cons (pS_set (i := 9) sc_law.nd (pE_max rfl T.n_max (pA_cons (pE_var 2) (pA_cons (pE_var 4) pA_nil))))
      (pSs_cons (pS_if (PW.pt (pW_or (pT_not (pT_val (pE_call (ok__law_integer T) (hr.mono (by decide)) T.g__law_integer T.F__law_integer.kp T.b__law_integer tk (pA_cons (pE_var 8) pA_nil)))) (pW_or (pT_lt (pE_var 8) (pE_var 9)) (pW_or1 (pT_not (pT_val (pE_call (ok__law_clear T) (hr.mono (by decide)) T.g__law_clear T.F__law_clear.kp T.b__law_clear tk (pA_cons (pE_var 7) (pA_cons (pE_var 8) (pA_cons (pE_var 5) pA_nil)))))))))) (pSs_one (pS_ret pE_bl)) pSs_nil)
      (pSs_cons (pS_set (i := 10) sc_law.nd (pE_var 9))
      (pSs_cons (pS_for po rfl (pI_rng1 T.n_range (pA_cons (pE_mul (pE_var 7) (pE_var 7)) pA_nil)) (pG_name (i := 11) sc_law.nd) (pSs_cons (pS_set (i := 12) sc_law.nd (pE_call (ok__law_reach T) (hr.mono (by decide)) T.g__law_reach T.F__law_reach.kp T.b__law_reach tk (pA_cons (pE_var 7) (pA_cons (pE_var 10) (pA_cons (pE_var 5) pA_nil)))))
      (pSs_cons (pS_if (pT_eq hr (pE_var 12) (pE_var 10)) (pSs_one pS_break) pSs_nil)
      (pSs_one (pS_set (i := 10) sc_law.nd (pE_var 12))))))
      (pSs_one (pS_ret (pE_eq hr (pE_var 10) (pE_var 8)))))))))))))))))
end

def spLaw (K : PySem.W.Frag) : Sp := fun vs H Q E => ∀ c : Cl, OkC c → spI K 1 (G_law c) vs H Q E
theorem cx_none {P : Program} {w : World} {outer : List Env} {H : Hp} {s : Shared} {e : Value} {s' : Shared} (h : L2.CX P w outer H s (fun _ _ _ => False) e s') : False := by
  obtain ⟨_, _, _, _, _, _, _, _, _, _, _, _, z⟩ := h
  exact z
theorem law_start {K : PySem.W.Frag} {H : Hp} {a : Addr} {ns : List Int} (hl : ns.length ≤ 63) (hb : ∀ z ∈ ns, Builtin.Int.intBits z ≤ 1048576) (hS : SqL K H a (ns.map V.int)) : spLaw K [.ref a] H (fun v _ => v = .bl true) fun _ _ _ => False := by
  intro c hc
  obtain ⟨s', e⟩ := law_true c hc ns hl hb
  refine ⟨[], [], [.rdl (ns.map D.int)], ⟨rfl, fun i j a h => (by simp at h), fun a l => (by cases l), fun n o h => (by simp at h)⟩, .cons ?_ .nil, rfl, ?_⟩
  · simp only [RelD]
    refine ⟨a, ns.map V.int, rfl, ?_, RelDs.ints ns⟩
    rcases hS with h | h
    · exact .inr ⟨h, fun z => by cases z⟩
    · exact .inl h
  · rw [e]
    exact fun mu' H' v _ _ r => rel_bl.mp r
theorem all_mk {l : PySem.W.OpenLaw} {w : World} {K : PySem.W.Frag} {h : Heap} {mg : Str → Option Value} {fa : Addr} (X : K.In h) (G : h.Ns mainGlobals mg) (hfa : mg "law" = some (.ref fa))
    {f0 : Addr} {od0 an0 : Option Addr} {sl0 : Array (Option Value)} {oc0 kV0 dc0 pm0 cd0 ct0 : Value}
    {f1 : Addr} {od1 an1 : Option Addr} {sl1 : Array (Option Value)} {oc1 kV1 dc1 pm1 cd1 ct1 : Value}
    {f2 : Addr} {od2 an2 : Option Addr} {sl2 : Array (Option Value)} {oc2 kV2 dc2 pm2 cd2 ct2 : Value}
    {f3 : Addr} {od3 an3 : Option Addr} {sl3 : Array (Option Value)} {oc3 kV3 dc3 pm3 cd3 ct3 : Value}
    {f4 : Addr} {od4 an4 : Option Addr} {sl4 : Array (Option Value)} {oc4 kV4 dc4 pm4 cd4 ct4 : Value}
    {f5 : Addr} {od5 an5 : Option Addr} {sl5 : Array (Option Value)} {oc5 kV5 dc5 pm5 cd5 ct5 : Value}
    {f6 : Addr} {od6 an6 : Option Addr} {sl6 : Array (Option Value)} {oc6 kV6 dc6 pm6 cd6 ct6 : Value}
    {f7 : Addr} {od7 an7 : Option Addr} {sl7 : Array (Option Value)} {oc7 kV7 dc7 pm7 cd7 ct7 : Value}
    {f8 : Addr} {od8 an8 : Option Addr} {sl8 : Array (Option Value)} {oc8 kV8 dc8 pm8 cd8 ct8 : Value}
    {f9 : Addr} {od9 an9 : Option Addr} {sl9 : Array (Option Value)} {oc9 kV9 dc9 pm9 cd9 ct9 : Value}
    {f10 : Addr} {od10 an10 : Option Addr} {sl10 : Array (Option Value)} {oc10 kV10 dc10 pm10 cd10 ct10 : Value}
    {f11 : Addr} {od11 an11 : Option Addr} {sl11 : Array (Option Value)} {oc11 kV11 dc11 pm11 cd11 ct11 : Value}
    {f12 : Addr} {od12 an12 : Option Addr} {sl12 : Array (Option Value)} {oc12 kV12 dc12 pm12 cd12 ct12 : Value}
    {f13 : Addr} {od13 an13 : Option Addr} {sl13 : Array (Option Value)} {oc13 kV13 dc13 pm13 cd13 ct13 : Value}
    {f14 : Addr} {od14 an14 : Option Addr} {sl14 : Array (Option Value)} {oc14 kV14 dc14 pm14 cd14 ct14 : Value}
    {f15 : Addr} {od15 an15 : Option Addr} {sl15 : Array (Option Value)} {oc15 kV15 dc15 pm15 cd15 ct15 : Value}
    {CMachine : Addr}
    {CInvalidCount : Addr}
    {CInvalidMachine : Addr}
    {CTellError : Addr}
    {tk_GREATEST : Tok}
    {tk_MOST_HANDS : Tok}
    (gMachine : PySem.W.nsIn K mainGlobals "Machine" = some (some (.ref CMachine)))
    (gInvalidCount : PySem.W.nsIn K mainGlobals "InvalidCount" = some (some (.ref CInvalidCount)))
    (gInvalidMachine : PySem.W.nsIn K mainGlobals "InvalidMachine" = some (some (.ref CInvalidMachine)))
    (gTellError : PySem.W.nsIn K mainGlobals "TellError" = some (some (.ref CTellError)))
    (a0 : PySem.W.findIn K (.ref CInvalidMachine) "__init__" = some (some (.ref f0)))
    (l0 : K.lookup f0 = some ⟨oc0, od0, .func (PySem.W.fnOf "__init__" "InvalidMachine.__init__" (defArgs s_InvalidMachine___init__) (defBody s_InvalidMachine___init__) (defScope s_InvalidMachine___init__) .none kV0 dc0 pm0 an0 cd0 ct0), sl0⟩)
    (c0 : PySem.W.codeIn K cd0 "InvalidMachine.__init__" = true)
    (k0 : PySem.W.keepIn K (.ref f0) = true)
    (a1 : PySem.W.nsIn K mainGlobals "is_integer" = some (some (.ref f1)))
    (l1 : K.lookup f1 = some ⟨oc1, od1, .func (PySem.W.fnOf "is_integer" "is_integer" (defArgs s_is_integer) (defBody s_is_integer) (defScope s_is_integer) .none kV1 dc1 pm1 an1 cd1 ct1), sl1⟩)
    (c1 : PySem.W.codeIn K cd1 "is_integer" = true)
    (k1 : PySem.W.keepIn K (.ref f1) = true)
    (a2 : PySem.W.nsIn K mainGlobals "between" = some (some (.ref f2)))
    (l2 : K.lookup f2 = some ⟨oc2, od2, .func (PySem.W.fnOf "between" "between" (defArgs s_between) (defBody s_between) (defScope s_between) .none kV2 dc2 pm2 an2 cd2 ct2), sl2⟩)
    (c2 : PySem.W.codeIn K cd2 "between" = true)
    (k2 : PySem.W.keepIn K (.ref f2) = true)
    (a3 : PySem.W.nsIn K mainGlobals "checked_count" = some (some (.ref f3)))
    (l3 : K.lookup f3 = some ⟨oc3, od3, .func (PySem.W.fnOf "checked_count" "checked_count" (defArgs s_checked_count) (defBody s_checked_count) (defScope s_checked_count) .none kV3 dc3 pm3 an3 cd3 ct3), sl3⟩)
    (c3 : PySem.W.codeIn K cd3 "checked_count" = true)
    (k3 : PySem.W.keepIn K (.ref f3) = true)
    (a4 : PySem.W.nsIn K mainGlobals "is_clear" = some (some (.ref f4)))
    (l4 : K.lookup f4 = some ⟨oc4, od4, .func (PySem.W.fnOf "is_clear" "is_clear" (defArgs s_is_clear) (defBody s_is_clear) (defScope s_is_clear) .none kV4 dc4 pm4 an4 cd4 ct4), sl4⟩)
    (c4 : PySem.W.codeIn K cd4 "is_clear" = true)
    (k4 : PySem.W.keepIn K (.ref f4) = true)
    (a5 : PySem.W.nsIn K mainGlobals "least_period" = some (some (.ref f5)))
    (l5 : K.lookup f5 = some ⟨oc5, od5, .func (PySem.W.fnOf "least_period" "least_period" (defArgs s_least_period) (defBody s_least_period) (defScope s_least_period) .none kV5 dc5 pm5 an5 cd5 ct5), sl5⟩)
    (c5 : PySem.W.codeIn K cd5 "least_period" = true)
    (k5 : PySem.W.keepIn K (.ref f5) = true)
    (a6 : PySem.W.findIn K (.ref CMachine) "__init__" = some (some (.ref f6)))
    (l6 : K.lookup f6 = some ⟨oc6, od6, .func (PySem.W.fnOf "__init__" "Machine.__init__" (defArgs s_Machine___init__) (defBody s_Machine___init__) (defScope s_Machine___init__) .none kV6 dc6 pm6 an6 cd6 ct6), sl6⟩)
    (c6 : PySem.W.codeIn K cd6 "Machine.__init__" = true)
    (k6 : PySem.W.keepIn K (.ref f6) = true)
    (a7 : PySem.W.nsIn K mainGlobals "_law_source" = some (some (.ref f7)))
    (l7 : K.lookup f7 = some ⟨oc7, od7, .func (PySem.W.fnOf "_law_source" "_law_source" (defArgs s__law_source) (defBody s__law_source) (defScope s__law_source) .none kV7 dc7 pm7 an7 cd7 ct7), sl7⟩)
    (c7 : PySem.W.codeIn K cd7 "_law_source" = true)
    (k7 : PySem.W.keepIn K (.ref f7) = true)
    (a8 : PySem.W.nsIn K mainGlobals "_law_draw" = some (some (.ref f8)))
    (l8 : K.lookup f8 = some ⟨oc8, od8, .func (PySem.W.fnOf "_law_draw" "_law_draw" (defArgs s__law_draw) (defBody s__law_draw) (defScope s__law_draw) .none kV8 dc8 pm8 an8 cd8 ct8), sl8⟩)
    (c8 : PySem.W.codeIn K cd8 "_law_draw" = true)
    (k8 : PySem.W.keepIn K (.ref f8) = true)
    (a9 : PySem.W.nsIn K mainGlobals "_law_wide" = some (some (.ref f9)))
    (l9 : K.lookup f9 = some ⟨oc9, od9, .func (PySem.W.fnOf "_law_wide" "_law_wide" (defArgs s__law_wide) (defBody s__law_wide) (defScope s__law_wide) .none kV9 dc9 pm9 an9 cd9 ct9), sl9⟩)
    (c9 : PySem.W.codeIn K cd9 "_law_wide" = true)
    (k9 : PySem.W.keepIn K (.ref f9) = true)
    (a10 : PySem.W.nsIn K mainGlobals "_law_numbers" = some (some (.ref f10)))
    (l10 : K.lookup f10 = some ⟨oc10, od10, .func (PySem.W.fnOf "_law_numbers" "_law_numbers" (defArgs s__law_numbers) (defBody s__law_numbers) (defScope s__law_numbers) .none kV10 dc10 pm10 an10 cd10 ct10), sl10⟩)
    (c10 : PySem.W.codeIn K cd10 "_law_numbers" = true)
    (k10 : PySem.W.keepIn K (.ref f10) = true)
    (a11 : PySem.W.nsIn K mainGlobals "_law_integer" = some (some (.ref f11)))
    (l11 : K.lookup f11 = some ⟨oc11, od11, .func (PySem.W.fnOf "_law_integer" "_law_integer" (defArgs s__law_integer) (defBody s__law_integer) (defScope s__law_integer) .none kV11 dc11 pm11 an11 cd11 ct11), sl11⟩)
    (c11 : PySem.W.codeIn K cd11 "_law_integer" = true)
    (k11 : PySem.W.keepIn K (.ref f11) = true)
    (a12 : PySem.W.nsIn K mainGlobals "_law_clear" = some (some (.ref f12)))
    (l12 : K.lookup f12 = some ⟨oc12, od12, .func (PySem.W.fnOf "_law_clear" "_law_clear" (defArgs s__law_clear) (defBody s__law_clear) (defScope s__law_clear) .none kV12 dc12 pm12 an12 cd12 ct12), sl12⟩)
    (c12 : PySem.W.codeIn K cd12 "_law_clear" = true)
    (k12 : PySem.W.keepIn K (.ref f12) = true)
    (a13 : PySem.W.nsIn K mainGlobals "_law_reach" = some (some (.ref f13)))
    (l13 : K.lookup f13 = some ⟨oc13, od13, .func (PySem.W.fnOf "_law_reach" "_law_reach" (defArgs s__law_reach) (defBody s__law_reach) (defScope s__law_reach) .none kV13 dc13 pm13 an13 cd13 ct13), sl13⟩)
    (c13 : PySem.W.codeIn K cd13 "_law_reach" = true)
    (k13 : PySem.W.keepIn K (.ref f13) = true)
    (a14 : PySem.W.nsIn K mainGlobals "_law_steep" = some (some (.ref f14)))
    (l14 : K.lookup f14 = some ⟨oc14, od14, .func (PySem.W.fnOf "_law_steep" "_law_steep" (defArgs s__law_steep) (defBody s__law_steep) (defScope s__law_steep) .none kV14 dc14 pm14 an14 cd14 ct14), sl14⟩)
    (c14 : PySem.W.codeIn K cd14 "_law_steep" = true)
    (k14 : PySem.W.keepIn K (.ref f14) = true)
    (a15 : PySem.W.nsIn K mainGlobals "law" = some (some (.ref f15)))
    (l15 : K.lookup f15 = some ⟨oc15, od15, .func (PySem.W.fnOf "law" "law" (defArgs s_law) (defBody s_law) (defScope s_law) .none kV15 dc15 pm15 an15 cd15 ct15), sl15⟩)
    (c15 : PySem.W.codeIn K cd15 "law" = true)
    (k15 : PySem.W.keepIn K (.ref f15) = true)
    (n_bool : PySem.W.nsIn K mainGlobals "bool" = some none)
    (n_int : PySem.W.nsIn K mainGlobals "int" = some none)
    (n_isinstance : PySem.W.nsIn K mainGlobals "isinstance" = some none)
    (n_len : PySem.W.nsIn K mainGlobals "len" = some none)
    (n_max : PySem.W.nsIn K mainGlobals "max" = some none)
    (n_min : PySem.W.nsIn K mainGlobals "min" = some none)
    (n_range : PySem.W.nsIn K mainGlobals "range" = some none)
    (cc_GREATEST : PySem.W.nsIn K mainGlobals "GREATEST" = some (some (.int 1000000000 tk_GREATEST)))
    (cc_MOST_HANDS : PySem.W.nsIn K mainGlobals "MOST_HANDS" = some (some (.int 40 tk_MOST_HANDS)))
    (mmMachine : PySem.W.makesIn K CMachine = true)
    (fnMachine : PySem.W.isFn K (.ref f6) = true)
    (kpMachine : PySem.W.keepIn K (.ref CMachine) = true)
    (pgMachine : PySem.W.plainGet K CMachine Str.empty = true)
    (hdMachine : PySem.W.hasDictIn K CMachine = true)
    (poMachine : PySem.W.plainOver K CMachine = true)
    (saMachine : PySem.W.findIn K (.ref CMachine) "__setattr__" = some (some (.builtin "object.__setattr__")))
    (haMachine : PySem.W.findIn K (.ref CMachine) "__class__" = some (some (.builtin "object.__class__")))
    (hnMachine : PySem.W.specialIn K (.builtin "object.__class__") "__get__" = some (some (.builtin "getset_descriptor.__get__")))
    (htMachine : PySem.W.takesIn K (.builtin "object.__class__") = some true)
    (hmMachine : PySem.W.mroIn K CMachine (.type "object") = some true)
    (nyMachine : nyB K CMachine = true)
    (ynMachine : ynB K CMachine = true)
    (nfMachine : nfB K CMachine = true)
    (na_Machine_g : PySem.W.findIn K (.ref CMachine) "g" = some none)
    (na_Machine_gap : PySem.W.findIn K (.ref CMachine) "gap" = some none)
    (na_Machine_l : PySem.W.findIn K (.ref CMachine) "l" = some none)
    (na_Machine_letter : PySem.W.findIn K (.ref CMachine) "letter" = some none)
    (na_Machine_o : PySem.W.findIn K (.ref CMachine) "o" = some none)
    (nxdInvalidCount : PySem.W.hasDictIn K CInvalidCount = true)
    (nxuInvalidCount : PySem.W.subIn K (.ref CInvalidCount) (.type "BaseException") = some true)
    (nxtInvalidCount : PySem.W.typeIn K (.ref CInvalidCount) = some (.type "type"))
    (nxkInvalidCount : PySem.W.keepIn K (.ref CInvalidCount) = true)
    (nxeInvalidCount : PySem.W.excIn K CInvalidCount exTail "Exception.__new__" = true)
    (nxdInvalidMachine : PySem.W.hasDictIn K CInvalidMachine = true)
    (nxuInvalidMachine : PySem.W.subIn K (.ref CInvalidMachine) (.type "BaseException") = some true)
    (nxtInvalidMachine : PySem.W.typeIn K (.ref CInvalidMachine) = some (.type "type"))
    (nxkInvalidMachine : PySem.W.keepIn K (.ref CInvalidMachine) = true)
    (nxiInvalidMachine : PySem.W.excInitIn K CInvalidMachine exTail "Exception.__new__" = true)
    (nxoInvalidMachine : PySem.W.excOver K CInvalidMachine exTail = true)
    (nxaInvalidMachine : PySem.W.findIn K (.ref CInvalidMachine) "__setattr__" = some (some (.builtin "object.__setattr__")))
    (nxyInvalidMachine : PySem.W.typeIn K (.ref f0) = some (.type "function"))
    (nxz_InvalidMachine_part : PySem.W.takerIn K CInvalidMachine "part" = some none) :
    ∃ fd : FuncData, (∀ (s : Shared) (v : Value), BindsTo s fd ⟨[v], []⟩ [("_law_script", v)]) ∧ ∀ base : Heap, K.In base → base.Ns mainGlobals mg → FnOk l.prog w K mg base (L2.CX l.prog w) 5 fa fd ["_law_script"] (spLaw K) := by
  have e := hfa.symm.trans (PySem.W.mg_of X G a15)
  cases e
  have F0 := fun_mk (st := s_InvalidMachine___init__) l0 c0 k0
  have b0 := F0.binds (ps := ["self", "part"]) fun _ _ _ _ _ _ us hl => match us, hl with | [_, _], _ => rfl
  have F1 := fun_mk (st := s_is_integer) l1 c1 k1
  have b1 := F1.binds (ps := ["thing"]) fun _ _ _ _ _ _ us hl => match us, hl with | [_], _ => rfl
  have F2 := fun_mk (st := s_between) l2 c2 k2
  have b2 := F2.binds (ps := ["thing", "low", "high"]) fun _ _ _ _ _ _ us hl => match us, hl with | [_, _, _], _ => rfl
  have F3 := fun_mk (st := s_checked_count) l3 c3 k3
  have b3 := F3.binds (ps := ["n", "low", "high"]) fun _ _ _ _ _ _ us hl => match us, hl with | [_, _, _], _ => rfl
  have F4 := fun_mk (st := s_is_clear) l4 c4 k4
  have b4 := F4.binds (ps := ["machine", "n", "period"]) fun _ _ _ _ _ _ us hl => match us, hl with | [_, _, _], _ => rfl
  have F5 := fun_mk (st := s_least_period) l5 c5 k5
  have b5 := F5.binds (ps := ["machine", "n"]) fun _ _ _ _ _ _ us hl => match us, hl with | [_, _], _ => rfl
  have F6 := fun_mk (st := s_Machine___init__) l6 c6 k6
  have b6 := F6.binds (ps := ["self", "o", "l", "g"]) fun _ _ _ _ _ _ us hl => match us, hl with | [_, _, _, _], _ => rfl
  have F7 := fun_mk (st := s__law_source) l7 c7 k7
  have b7 := F7.binds (ps := ["_law_script"]) fun _ _ _ _ _ _ us hl => match us, hl with | [_], _ => rfl
  have F8 := fun_mk (st := s__law_draw) l8 c8 k8
  have b8 := F8.binds (ps := ["_law_source_here", "_law_limit"]) fun _ _ _ _ _ _ us hl => match us, hl with | [_, _], _ => rfl
  have F9 := fun_mk (st := s__law_wide) l9 c9 k9
  have b9 := F9.binds (ps := ["_law_source_here", "_law_limit"]) fun _ _ _ _ _ _ us hl => match us, hl with | [_, _], _ => rfl
  have F10 := fun_mk (st := s__law_numbers) l10 c10 k10
  have b10 := F10.binds (ps := ["_law_source_here"]) fun _ _ _ _ _ _ us hl => match us, hl with | [_], _ => rfl
  have F11 := fun_mk (st := s__law_integer) l11 c11 k11
  have b11 := F11.binds (ps := ["_law_thing"]) fun _ _ _ _ _ _ us hl => match us, hl with | [_], _ => rfl
  have F12 := fun_mk (st := s__law_clear) l12 c12 k12
  have b12 := F12.binds (ps := ["_law_n", "_law_period", "_law_numbers_here"]) fun _ _ _ _ _ _ us hl => match us, hl with | [_, _, _], _ => rfl
  have F13 := fun_mk (st := s__law_reach) l13 c13 k13
  have b13 := F13.binds (ps := ["_law_n", "_law_period", "_law_numbers_here"]) fun _ _ _ _ _ _ us hl => match us, hl with | [_, _, _], _ => rfl
  have F14 := fun_mk (st := s__law_steep) l14 c14 k14
  have b14 := F14.binds (ps := ["_law_source_here", "_law_numbers_here"]) fun _ _ _ _ _ _ us hl => match us, hl with | [_, _], _ => rfl
  have F15 := fun_mk (st := s_law) l15 c15 k15
  have b15 := F15.binds (ps := ["_law_script"]) fun _ _ _ _ _ _ us hl => match us, hl with | [_], _ => rfl
  have clMachine : Cls K CMachine := ⟨pgMachine, hdMachine, poMachine, saMachine⟩
  have itMachine : InsTxt K CMachine := ⟨clMachine, haMachine, hnMachine, htMachine, hmMachine, nyMachine, ynMachine, nfMachine⟩
  have T : Txt K mg ⟨CMachine, 0, 0, CTellError, CInvalidMachine, CInvalidCount, 0, 0, 0, 0, 0, 0, 0, 0, 0, 0, [CMachine]⟩ ⟨f0, PySem.W.fnOf "__init__" "InvalidMachine.__init__" (defArgs s_InvalidMachine___init__) (defBody s_InvalidMachine___init__) (defScope s_InvalidMachine___init__) .none kV0 dc0 pm0 an0 cd0 ct0, f1, PySem.W.fnOf "is_integer" "is_integer" (defArgs s_is_integer) (defBody s_is_integer) (defScope s_is_integer) .none kV1 dc1 pm1 an1 cd1 ct1, f2, PySem.W.fnOf "between" "between" (defArgs s_between) (defBody s_between) (defScope s_between) .none kV2 dc2 pm2 an2 cd2 ct2, f3, PySem.W.fnOf "checked_count" "checked_count" (defArgs s_checked_count) (defBody s_checked_count) (defScope s_checked_count) .none kV3 dc3 pm3 an3 cd3 ct3, f4, PySem.W.fnOf "is_clear" "is_clear" (defArgs s_is_clear) (defBody s_is_clear) (defScope s_is_clear) .none kV4 dc4 pm4 an4 cd4 ct4, f5, PySem.W.fnOf "least_period" "least_period" (defArgs s_least_period) (defBody s_least_period) (defScope s_least_period) .none kV5 dc5 pm5 an5 cd5 ct5, f6, PySem.W.fnOf "__init__" "Machine.__init__" (defArgs s_Machine___init__) (defBody s_Machine___init__) (defScope s_Machine___init__) .none kV6 dc6 pm6 an6 cd6 ct6, f7, PySem.W.fnOf "_law_source" "_law_source" (defArgs s__law_source) (defBody s__law_source) (defScope s__law_source) .none kV7 dc7 pm7 an7 cd7 ct7, f8, PySem.W.fnOf "_law_draw" "_law_draw" (defArgs s__law_draw) (defBody s__law_draw) (defScope s__law_draw) .none kV8 dc8 pm8 an8 cd8 ct8, f9, PySem.W.fnOf "_law_wide" "_law_wide" (defArgs s__law_wide) (defBody s__law_wide) (defScope s__law_wide) .none kV9 dc9 pm9 an9 cd9 ct9, f10, PySem.W.fnOf "_law_numbers" "_law_numbers" (defArgs s__law_numbers) (defBody s__law_numbers) (defScope s__law_numbers) .none kV10 dc10 pm10 an10 cd10 ct10, f11, PySem.W.fnOf "_law_integer" "_law_integer" (defArgs s__law_integer) (defBody s__law_integer) (defScope s__law_integer) .none kV11 dc11 pm11 an11 cd11 ct11, f12, PySem.W.fnOf "_law_clear" "_law_clear" (defArgs s__law_clear) (defBody s__law_clear) (defScope s__law_clear) .none kV12 dc12 pm12 an12 cd12 ct12, f13, PySem.W.fnOf "_law_reach" "_law_reach" (defArgs s__law_reach) (defBody s__law_reach) (defScope s__law_reach) .none kV13 dc13 pm13 an13 cd13 ct13, f14, PySem.W.fnOf "_law_steep" "_law_steep" (defArgs s__law_steep) (defBody s__law_steep) (defScope s__law_steep) .none kV14 dc14 pm14 an14 cd14 ct14, fa, PySem.W.fnOf "law" "law" (defArgs s_law) (defBody s_law) (defScope s_law) .none kV15 dc15 pm15 an15 cd15 ct15, tk_GREATEST, tk_MOST_HANDS⟩ := {
      F_InvalidMachine___init__ := F0
      b_InvalidMachine___init__ := b0
      F_is_integer := F1
      b_is_integer := b1
      g_is_integer := PySem.W.mg_of X G a1
      F_between := F2
      b_between := b2
      g_between := PySem.W.mg_of X G a2
      F_checked_count := F3
      b_checked_count := b3
      g_checked_count := PySem.W.mg_of X G a3
      F_is_clear := F4
      b_is_clear := b4
      g_is_clear := PySem.W.mg_of X G a4
      F_least_period := F5
      b_least_period := b5
      g_least_period := PySem.W.mg_of X G a5
      F_Machine___init__ := F6
      b_Machine___init__ := b6
      F__law_source := F7
      b__law_source := b7
      g__law_source := PySem.W.mg_of X G a7
      F__law_draw := F8
      b__law_draw := b8
      g__law_draw := PySem.W.mg_of X G a8
      F__law_wide := F9
      b__law_wide := b9
      g__law_wide := PySem.W.mg_of X G a9
      F__law_numbers := F10
      b__law_numbers := b10
      g__law_numbers := PySem.W.mg_of X G a10
      F__law_integer := F11
      b__law_integer := b11
      g__law_integer := PySem.W.mg_of X G a11
      F__law_clear := F12
      b__law_clear := b12
      g__law_clear := PySem.W.mg_of X G a12
      F__law_reach := F13
      b__law_reach := b13
      g__law_reach := PySem.W.mg_of X G a13
      F__law_steep := F14
      b__law_steep := b14
      g__law_steep := PySem.W.mg_of X G a14
      F_law := F15
      b_law := b15
      g_law := PySem.W.mg_of X G a15
      n_bool := PySem.W.mg_none_of X G n_bool
      n_int := PySem.W.mg_none_of X G n_int
      n_isinstance := PySem.W.mg_none_of X G n_isinstance
      n_len := PySem.W.mg_none_of X G n_len
      n_max := PySem.W.mg_none_of X G n_max
      n_min := PySem.W.mg_none_of X G n_min
      n_range := PySem.W.mg_none_of X G n_range
      c_GREATEST := PySem.W.mg_of X G cc_GREATEST
      c_MOST_HANDS := PySem.W.mg_of X G cc_MOST_HANDS
      g_Machine := PySem.W.mg_of X G gMachine
      mk_Machine := ⟨mmMachine, a6, fnMachine, kpMachine⟩
      it_Machine := itMachine
      g_InvalidCount := PySem.W.mg_of X G gInvalidCount
      g_InvalidMachine := PySem.W.mg_of X G gInvalidMachine
      x0_InvalidCount := ⟨nxeInvalidCount, nxuInvalidCount, nxtInvalidCount, nxkInvalidCount⟩
      x_InvalidMachine := ⟨nxiInvalidMachine, nxoInvalidMachine, nxdInvalidMachine, nxaInvalidMachine, nxuInvalidMachine, nxtInvalidMachine, nxkInvalidMachine⟩
      xi_InvalidMachine := a0
      xt_InvalidMachine := nxyInvalidMachine
      xk_InvalidMachine_part := nxz_InvalidMachine_part
      its := fun C hC => by
        simp only [List.mem_cons, List.not_mem_nil, or_false] at hC
        subst hC
        exact itMachine
      f_g := fun C hC => by
        simp only [List.mem_cons, List.not_mem_nil, or_false] at hC
        subst hC
        exact ⟨clMachine, na_Machine_g⟩
      f_gap := fun C hC => by
        simp only [List.mem_cons, List.not_mem_nil, or_false] at hC
        subst hC
        exact ⟨clMachine, na_Machine_gap⟩
      f_l := fun C hC => by
        simp only [List.mem_cons, List.not_mem_nil, or_false] at hC
        subst hC
        exact ⟨clMachine, na_Machine_l⟩
      f_letter := fun C hC => by
        simp only [List.mem_cons, List.not_mem_nil, or_false] at hC
        subst hC
        exact ⟨clMachine, na_Machine_letter⟩
      f_o := fun C hC => by
        simp only [List.mem_cons, List.not_mem_nil, or_false] at hC
        subst hC
        exact ⟨clMachine, na_Machine_o⟩ }
  refine ⟨_, fun s v => .of_eq rfl, fun base _ _ => FnOk.imp (ok_law T) fun vs H Q E hq => hq _ (by exact rfl)⟩
end Lw
open PySem PySem.W PyProof.Rows
set_option maxHeartbeats 0 in
theorem PySem.Challenge.cw_tellontree_k56_whole_least_period_holds : PySem.Challenge.rw_tellontree_k56_whole_least_period.Holds := by
  w_on; o_law; k_head; (case hw => w_witness2)
  k_fill
  refine L2.walk_ofB (l := PySem.Challenge.rw_tellontree_k56_whole_least_period) (n := 63) (k := 5) (x := "_law_script") (CX := fun w => L2.CX PySem.Challenge.rw_tellontree_k56_whole_least_period.prog w) (sp := fun w => Lw.spLaw _) rfl (by decide) rfl ⟨rfl, by decide, by decide⟩ (fun w h Y => PySem.W.kIn_of Y) ?F (fun w H a ns hl hb _ hS => Lw.law_start hl hb hS) (fun _ _ _ _ _ h => Lw.cx_none h)
  case F =>
    intro w mg fa h KX G hmg
    refine' Lw.all_mk KX G hmg ?gMachine ?gInvalidCount ?gInvalidMachine ?gTellError ?a0 ?l0 ?c0 ?k0 ?a1 ?l1 ?c1 ?k1 ?a2 ?l2 ?c2 ?k2 ?a3 ?l3 ?c3 ?k3 ?a4 ?l4 ?c4 ?k4 ?a5 ?l5 ?c5 ?k5 ?a6 ?l6 ?c6 ?k6 ?a7 ?l7 ?c7 ?k7 ?a8 ?l8 ?c8 ?k8 ?a9 ?l9 ?c9 ?k9 ?a10 ?l10 ?c10 ?k10 ?a11 ?l11 ?c11 ?k11 ?a12 ?l12 ?c12 ?k12 ?a13 ?l13 ?c13 ?k13 ?a14 ?l14 ?c14 ?k14 ?a15 ?l15 ?c15 ?k15 ?n_bool ?n_int ?n_isinstance ?n_len ?n_max ?n_min ?n_range ?cc_GREATEST ?cc_MOST_HANDS ?mmMachine ?fnMachine ?kpMachine ?pgMachine ?hdMachine ?poMachine ?saMachine ?haMachine ?hnMachine ?htMachine ?hmMachine ?nyMachine ?ynMachine ?nfMachine ?na_Machine_g ?na_Machine_gap ?na_Machine_l ?na_Machine_letter ?na_Machine_o ?nxdInvalidCount ?nxuInvalidCount ?nxtInvalidCount ?nxkInvalidCount ?nxeInvalidCount ?nxdInvalidMachine ?nxuInvalidMachine ?nxtInvalidMachine ?nxkInvalidMachine ?nxiInvalidMachine ?nxoInvalidMachine ?nxaInvalidMachine ?nxyInvalidMachine ?nxz_InvalidMachine_part
    (case gMachine => k_is)
    (case gInvalidCount => k_is)
    (case gInvalidMachine => k_is)
    (case gTellError => k_is)
    (case a0 => k_is)
    (case l0 => k_is)
    (case c0 => k_is)
    (case k0 => k_is)
    (case a1 => k_is)
    (case l1 => k_is)
    (case c1 => k_is)
    (case k1 => k_is)
    (case a2 => k_is)
    (case l2 => k_is)
    (case c2 => k_is)
    (case k2 => k_is)
    (case a3 => k_is)
    (case l3 => k_is)
    (case c3 => k_is)
    (case k3 => k_is)
    (case a4 => k_is)
    (case l4 => k_is)
    (case c4 => k_is)
    (case k4 => k_is)
    (case a5 => k_is)
    (case l5 => k_is)
    (case c5 => k_is)
    (case k5 => k_is)
    (case a6 => k_is)
    (case l6 => k_is)
    (case c6 => k_is)
    (case k6 => k_is)
    (case a7 => k_is)
    (case l7 => k_is)
    (case c7 => k_is)
    (case k7 => k_is)
    (case a8 => k_is)
    (case l8 => k_is)
    (case c8 => k_is)
    (case k8 => k_is)
    (case a9 => k_is)
    (case l9 => k_is)
    (case c9 => k_is)
    (case k9 => k_is)
    (case a10 => k_is)
    (case l10 => k_is)
    (case c10 => k_is)
    (case k10 => k_is)
    (case a11 => k_is)
    (case l11 => k_is)
    (case c11 => k_is)
    (case k11 => k_is)
    (case a12 => k_is)
    (case l12 => k_is)
    (case c12 => k_is)
    (case k12 => k_is)
    (case a13 => k_is)
    (case l13 => k_is)
    (case c13 => k_is)
    (case k13 => k_is)
    (case a14 => k_is)
    (case l14 => k_is)
    (case c14 => k_is)
    (case k14 => k_is)
    (case a15 => k_is)
    (case l15 => k_is)
    (case c15 => k_is)
    (case k15 => k_is)
    (case n_bool => k_is)
    (case n_int => k_is)
    (case n_isinstance => k_is)
    (case n_len => k_is)
    (case n_max => k_is)
    (case n_min => k_is)
    (case n_range => k_is)
    (case cc_GREATEST => k_is)
    (case cc_MOST_HANDS => k_is)
    (case mmMachine => k_is)
    (case fnMachine => k_is)
    (case kpMachine => k_is)
    (case pgMachine => k_is)
    (case hdMachine => k_is)
    (case poMachine => k_is)
    (case saMachine => k_is)
    (case haMachine => k_is)
    (case hnMachine => k_is)
    (case htMachine => k_is)
    (case hmMachine => k_is)
    (case nyMachine => kernel_rfl)
    (case ynMachine => kernel_rfl)
    (case nfMachine => kernel_rfl)
    (case na_Machine_g => k_is)
    (case na_Machine_gap => k_is)
    (case na_Machine_l => k_is)
    (case na_Machine_letter => k_is)
    (case na_Machine_o => k_is)
    (case nxdInvalidCount => kernel_rfl)
    (case nxuInvalidCount => kernel_rfl)
    (case nxtInvalidCount => kernel_rfl)
    (case nxkInvalidCount => kernel_rfl)
    (case nxeInvalidCount => kernel_rfl)
    (case nxdInvalidMachine => kernel_rfl)
    (case nxuInvalidMachine => kernel_rfl)
    (case nxtInvalidMachine => kernel_rfl)
    (case nxkInvalidMachine => kernel_rfl)
    (case nxiInvalidMachine => kernel_rfl)
    (case nxoInvalidMachine => kernel_rfl)
    (case nxaInvalidMachine => kernel_rfl)
    (case nxyInvalidMachine => kernel_rfl)
    (case nxz_InvalidMachine_part => kernel_rfl)
