import PyProof.Rows.All
import Wide.All
import OpenK.AllK
import Wide.FinOn
import HandS.ForMost
import HandS.Exc
import HandS.WordsExc
import HandS.TryOnly
import HandS.Wide
import HandS.ExcValue
import HandS.Lambda
import HandS.ExcIs
import HandS.ExcInit
import HandS.IsInst
import HandS.ClsMeth
import HandS.TupAny
import HandS.TupLe
import HandS.OwnEq
import HandS.ExcField
import HandS.TryMany
import KE.KExcInit
import KE.KOpsOwn
import HandS.Iter
import KE.GoesMore
import PyProof.EnumMake
import HandS.Defaults
import KE.KTupSum
import HandS.More
import HandS.SetFor
import KE.SortKeyHeap
import HandS.SortKw
import HandS.Head0
import HandS.Head1
import HandS.Head2
import HandS.HeadHook1
import HandS.HeadWalk
import KE.KNestM
import HandS.SortInts
import HandS.Dict
import HandS.SetKeys
import HandS.Conv
import KE.SortData
import PySem.Challenge.RW_tellontree_k61_bands_by_all_crossings
import HandS.Style
import HandS.Deep
import KE.DataMinMax
import KE.DataFind
import HandS.GenList
import PyProof.MaxThree
import PyProof.SeqI3
import HandS.Star
import HandS.EndBits
import HandS.EndTab
set_option Elab.async false
set_option linter.all false
set_option maxRecDepth 100000
set_option maxHeartbeats 8000000
/-! pure data, a store of tracked objects, and how they stand in the layer's heap -/
namespace SI
open PySem PySem.Spec PyProof.Rows L2

/-- pure data; ref n: the n-th tracked object -/
inductive D where
  | non | bl (b : Bool) | int (i : Int) | str (x : Str) | ty (n : String) | gl (a : Addr) | ref (n : Nat)
  | tup (xs : List D) | lst (xs : List D) | rdl (xs : List D)
  | dk (ks : List Key) (vs : List D) | dt (ks : List (List Int)) (vs : List D)
  | ins (C : Addr) (fs : List Str) (vs : List D)
  | exc (a C : Addr) (od : Option Addr) (fs : List Str) (vs : List D)
  | err (C : Addr)
  | erd (C : Addr) (fs : List Str) (vs : List D)
  | adr (a : Addr) (d : D)
/-- a tracked object -/
inductive O where
  | lst (xs : List D) | dk (ks : List Key) (vs : List D) | dt (ks : List (List Int)) (vs : List D)
  | ins (C : Addr) (fs : List Str) (vs : List D) | gone
mutual
def D.beq : D → D → Bool
  | .non, .non => true
  | .bl a, .bl b => a == b
  | .int a, .int b => a == b
  | .str a, .str b => decide (a = b)
  | .ty a, .ty b => a == b
  | .gl a, .gl b => a == b
  | .ref a, .ref b => a == b
  | .tup a, .tup b => D.beqs a b
  | .lst a, .lst b => D.beqs a b
  | .rdl a, .rdl b => D.beqs a b
  | .dk k a, .dk l b => decide (k = l) && D.beqs a b
  | .dt k a, .dt l b => decide (k = l) && D.beqs a b
  | .ins C k a, .ins E l b => decide (C = E) && (decide (k = l) && D.beqs a b)
  | .err C, .err E => decide (C = E)
  | .erd C k a, .erd E l b => decide (C = E) && (decide (k = l) && D.beqs a b)
  | .adr a x, .adr b y => decide (a = b) && D.beq x y
  | .exc x C o k a, .exc y E p l b => decide (x = y) && (decide (C = E) && (decide (o = p) && (decide (k = l) && D.beqs a b)))
  | _, _ => false
def D.beqs : List D → List D → Bool
  | [], [] => true
  | x :: xs, y :: ys => D.beq x y && D.beqs xs ys
  | _, _ => false
end
mutual
theorem D.beq_iff : ∀ a b : D, D.beq a b = true ↔ a = b
  | .non, b => by cases b <;> simp [D.beq]
  | .bl _, b => by cases b <;> simp [D.beq]
  | .int _, b => by cases b <;> simp [D.beq]
  | .str _, b => by cases b <;> simp [D.beq]
  | .ty _, b => by cases b <;> simp [D.beq]
  | .gl _, b => by cases b <;> simp [D.beq]
  | .ref _, b => by cases b <;> simp [D.beq]
  | .tup xs, b => by cases b <;> simp [D.beq, D.beqs_iff xs]
  | .lst xs, b => by cases b <;> simp [D.beq, D.beqs_iff xs]
  | .rdl xs, b => by cases b <;> simp [D.beq, D.beqs_iff xs]
  | .dk _ xs, b => by cases b <;> simp [D.beq, D.beqs_iff xs]
  | .dt _ xs, b => by cases b <;> simp [D.beq, D.beqs_iff xs]
  | .ins _ _ xs, b => by cases b <;> simp [D.beq, D.beqs_iff xs]
  | .exc _ _ _ _ xs, b => by cases b <;> simp [D.beq, D.beqs_iff xs]
  | .err _, b => by cases b <;> simp [D.beq]
  | .erd _ _ xs, b => by cases b <;> simp [D.beq, D.beqs_iff xs]
  | .adr _ x, b => by cases b <;> simp [D.beq, D.beq_iff x]
theorem D.beqs_iff : ∀ a b : List D, D.beqs a b = true ↔ a = b
  | [], b => by cases b <;> simp [D.beqs]
  | x :: xs, b => by cases b <;> simp [D.beqs, D.beq_iff x, D.beqs_iff xs]
end
instance : DecidableEq D := fun a b => decidable_of_iff _ (D.beq_iff a b)
def O.beq : O → O → Bool
  | .lst a, .lst b => D.beqs a b
  | .dk k a, .dk l b => decide (k = l) && D.beqs a b
  | .dt k a, .dt l b => decide (k = l) && D.beqs a b
  | .ins C k a, .ins E l b => decide (C = E) && (decide (k = l) && D.beqs a b)
  | .gone, .gone => true
  | _, _ => false
theorem O.beq_iff (a b : O) : O.beq a b = true ↔ a = b := by
  cases a <;> cases b <;> simp [O.beq, D.beqs_iff]
instance : DecidableEq O := fun a b => decidable_of_iff _ (O.beq_iff a b)
mutual
/-- every ref in it is below n -/
def D.bel (n : Nat) : D → Bool
  | .ref k => decide (k < n)
  | .tup xs => D.bels n xs
  | .lst xs => D.bels n xs
  | .rdl xs => D.bels n xs
  | .dk _ xs => D.bels n xs
  | .dt _ xs => D.bels n xs
  | .ins _ _ xs => D.bels n xs
  | .exc _ _ _ _ xs => D.bels n xs
  | .erd _ _ xs => D.bels n xs
  | .adr _ d => D.bel n d
  | _ => true
def D.bels (n : Nat) : List D → Bool
  | [] => true
  | x :: xs => D.bel n x && D.bels n xs
end
def O.bel (n : Nat) : O → Bool
  | .lst xs => D.bels n xs
  | .dk _ xs => D.bels n xs
  | .dt _ xs => D.bels n xs
  | .ins _ _ xs => D.bels n xs
  | .gone => true
abbrev S := List O
abbrev Mu := List (Option Addr)

/-- at a stands u, and a is not tracked -/
def Live (mu : Mu) (a : Addr) : Prop := some a ∈ mu
def Fix (mu : Mu) (H : Hp) (a : Addr) (u : HO) : Prop := H a = some u ∧ ¬ Live mu a
def FixR (mu : Mu) (H : Hp) (a : Addr) (u : HO) : Prop := Rd H a u ∧ ¬ Live mu a
def KTup (K : PySem.W.Frag) (a : Addr) (xs : List V) : Prop :=
  ∃ (o : Obj) (its : Array Value) (n : Nat), K.lookup a = some o ∧ o.cls = .type "tuple" ∧ o.data = .seq its n ∧ its.size ≤ sizeLine ∧ Vals xs its.toList
def KLst (K : PySem.W.Frag) (a : Addr) (xs : List V) : Prop :=
  ∃ (o : Obj) (its : Array Value) (n : Nat), K.lookup a = some o ∧ o.cls = .type "list" ∧ o.dict = none ∧ o.data = .seq its n ∧ its.size ≤ sizeLine ∧ Vals xs its.toList

/-- at b stands the tuple of ints k, a constant of the text or a made one -/
def KeyA (K : PySem.W.Frag) (mu : Mu) (H : Hp) (k : List Int) (b : Addr) : Prop := KTup K b (k.map V.int) ∨ Fix mu H b (.tup (k.map V.int))
def Keys (K : PySem.W.Frag) (mu : Mu) (H : Hp) (ks : List (List Int)) (bs : List Addr) : Prop := Paired (KeyA K mu H) ks bs
def xsOf (ks : List (List Int)) (bs : List Addr) (us : List Value) : List (List Int × Addr × Value) := ks.zip (bs.zip us)
/-- a dict at a: its keys are the tuples of ints ks, which stand at bs -/
def dtH (a : Addr) (ks : List (List Int)) (bs : List Addr) (vs : List V) : HO := .ext fun h => ∃ us, Vals vs us ∧ ks.length = bs.length ∧ ks.length = us.length ∧ ks.Nodup ∧ ks.length ≤ sizeLine ∧ (a == sysModules) = false ∧
  ∃ o es ep, h.get? a = some o ∧ o.ExactDict ∧ o.data = .dict es ep ∧ ∀ (P : Program) (w : World), es.toList = (xsOf ks bs us).map (entryOfKey (tupleKind (PySem.intKind P w)))

def tyNames : List String := ["NoneType", "bool", "int", "str", "list", "tuple", "dict"]
/-- an own exception class: what isinstance asks of it -/
structure ErrK (K : PySem.W.Frag) (C : Addr) : Prop where
  ex : ExcC K C
  ny : ∀ n ∈ tyNames, PySem.W.kitOne K (.ref C) (.type n) = some false
mutual
def RelD (K : PySem.W.Frag) (mu : Mu) (H : Hp) : D → V → Prop
  | .non, v => v = .non
  | .bl b, v => v = .bl b
  | .int i, v => v = .int i
  | .str x, v => v = .str x
  | .ty n, v => v = .ty n
  | .gl a, v => v = .ref a
  | .ref n, v => ∃ a, mu[n]? = some (some a) ∧ v = .ref a
  | .tup xs, v => ∃ a vs, v = .ref a ∧ (KTup K a vs ∨ Fix mu H a (.tup vs)) ∧ RelDs K mu H xs vs
  | .lst xs, v => ∃ a vs, v = .ref a ∧ Fix mu H a (.lst vs) ∧ RelDs K mu H xs vs
  | .rdl xs, v => ∃ a vs, v = .ref a ∧ (KLst K a vs ∨ FixR mu H a (.lst vs)) ∧ RelDs K mu H xs vs
  | .dk ks ds, v => ∃ a vs, v = .ref a ∧ Fix mu H a (.dK (ks.zip vs)) ∧ ks.length = vs.length ∧ RelDs K mu H ds vs
  | .dt ks ds, v => ∃ a bs vs, v = .ref a ∧ Fix mu H a (dtH a ks bs vs) ∧ Keys K mu H ks bs ∧ ks.length = vs.length ∧ RelDs K mu H ds vs
  | .ins C fs ds, v => ∃ a dx vs, v = .ref a ∧ H a = some (.ins C dx (fs.zip vs)) ∧ ¬ Live mu a ∧ fs.length = vs.length ∧ RelDs K mu H ds vs
  | .err C, v => ∃ a, v = .ref a ∧ Fix mu H a (ExO (.ref C) a) ∧ ErrK K C
  | .erd C fs ds, v => ∃ a dx vs, v = .ref a ∧ Fix mu H a (exo a C (some dx)) ∧ Fix mu H dx (exd dx (fs.zip vs)) ∧ ErrK K C ∧ fs.length = vs.length ∧ RelDs K mu H ds vs
  | .adr a d, v => v = .ref a ∧ RelD K mu H d v
  | .exc a C od fs ds, v => v = .ref a ∧ ∃ vs, ((fs = [] ∧ od = none) ∨ ∃ d, od = some d ∧ H d = some (.xd (fs.zip vs)) ∧ ¬ Live mu d) ∧ fs.length = vs.length ∧ RelDs K mu H ds vs
def RelDs (K : PySem.W.Frag) (mu : Mu) (H : Hp) : List D → List V → Prop
  | [], vs => vs = []
  | x :: xs, vs => ∃ v r, vs = v :: r ∧ RelD K mu H x v ∧ RelDs K mu H xs r
end

/-- from one state of the heap to a later one: what is not tracked stays, what is tracked stays tracked -/
structure Ge (mu : Mu) (H : Hp) (mu' : Mu) (H' : Hp) : Prop where
  fr : ∀ a o, H a = some o → ¬ Live mu a → (∀ ps, o ≠ .tbl ps) → H' a = some o ∧ ¬ Live mu' a
  rf : ∀ (n : Nat) (a : Addr), mu[n]? = some (some a) → mu'[n]? = some (some a)
theorem Ge.refl (mu : Mu) (H : Hp) : Ge mu H mu H := ⟨fun _ _ h n _ => ⟨h, n⟩, fun _ _ h => h⟩
theorem Ge.trans {mu mu1 mu2 : Mu} {H H1 H2 : Hp} (a : Ge mu H mu1 H1) (b : Ge mu1 H1 mu2 H2) : Ge mu H mu2 H2 :=
  ⟨fun c o h n q => b.fr c o (a.fr c o h n q).1 (a.fr c o h n q).2 q, fun n c h => b.rf n c (a.rf n c h)⟩
theorem Ge.fix {mu mu' : Mu} {H H' : Hp} (g : Ge mu H mu' H') {a : Addr} {u : HO} (h : Fix mu H a u) (q : ∀ ps, u ≠ .tbl ps := by exact fun _ z => by cases z) : Fix mu' H' a u := g.fr a u h.1 h.2 q
theorem Ge.fixR {mu mu' : Mu} {H H' : Hp} (g : Ge mu H mu' H') {a : Addr} {u : HO} (h : FixR mu H a u) (q : ∀ ps, u ≠ .tbl ps := by exact fun _ z => by cases z) : FixR mu' H' a u := by
  obtain ⟨h, n⟩ := h
  rcases h with h | ⟨o, h⟩
  · exact ⟨.inl (g.fr _ _ h n q).1, (g.fr _ _ h n q).2⟩
  · exact ⟨.inr ⟨o, (g.fr _ _ h n fun _ z => by cases z).1⟩, (g.fr _ _ h n fun _ z => by cases z).2⟩
mutual
theorem RelD.mono {K : PySem.W.Frag} {mu mu' : Mu} {H H' : Hp} (g : Ge mu H mu' H') : ∀ (d : D) (v : V), RelD K mu H d v → RelD K mu' H' d v
  | .non, _, h => by simpa only [RelD] using h
  | .bl _, _, h => by simpa only [RelD] using h
  | .int _, _, h => by simpa only [RelD] using h
  | .str _, _, h => by simpa only [RelD] using h
  | .ty _, _, h => by simpa only [RelD] using h
  | .gl _, _, h => by simpa only [RelD] using h
  | .ref n, v, h => by
    simp only [RelD] at h ⊢
    obtain ⟨a, e, r⟩ := h
    exact ⟨a, g.rf n a e, r⟩
  | .tup xs, v, h => by
    simp only [RelD] at h ⊢
    obtain ⟨a, vs, e, r, t⟩ := h
    exact ⟨a, vs, e, r.imp id (fun z => g.fix z), RelDs.mono g xs vs t⟩
  | .lst xs, v, h => by
    simp only [RelD] at h ⊢
    obtain ⟨a, vs, e, r, t⟩ := h
    exact ⟨a, vs, e, g.fix r, RelDs.mono g xs vs t⟩
  | .rdl xs, v, h => by
    simp only [RelD] at h ⊢
    obtain ⟨a, vs, e, r, t⟩ := h
    exact ⟨a, vs, e, r.imp id (fun z => g.fixR z), RelDs.mono g xs vs t⟩
  | .dk ks xs, v, h => by
    simp only [RelD] at h ⊢
    obtain ⟨a, vs, e, r, l, t⟩ := h
    exact ⟨a, vs, e, g.fix r, l, RelDs.mono g xs vs t⟩
  | .dt ks xs, v, h => by
    simp only [RelD] at h ⊢
    obtain ⟨a, bs, vs, e, r, kk, l, t⟩ := h
    exact ⟨a, bs, vs, e, g.fix r, Paired.mapP kk fun _ _ z => z.imp id (fun z => g.fix z), l, RelDs.mono g xs vs t⟩
  | .ins C fs xs, v, h => by
    simp only [RelD] at h ⊢
    obtain ⟨a, dx, vs, e, r, nl, l, t⟩ := h
    exact ⟨a, dx, vs, e, (g.fr _ _ r nl fun _ z => by cases z).1, (g.fr _ _ r nl fun _ z => by cases z).2, l, RelDs.mono g xs vs t⟩
  | .exc a C od fs xs, v, h => by
    simp only [RelD] at h ⊢
    obtain ⟨e, vs, r, l, t⟩ := h
    exact ⟨e, vs, r.imp id fun ⟨d, e1, e2, e3⟩ => ⟨d, e1, (g.fr _ _ e2 e3 fun _ z => by cases z).1, (g.fr _ _ e2 e3 fun _ z => by cases z).2⟩, l, RelDs.mono g xs vs t⟩
  | .err C, v, h => by
    simp only [RelD] at h ⊢
    obtain ⟨a, e, r, t⟩ := h
    exact ⟨a, e, g.fix r, t⟩
  | .erd C fs xs, v, h => by
    simp only [RelD] at h ⊢
    obtain ⟨a, dx, vs, e, r, rd, k, l, t⟩ := h
    exact ⟨a, dx, vs, e, g.fix r, g.fix rd, k, l, RelDs.mono g xs vs t⟩
  | .adr a d, v, h => by
    simp only [RelD] at h ⊢
    exact ⟨h.1, RelD.mono g d v h.2⟩
theorem RelDs.mono {K : PySem.W.Frag} {mu mu' : Mu} {H H' : Hp} (g : Ge mu H mu' H') : ∀ (ds : List D) (vs : List V), RelDs K mu H ds vs → RelDs K mu' H' ds vs
  | [], vs, h => by simpa only [RelDs] using h
  | x :: xs, vs, h => by
    simp only [RelDs] at h ⊢
    obtain ⟨v, r, e, h1, h2⟩ := h
    exact ⟨v, r, e, RelD.mono g x v h1, RelDs.mono g xs r h2⟩
end
theorem RelDs.length {K : PySem.W.Frag} {mu : Mu} {H : Hp} : ∀ {ds : List D} {vs : List V}, RelDs K mu H ds vs → ds.length = vs.length
  | [], vs, h => by
    simp only [RelDs] at h
    rw [h]
    rfl
  | x :: xs, vs, h => by
    simp only [RelDs] at h
    obtain ⟨v, r, rfl, _, h2⟩ := h
    rw [List.length_cons, List.length_cons, RelDs.length h2]
theorem RelDs.get {K : PySem.W.Frag} {mu : Mu} {H : Hp} : ∀ {ds : List D} {vs : List V} {i : Nat} {d : D}, RelDs K mu H ds vs → ds[i]? = some d → ∃ v, vs[i]? = some v ∧ RelD K mu H d v
  | [], vs, i, d, h, e => by simp at e
  | x :: xs, vs, 0, d, h, e => by
    simp only [RelDs] at h
    obtain ⟨v, r, rfl, h1, h2⟩ := h
    have e' : x = d := by simpa using e
    subst e'
    exact ⟨v, rfl, h1⟩
  | x :: xs, vs, i + 1, d, h, e => by
    simp only [RelDs] at h
    obtain ⟨v, r, rfl, h1, h2⟩ := h
    obtain ⟨w, e1, e2⟩ := RelDs.get (i := i) (d := d) h2 (by simpa using e)
    exact ⟨w, by simpa using e1, e2⟩
theorem RelDs.nil {K : PySem.W.Frag} {mu : Mu} {H : Hp} : RelDs K mu H [] [] := by simp only [RelDs]
theorem RelDs.cons {K : PySem.W.Frag} {mu : Mu} {H : Hp} {d : D} {v : V} {ds : List D} {vs : List V} (h : RelD K mu H d v) (t : RelDs K mu H ds vs) : RelDs K mu H (d :: ds) (v :: vs) := by
  simp only [RelDs]
  exact ⟨v, vs, rfl, h, t⟩
theorem RelDs.append {K : PySem.W.Frag} {mu : Mu} {H : Hp} : ∀ {ds es : List D} {vs us : List V}, RelDs K mu H ds vs → RelDs K mu H es us → RelDs K mu H (ds ++ es) (vs ++ us)
  | [], es, vs, us, h, k => by
    simp only [RelDs] at h
    subst h
    exact k
  | x :: xs, es, vs, us, h, k => by
    simp only [RelDs] at h
    obtain ⟨v, r, rfl, h1, h2⟩ := h
    exact .cons h1 (RelDs.append h2 k)
theorem RelDs.set {K : PySem.W.Frag} {mu : Mu} {H : Hp} {d : D} {v : V} (hd : RelD K mu H d v) : ∀ {ds : List D} {vs : List V} (i : Nat), RelDs K mu H ds vs → RelDs K mu H (ds.set i d) (vs.set i v)
  | [], vs, i, h => by
    simp only [RelDs] at h
    subst h
    exact .nil
  | x :: xs, vs, 0, h => by
    simp only [RelDs] at h
    obtain ⟨w, r, rfl, h1, h2⟩ := h
    exact .cons hd h2
  | x :: xs, vs, i + 1, h => by
    simp only [RelDs] at h
    obtain ⟨w, r, rfl, h1, h2⟩ := h
    exact .cons h1 (RelDs.set hd i h2)
theorem RelDs.take {K : PySem.W.Frag} {mu : Mu} {H : Hp} : ∀ {ds : List D} {vs : List V} (n : Nat), RelDs K mu H ds vs → RelDs K mu H (ds.take n) (vs.take n)
  | _, _, 0, _ => by simpa using RelDs.nil
  | [], vs, n + 1, h => by
    simp only [RelDs] at h
    subst h
    exact .nil
  | x :: xs, vs, n + 1, h => by
    simp only [RelDs] at h
    obtain ⟨w, r, rfl, h1, h2⟩ := h
    exact .cons h1 (RelDs.take n h2)
theorem RelDs.drop {K : PySem.W.Frag} {mu : Mu} {H : Hp} : ∀ {ds : List D} {vs : List V} (n : Nat), RelDs K mu H ds vs → RelDs K mu H (ds.drop n) (vs.drop n)
  | _, _, 0, h => h
  | [], vs, n + 1, h => by
    simp only [RelDs] at h
    subst h
    exact .nil
  | x :: xs, vs, n + 1, h => by
    simp only [RelDs] at h
    obtain ⟨w, r, rfl, h1, h2⟩ := h
    exact RelDs.drop n h2
theorem RelDs.ints {K : PySem.W.Frag} {mu : Mu} {H : Hp} : ∀ (ns : List Int), RelDs K mu H (ns.map D.int) (ns.map V.int)
  | [] => .nil
  | n :: r => .cons (by simp only [RelD]) (RelDs.ints r)

/-- what a tracked object is -/
def OR (K : PySem.W.Frag) (mu : Mu) (H : Hp) (a : Addr) : O → Prop
  | .lst xs => ∃ vs, H a = some (.lst vs) ∧ RelDs K mu H xs vs
  | .dk ks ds => ∃ vs, H a = some (.dK (ks.zip vs)) ∧ ks.length = vs.length ∧ RelDs K mu H ds vs
  | .dt ks ds => ∃ bs vs, H a = some (dtH a ks bs vs) ∧ Keys K mu H ks bs ∧ ks.length = vs.length ∧ RelDs K mu H ds vs
  | .ins C fs ds => ∃ dx vs, H a = some (.ins C dx (fs.zip vs)) ∧ fs.length = vs.length ∧ RelDs K mu H ds vs
  | .gone => True
theorem OR.mono {K : PySem.W.Frag} {mu mu' : Mu} {H H' : Hp} {a : Addr} (g : Ge mu H mu' H') (e : H' a = H a) : ∀ {o : O}, OR K mu H a o → OR K mu' H' a o
  | .lst xs, ⟨vs, h, r⟩ => ⟨vs, e.trans h, r.mono g⟩
  | .dk ks ds, ⟨vs, h, l, r⟩ => ⟨vs, e.trans h, l, r.mono g⟩
  | .dt ks ds, ⟨bs, vs, h, kk, l, r⟩ => ⟨bs, vs, e.trans h, Paired.mapP kk fun _ _ z => z.imp id (fun z => g.fix z), l, r.mono g⟩
  | .ins C fs ds, ⟨dx, vs, h, l, r⟩ => ⟨dx, vs, e.trans h, l, r.mono g⟩
  | .gone, _ => trivial

/-- the defs whose lambdas are served: their code objects' tables are in the heap -/
def tabNs : List Str := ["by_start", "crossings"]
/-- the table at P: each code object that it tells bears the name q -/
def TabG (mu : Mu) (H : Hp) (P : Addr) (q : Str) : Prop := ¬ Live mu P ∧ ∃ ps : Array Value, H P = some (.tbl ps) ∧ TriplesOk ps.toList ∧ ∀ (pos : Pos) (cv : Value), codeAmong pos ps.toList = some cv → ∃ c, cv = .ref c ∧ H c = some (LamX.CodeO c q) ∧ ¬ Live mu c
theorem TabG.mono {mu mu' : Mu} {H H' : Hp} (f : ∀ a o, H a = some o → ¬ Live mu a → H' a = some o ∧ ¬ Live mu' a) {P : Addr} {q : Str} (h : TabG mu H P q) : TabG mu' H' P q := by
  obtain ⟨n, ps, h1, h2, h3⟩ := h
  exact ⟨(f _ _ h1 n).2, ps, (f _ _ h1 n).1, h2, fun pos cv hc => by
    obtain ⟨c, e, h4, h5⟩ := h3 pos cv hc
    exact ⟨c, e, f _ _ h4 h5⟩⟩
def TabK (K : PySem.W.Frag) (mu : Mu) (H : Hp) : Prop := ∀ (c : Addr) (oc : Obj) (vs : Array Value) (q : Str) (t : Tok) (P : Addr), K.lookup c = some oc → oc.data = .fields vs → vs[1]? = some (.str q t) → vs[11]? = some (.ref P) → q ∈ tabNs → TabG mu H P ((q ++ ".<locals>.") ++ "<lambda>")
theorem TabK.mono {K : PySem.W.Frag} {mu mu' : Mu} {H H' : Hp} (f : ∀ a o, H a = some o → ¬ Live mu a → H' a = some o ∧ ¬ Live mu' a) (h : TabK K mu H) : TabK K mu' H' := fun c oc vs q t P h1 h2 h3 h4 h5 => (h c oc vs q t P h1 h2 h3 h4 h5).mono f
structure Sim (K : PySem.W.Frag) (mu : Mu) (s : S) (H : Hp) : Prop where
  tab : TabK K mu H
  len : mu.length = s.length
  inj : ∀ (i j : Nat) (a : Addr), mu[i]? = some (some a) → mu[j]? = some (some a) → i = j
  dom : ∀ a, Live mu a → ∃ o, H a = some o
  obj : ∀ (n : Nat) (o : O), s[n]? = some o → o = .gone ∨ ∃ a, mu[n]? = some (some a) ∧ OR K mu H a o
theorem live_at {mu : Mu} {n : Nat} {a : Addr} (h : mu[n]? = some (some a)) : Live mu a := List.mem_of_getElem? h
theorem live_iff {mu : Mu} {a : Addr} : Live mu a ↔ ∃ n : Nat, mu[n]? = some (some a) := List.mem_iff_getElem?
theorem live_app {mu : Mu} {a p : Addr} : Live (mu ++ [some p]) a ↔ Live mu a ∨ a = p := by
  unfold Live
  simp
section
variable {K : PySem.W.Frag} {mu : Mu} {s : S} {H : Hp} {p : Addr} {u : HO}
theorem Sim.fresh (m : Sim K mu s H) (hp : H p = none) : ¬ Live mu p := fun z => by
  obtain ⟨o, e⟩ := m.dom p z
  rw [hp] at e
  cases e
/-- a new object that is not tracked -/
theorem fr_pure (hp : H p = none) : ∀ a o, H a = some o → ¬ Live mu a → upd H p u a = some o ∧ ¬ Live mu a := fun a o h n => ⟨by rw [upd_ne (ne_of_none h hp)]; exact h, n⟩
theorem Ge.pure (m : Sim K mu s H) (hp : H p = none) : Ge mu H mu (upd H p u) :=
  ⟨fun a o h n _ => ⟨by rw [upd_ne (ne_of_none h hp)]; exact h, n⟩, fun _ _ h => h⟩
theorem Sim.pure (m : Sim K mu s H) (hp : H p = none) : Sim K mu s (upd H p u) where
  tab := m.tab.mono (fr_pure hp)
  len := m.len
  inj := m.inj
  dom := fun a l => by
    obtain ⟨o, e⟩ := m.dom a l
    exact ⟨o, by rw [upd_ne (ne_of_none e hp)]; exact e⟩
  obj := fun n o e => by
    rcases m.obj n o e with z | ⟨a, e1, r⟩
    · exact .inl z
    · refine .inr ⟨a, e1, r.mono (Ge.pure m hp) ?_⟩
      obtain ⟨ob, e2⟩ := m.dom a (live_at e1)
      exact upd_ne (ne_of_none e2 hp)
/-- a new tracked object -/
theorem fr_track (hp : H p = none) : ∀ a o, H a = some o → ¬ Live mu a → upd H p u a = some o ∧ ¬ Live (mu ++ [some p]) a := fun a o h n => ⟨by rw [upd_ne (ne_of_none h hp)]; exact h, fun z => (live_app.mp z).elim n (fun e => ne_of_none h hp e)⟩
theorem Ge.track (m : Sim K mu s H) (hp : H p = none) : Ge mu H (mu ++ [some p]) (upd H p u) :=
  ⟨fun a o h n _ => ⟨by rw [upd_ne (ne_of_none h hp)]; exact h, fun z => (live_app.mp z).elim n (fun e => ne_of_none h hp e)⟩,
   fun n a h => by
    have hn : n < mu.length := (List.getElem?_eq_some_iff.mp h).1
    rw [List.getElem?_append_left hn]
    exact h⟩
theorem Sim.track {o : O} (m : Sim K mu s H) (hp : H p = none) (ho : OR K (mu ++ [some p]) (upd H p u) p o) : Sim K (mu ++ [some p]) (s ++ [o]) (upd H p u) where
  tab := m.tab.mono (fr_track hp)
  len := by
    rw [List.length_append, List.length_append, m.len]
    rfl
  inj := fun i j a h1 h2 => by
    rcases Nat.lt_or_ge i mu.length with hi | hi <;> rcases Nat.lt_or_ge j mu.length with hj | hj
    · rw [List.getElem?_append_left hi] at h1
      rw [List.getElem?_append_left hj] at h2
      exact m.inj i j a h1 h2
    · rw [List.getElem?_append_left hi] at h1
      rw [List.getElem?_append_right hj] at h2
      have e : p = a := by
        cases q : j - mu.length with
        | zero =>
          rw [q] at h2
          simpa using h2
        | succ k =>
          rw [q] at h2
          simp at h2
      subst e
      exact absurd (live_at h1) (m.fresh hp)
    · rw [List.getElem?_append_right hi] at h1
      rw [List.getElem?_append_left hj] at h2
      have e : p = a := by
        cases q : i - mu.length with
        | zero =>
          rw [q] at h1
          simpa using h1
        | succ k =>
          rw [q] at h1
          simp at h1
      subst e
      exact absurd (live_at h2) (m.fresh hp)
    · have e1 := (List.getElem?_eq_some_iff.mp h1).1
      have e2 := (List.getElem?_eq_some_iff.mp h2).1
      rw [List.length_append, List.length_singleton] at e1 e2
      omega
  dom := fun a l => by
    rcases live_app.mp l with l | e
    · obtain ⟨o, e⟩ := m.dom a l
      exact ⟨o, by rw [upd_ne (ne_of_none e hp)]; exact e⟩
    · subst e
      exact ⟨u, upd_same⟩
  obj := fun n o' e => by
    rcases Nat.lt_or_ge n s.length with hn | hn
    · rw [List.getElem?_append_left hn] at e
      rcases m.obj n o' e with z | ⟨a, e1, r⟩
      · exact .inl z
      · refine .inr ⟨a, (Ge.track (u := u) m hp).rf n a e1, r.mono (Ge.track m hp) ?_⟩
        obtain ⟨ob, e2⟩ := m.dom a (live_at e1)
        exact upd_ne (ne_of_none e2 hp)
    · have hl := (List.getElem?_eq_some_iff.mp e).1
      rw [List.length_append, List.length_singleton] at hl
      have en : n = s.length := by omega
      subst en
      rw [List.getElem?_append_right (Nat.le_refl _), Nat.sub_self] at e
      have e' : o = o' := by simpa using e
      subst e'
      refine .inr ⟨p, ?_, ho⟩
      rw [← m.len, List.getElem?_append_right (Nat.le_refl _), Nat.sub_self]
      rfl
/-- a tracked object changes -/
theorem fr_put {n : Nat} {a : Addr} (h : mu[n]? = some (some a)) : ∀ b o, H b = some o → ¬ Live mu b → upd H a u b = some o ∧ ¬ Live mu b := fun b o e nl => ⟨by rw [upd_ne (fun z => nl (by rw [z]; exact live_at h))]; exact e, nl⟩
theorem Ge.put {n : Nat} {a : Addr} (h : mu[n]? = some (some a)) : Ge mu H mu (upd H a u) :=
  ⟨fun b o e nl _ => ⟨by rw [upd_ne (fun z => nl (by rw [z]; exact live_at h))]; exact e, nl⟩, fun _ _ h => h⟩
theorem Sim.put {n : Nat} {a : Addr} {o : O} (m : Sim K mu s H) (h : mu[n]? = some (some a)) (ho : OR K mu (upd H a u) a o) : Sim K mu (s.set n o) (upd H a u) where
  tab := m.tab.mono (fr_put h)
  len := by rw [List.length_set]; exact m.len
  inj := m.inj
  dom := fun b l => by
    by_cases hb : b = a
    · subst hb
      exact ⟨u, upd_same⟩
    · obtain ⟨o, e⟩ := m.dom b l
      exact ⟨o, by rw [upd_ne hb]; exact e⟩
  obj := fun k o' e => by
    by_cases hk : n = k
    · subst hk
      have hl : n < s.length := by
        rw [← m.len]
        exact (List.getElem?_eq_some_iff.mp h).1
      rw [List.getElem?_set_self hl] at e
      cases e
      exact .inr ⟨a, h, ho⟩
    · rw [List.getElem?_set_ne hk] at e
      rcases m.obj k o' e with z | ⟨b, e1, r⟩
      · exact .inl z
      · refine .inr ⟨b, e1, r.mono (Ge.put h) (upd_ne fun z => ?_)⟩
        subst z
        exact hk (m.inj n k b h e1)
/-- what is behind a length is forgotten -/
theorem Sim.cut {n : Nat} (m : Sim K mu s H) (hr : ∀ k o, k < n → s[k]? = some o → o = .gone ∨ ∃ a, mu[k]? = some (some a) ∧ OR K (mu.take n) H a o) : Sim K (mu.take n) (s.take n) H where
  tab := m.tab.mono fun a o h q => ⟨h, fun z => q (List.mem_of_mem_take z)⟩
  len := by rw [List.length_take, List.length_take, m.len]
  inj := fun i j a h1 h2 => by
    rw [List.getElem?_take] at h1 h2
    split at h1 <;> split at h2 <;> first | (exact m.inj i j a h1 h2) | (cases h1) | (cases h2)
  dom := fun a l => m.dom a (List.mem_of_mem_take l)
  obj := fun k o e => by
    rw [List.getElem?_take] at e
    split at e
    · rename_i hk
      rcases hr k o hk e with z | ⟨a, e1, r⟩
      · exact .inl z
      · exact .inr ⟨a, by rw [List.getElem?_take, if_pos hk]; exact e1, r⟩
    · cases e
end

mutual
theorem RelD.bel {K : PySem.W.Frag} {mu : Mu} {H : Hp} : ∀ (d : D) (v : V), RelD K mu H d v → d.bel mu.length = true
  | .non, _, h => by simp only [D.bel]
  | .bl _, _, h => by simp only [D.bel]
  | .int _, _, h => by simp only [D.bel]
  | .str _, _, h => by simp only [D.bel]
  | .ty _, _, h => by simp only [D.bel]
  | .gl _, _, h => by simp only [D.bel]
  | .ref n, v, h => by
    simp only [RelD] at h
    obtain ⟨a, e, r⟩ := h
    simp only [D.bel, decide_eq_true_eq]
    exact (List.getElem?_eq_some_iff.mp e).1
  | .tup xs, v, h => by
    simp only [RelD] at h
    obtain ⟨a, vs, e, r, t⟩ := h
    simp only [D.bel]
    exact RelDs.belows xs vs t
  | .lst xs, v, h => by
    simp only [RelD] at h
    obtain ⟨a, vs, e, r, t⟩ := h
    simp only [D.bel]
    exact RelDs.belows xs vs t
  | .rdl xs, v, h => by
    simp only [RelD] at h
    obtain ⟨a, vs, e, r, t⟩ := h
    simp only [D.bel]
    exact RelDs.belows xs vs t
  | .dk ks xs, v, h => by
    simp only [RelD] at h
    obtain ⟨a, vs, e, r, l, t⟩ := h
    simp only [D.bel]
    exact RelDs.belows xs vs t
  | .dt ks xs, v, h => by
    simp only [RelD] at h
    obtain ⟨a, bs, vs, e, r, kk, l, t⟩ := h
    simp only [D.bel]
    exact RelDs.belows xs vs t
  | .ins C fs xs, v, h => by
    simp only [RelD] at h
    obtain ⟨a, dx, vs, e, r, nl, l, t⟩ := h
    simp only [D.bel]
    exact RelDs.belows xs vs t
  | .exc a C od fs xs, v, h => by
    simp only [RelD] at h
    obtain ⟨e, vs, r, l, t⟩ := h
    simp only [D.bel]
    exact RelDs.belows xs vs t
  | .err _, _, h => by simp only [D.bel]
  | .erd C fs xs, v, h => by
    simp only [RelD] at h
    obtain ⟨a, dx, vs, e, r, rd, k, l, t⟩ := h
    simp only [D.bel]
    exact RelDs.belows xs vs t
  | .adr a d, v, h => by
    simp only [RelD] at h
    simp only [D.bel]
    exact RelD.bel d v h.2
theorem RelDs.belows {K : PySem.W.Frag} {mu : Mu} {H : Hp} : ∀ (ds : List D) (vs : List V), RelDs K mu H ds vs → D.bels mu.length ds = true
  | [], vs, h => by simp only [D.bels]
  | x :: xs, vs, h => by
    simp only [RelDs] at h
    obtain ⟨v, r, e, h1, h2⟩ := h
    simp only [D.bels, Bool.and_eq_true]
    exact ⟨RelD.bel x v h1, RelDs.belows xs r h2⟩
end
theorem not_live_take {mu : Mu} {n : Nat} {a : Addr} (h : ¬ Live mu a) : ¬ Live (mu.take n) a := fun z => h (List.mem_of_mem_take z)
theorem Fix.cut {mu : Mu} {H : Hp} {a : Addr} {u : HO} {n : Nat} (h : Fix mu H a u) : Fix (mu.take n) H a u := ⟨h.1, not_live_take h.2⟩
theorem FixR.cut {mu : Mu} {H : Hp} {a : Addr} {u : HO} {n : Nat} (h : FixR mu H a u) : FixR (mu.take n) H a u := ⟨h.1, not_live_take h.2⟩
mutual
theorem RelD.cut {K : PySem.W.Frag} {mu : Mu} {H : Hp} {n : Nat} : ∀ (d : D) (v : V), RelD K mu H d v → d.bel n = true → RelD K (mu.take n) H d v
  | .non, _, h, _ => by simpa only [RelD] using h
  | .bl _, _, h, _ => by simpa only [RelD] using h
  | .int _, _, h, _ => by simpa only [RelD] using h
  | .str _, _, h, _ => by simpa only [RelD] using h
  | .ty _, _, h, _ => by simpa only [RelD] using h
  | .gl _, _, h, _ => by simpa only [RelD] using h
  | .ref k, v, h, b => by
    simp only [D.bel, decide_eq_true_eq] at b
    simp only [RelD] at h ⊢
    obtain ⟨a, e, r⟩ := h
    exact ⟨a, by rw [List.getElem?_take, if_pos b]; exact e, r⟩
  | .tup xs, v, h, b => by
    simp only [D.bel] at b
    simp only [RelD] at h ⊢
    obtain ⟨a, vs, e, r, t⟩ := h
    exact ⟨a, vs, e, r.imp id Fix.cut, RelDs.cut xs vs t b⟩
  | .lst xs, v, h, b => by
    simp only [D.bel] at b
    simp only [RelD] at h ⊢
    obtain ⟨a, vs, e, r, t⟩ := h
    exact ⟨a, vs, e, r.cut, RelDs.cut xs vs t b⟩
  | .rdl xs, v, h, b => by
    simp only [D.bel] at b
    simp only [RelD] at h ⊢
    obtain ⟨a, vs, e, r, t⟩ := h
    exact ⟨a, vs, e, r.imp id FixR.cut, RelDs.cut xs vs t b⟩
  | .dk ks xs, v, h, b => by
    simp only [D.bel] at b
    simp only [RelD] at h ⊢
    obtain ⟨a, vs, e, r, l, t⟩ := h
    exact ⟨a, vs, e, r.cut, l, RelDs.cut xs vs t b⟩
  | .dt ks xs, v, h, b => by
    simp only [D.bel] at b
    simp only [RelD] at h ⊢
    obtain ⟨a, bs, vs, e, r, kk, l, t⟩ := h
    exact ⟨a, bs, vs, e, r.cut, Paired.mapP kk fun _ _ z => z.imp id Fix.cut, l, RelDs.cut xs vs t b⟩
  | .ins C fs xs, v, h, b => by
    simp only [D.bel] at b
    simp only [RelD] at h ⊢
    obtain ⟨a, dx, vs, e, r, nl, l, t⟩ := h
    exact ⟨a, dx, vs, e, r, not_live_take nl, l, RelDs.cut xs vs t b⟩
  | .exc a C od fs xs, v, h, b => by
    simp only [D.bel] at b
    simp only [RelD] at h ⊢
    obtain ⟨e, vs, r, l, t⟩ := h
    exact ⟨e, vs, r.imp id fun ⟨d, e1, e2, e3⟩ => ⟨d, e1, e2, not_live_take e3⟩, l, RelDs.cut xs vs t b⟩
  | .err C, v, h, b => by
    simp only [RelD] at h ⊢
    obtain ⟨a, e, r, t⟩ := h
    exact ⟨a, e, r.cut, t⟩
  | .erd C fs xs, v, h, b => by
    simp only [D.bel] at b
    simp only [RelD] at h ⊢
    obtain ⟨a, dx, vs, e, r, rd, k, l, t⟩ := h
    exact ⟨a, dx, vs, e, r.cut, rd.cut, k, l, RelDs.cut xs vs t b⟩
  | .adr a d, v, h, b => by
    simp only [D.bel] at b
    simp only [RelD] at h ⊢
    exact ⟨h.1, RelD.cut d v h.2 b⟩
theorem RelDs.cut {K : PySem.W.Frag} {mu : Mu} {H : Hp} {n : Nat} : ∀ (ds : List D) (vs : List V), RelDs K mu H ds vs → D.bels n ds = true → RelDs K (mu.take n) H ds vs
  | [], vs, h, _ => by simpa only [RelDs] using h
  | x :: xs, vs, h, b => by
    simp only [D.bels, Bool.and_eq_true] at b
    simp only [RelDs] at h ⊢
    obtain ⟨v, r, e, h1, h2⟩ := h
    exact ⟨v, r, e, RelD.cut x v h1 b.1, RelDs.cut xs r h2 b.2⟩
end
theorem OR.cut {K : PySem.W.Frag} {mu : Mu} {H : Hp} {n : Nat} {a : Addr} : ∀ {o : O}, OR K mu H a o → o.bel n = true → OR K (mu.take n) H a o
  | .lst xs, ⟨vs, h, r⟩, b => ⟨vs, h, r.cut _ _ (by simpa only [O.bel] using b)⟩
  | .dk ks ds, ⟨vs, h, l, r⟩, b => ⟨vs, h, l, r.cut _ _ (by simpa only [O.bel] using b)⟩
  | .dt ks ds, ⟨bs, vs, h, kk, l, r⟩, b => ⟨bs, vs, h, Paired.mapP kk fun _ _ z => z.imp id Fix.cut, l, r.cut _ _ (by simpa only [O.bel] using b)⟩
  | .ins C fs ds, ⟨dx, vs, h, l, r⟩, b => ⟨dx, vs, h, l, r.cut _ _ (by simpa only [O.bel] using b)⟩
  | .gone, _, _ => trivial
theorem OR.below {K : PySem.W.Frag} {mu : Mu} {H : Hp} {a : Addr} : ∀ {o : O}, OR K mu H a o → o.bel mu.length = true
  | .lst xs, ⟨vs, h, r⟩ => by simpa only [O.bel] using r.belows _ _
  | .dk ks ds, ⟨vs, h, l, r⟩ => by simpa only [O.bel] using r.belows _ _
  | .dt ks ds, ⟨bs, vs, h, kk, l, r⟩ => by simpa only [O.bel] using r.belows _ _
  | .ins C fs ds, ⟨dx, vs, h, l, r⟩ => by simpa only [O.bel] using r.belows _ _
  | .gone, _ => rfl
theorem Sim.below {K : PySem.W.Frag} {mu : Mu} {s : S} {H : Hp} (m : Sim K mu s H) {o : O} (ho : o ∈ s) : o.bel s.length = true := by
  obtain ⟨n, e⟩ := List.mem_iff_getElem?.mp ho
  rcases m.obj n o e with z | ⟨a, e1, r⟩
  · subst z
    rfl
  · rw [← m.len]
    exact r.below
/-- the state behind a def whose own objects are forgotten -/
theorem Sim.back {K : PySem.W.Frag} {mu : Mu} {s : S} {H : Hp} {n : Nat} (m : Sim K mu s H) (hb : ∀ o ∈ s.take n, o.bel n = true) : Sim K (mu.take n) (s.take n) H :=
  m.cut fun k o hk e => by
    rcases m.obj k o e with z | ⟨a, e1, r⟩
    · exact .inl z
    · refine .inr ⟨a, e1, r.cut (hb o ?_)⟩
      exact List.mem_of_getElem? (i := k) (by rw [List.getElem?_take, if_pos hk]; exact e)
theorem Ge.back {mu mu' : Mu} {H H' : Hp} (g : Ge mu H mu' H') : Ge mu H (mu'.take mu.length) H' :=
  ⟨fun a o h n q => ⟨(g.fr a o h n q).1, not_live_take (g.fr a o h n q).2⟩, fun n a h => by
    have hn := (List.getElem?_eq_some_iff.mp h).1
    rw [List.getElem?_take, if_pos hn]
    exact g.rf n a h⟩

/-- the def's names -/
abbrev Lc := List (Option D)
structure LR (K : PySem.W.Frag) (mu : Mu) (H : Hp) (L : Lc) (σ : L2.St) : Prop where
  len : L.length = σ.length
  at_ : ∀ (i : Nat) (d : D), L[i]? = some (some d) → ∃ v, σ[i]? = some (some v) ∧ RelD K mu H d v
theorem LR.mono {K : PySem.W.Frag} {mu mu' : Mu} {H H' : Hp} {L : Lc} {σ : L2.St} (g : Ge mu H mu' H') (h : LR K mu H L σ) : LR K mu' H' L σ :=
  ⟨h.len, fun i d e => by
    obtain ⟨v, e1, r⟩ := h.at_ i d e
    exact ⟨v, e1, r.mono g⟩⟩
theorem LR.set {K : PySem.W.Frag} {mu : Mu} {H : Hp} {L : Lc} {σ : L2.St} {d : D} {v : V} (h : LR K mu H L σ) (i : Nat) (r : RelD K mu H d v) : LR K mu H (L.set i (some d)) (σ.set i (some v)) :=
  ⟨by rw [List.length_set, List.length_set]; exact h.len, fun j d' e => by
    by_cases hj : i = j
    · subst hj
      have hl : i < L.length := by
        have := (List.getElem?_eq_some_iff.mp e).1
        rwa [List.length_set] at this
      rw [List.getElem?_set_self hl] at e
      cases e
      exact ⟨v, by rw [List.getElem?_set_self (by rw [← h.len]; exact hl)], r⟩
    · rw [List.getElem?_set_ne hj] at e
      obtain ⟨v', e1, r'⟩ := h.at_ j d' e
      exact ⟨v', by rw [List.getElem?_set_ne hj]; exact e1, r'⟩⟩
theorem LR.del {K : PySem.W.Frag} {mu : Mu} {H : Hp} {L : Lc} {σ : L2.St} {x : Option V} (h : LR K mu H L σ) (i : Nat) : LR K mu H (L.set i none) (σ.set i x) :=
  ⟨by rw [List.length_set, List.length_set]; exact h.len, fun j d' e => by
    by_cases hj : i = j
    · subst hj
      have hl : i < L.length := by
        have := (List.getElem?_eq_some_iff.mp e).1
        rwa [List.length_set] at this
      rw [List.getElem?_set_self hl] at e
      cases e
    · rw [List.getElem?_set_ne hj] at e
      obtain ⟨v', e1, r'⟩ := h.at_ j d' e
      exact ⟨v', by rw [List.getElem?_set_ne hj]; exact e1, r'⟩⟩

/-! ### results -/
inductive R (α : Type) where
  | ok (a : α) (s : S) | ex (C : Addr) (fs : List Str) (vs : List D) (s : S) | bad
inductive RS where
  | nx (L : Lc) (s : S) | rt (d : D) (s : S) | bk (L : Lc) (s : S) | ct (L : Lc) (s : S) | ex (C : Addr) (fs : List Str) (vs : List D) (L : Lc) (s : S) | bad
abbrev F (α : Type) := Lc → S → R α
abbrev FS := Lc → S → RS
def R.bind {α β : Type} (r : R α) (k : α → S → R β) : R β := match r with
  | .ok a s => k a s
  | .ex C fs vs s => .ex C fs vs s
  | .bad => .bad
def RS.bind (r : RS) (k : Lc → S → RS) : RS := match r with
  | .nx L s => k L s
  | r => r
def R.bindS {α : Type} (L : Lc) (r : R α) (k : α → S → RS) : RS := match r with
  | .ok a s => k a s
  | .ex C fs vs s => .ex C fs vs L s
  | .bad => .bad

/-- an exception's fields -/
def XR (K : PySem.W.Frag) (mu : Mu) (H : Hp) (fs : List Str) (ds : List D) (od : Option Addr) : Prop :=
  (fs = [] ∧ ds = [] ∧ od = none) ∨ ∃ d vs, od = some d ∧ H d = some (.xd (fs.zip vs)) ∧ ¬ Live mu d ∧ fs.length = vs.length ∧ RelDs K mu H ds vs
theorem XR.mono {K : PySem.W.Frag} {mu mu' : Mu} {H H' : Hp} {fs : List Str} {ds : List D} {od : Option Addr} (g : Ge mu H mu' H') (h : XR K mu H fs ds od) : XR K mu' H' fs ds od := by
  rcases h with h | ⟨d, vs, e, h, n, l, r⟩
  · exact .inl h
  · exact .inr ⟨d, vs, e, (g.fr _ _ h n fun _ z => by cases z).1, (g.fr _ _ h n fun _ z => by cases z).2, l, r.mono g⟩

section
variable (K : PySem.W.Frag) (W : WX)
def Post {α β : Type} (rel : Mu → Hp → α → β → Prop) (σ : L2.St) (mu : Mu) (H : Hp) (Q : β → Hp → Prop) : R α → Prop
  | .ok d s' => ∀ mu' H' v, Ge mu H mu' H' → Sim K mu' s' H' → rel mu' H' d v → Q v H'
  | .ex C fs ds s' => ∀ mu' H' od, Ge mu H mu' H' → Sim K mu' s' H' → XR K mu' H' fs ds od → W (.ref C) od σ H'
  | .bad => False
def PostS (D : Ends) (mu : Mu) (H : Hp) : RS → Prop
  | .nx L' s' => ∀ mu' σ' H', Ge mu H mu' H' → Sim K mu' s' H' → LR K mu' H' L' σ' → D.nx σ' H'
  | .rt d s' => ∀ mu' H' v, Ge mu H mu' H' → Sim K mu' s' H' → RelD K mu' H' d v → D.rt v H'
  | .bk L' s' => ∀ mu' σ' H', Ge mu H mu' H' → Sim K mu' s' H' → LR K mu' H' L' σ' → D.bk σ' H'
  | .ct L' s' => ∀ mu' σ' H', Ge mu H mu' H' → Sim K mu' s' H' → LR K mu' H' L' σ' → D.ct σ' H'
  | .ex C fs ds L' s' => ∀ mu' σ' H' od, Ge mu H mu' H' → Sim K mu' s' H' → LR K mu' H' L' σ' → XR K mu' H' fs ds od → W (.ref C) od σ' H'
  | .bad => False
def tE (f : F D) : TE := fun σ H Q => ∃ mu s L, Sim K mu s H ∧ LR K mu H L σ ∧ Post K W (RelD K) σ mu H Q (f L s)
def tA (f : F (List D)) : TA := fun σ H Q => ∃ mu s L, Sim K mu s H ∧ LR K mu H L σ ∧ Post K W (RelDs K) σ mu H Q (f L s)
def tT (f : F Bool) : TT := fun σ H Q => ∃ mu s L, Sim K mu s H ∧ LR K mu H L σ ∧ Post K W (fun _ _ (a b : Bool) => a = b) σ mu H Q (f L s)
def tS (f : FS) : TS := fun D σ H => ∃ mu s L, Sim K mu s H ∧ LR K mu H L σ ∧ PostS K W D mu H (f L s)
end
section
variable {K : PySem.W.Frag} {W : WX}
theorem Post.ge {α β : Type} {rel : Mu → Hp → α → β → Prop} {σ : L2.St} {mu mu1 : Mu} {H H1 : Hp} {Q : β → Hp → Prop} {r : R α} (g : Ge mu H mu1 H1) (h : Post K W rel σ mu H Q r) : Post K W rel σ mu1 H1 Q r := by
  cases r with
  | ok d s' => exact fun mu' H' v g' m r => h mu' H' v (g.trans g') m r
  | ex C fs ds s' => exact fun mu' H' od g' m x => h mu' H' od (g.trans g') m x
  | bad => exact h
theorem PostS.ge {D : Ends} {mu mu1 : Mu} {H H1 : Hp} {r : RS} (g : Ge mu H mu1 H1) (h : PostS K W D mu H r) : PostS K W D mu1 H1 r := by
  cases r with
  | nx L s => exact fun mu' σ' H' g' => h mu' σ' H' (g.trans g')
  | rt L s => exact fun mu' H' v g' => h mu' H' v (g.trans g')
  | bk L s => exact fun mu' σ' H' g' => h mu' σ' H' (g.trans g')
  | ct L s => exact fun mu' σ' H' g' => h mu' σ' H' (g.trans g')
  | ex C fs ds L s => exact fun mu' σ' H' od g' => h mu' σ' H' od (g.trans g')
  | bad => exact h
/-- one part, then the rest -/
theorem Post.step {α β γ δ : Type} {rel : Mu → Hp → α → β → Prop} {rel2 : Mu → Hp → γ → δ → Prop} {σ : L2.St} {mu : Mu} {H : Hp} {Q : δ → Hp → Prop} {Q1 : β → Hp → Prop} {r : R α} {k : α → S → R γ}
    (h : Post K W rel2 σ mu H Q (r.bind k))
    (hk : ∀ d s' mu' H' v, Ge mu H mu' H' → Sim K mu' s' H' → rel mu' H' d v → Post K W rel2 σ mu' H' Q (k d s') → Q1 v H') : Post K W rel σ mu H Q1 r := by
  cases r with
  | ok d s' => exact fun mu' H' v g m q => hk d s' mu' H' v g m q (Post.ge (r := k d s') g h)
  | ex C fs ds s' => exact h
  | bad => exact h
theorem Post.stepS {α β : Type} {rel : Mu → Hp → α → β → Prop} {σ : L2.St} {L : Lc} {mu : Mu} {H : Hp} {D : Ends} {Q1 : β → Hp → Prop} {r : R α} {k : α → S → RS} (hL : LR K mu H L σ)
    (h : PostS K W D mu H (r.bindS L k))
    (hk : ∀ d s' mu' H' v, Ge mu H mu' H' → Sim K mu' s' H' → rel mu' H' d v → PostS K W D mu' H' (k d s') → Q1 v H') : Post K W rel σ mu H Q1 r := by
  cases r with
  | ok d s' => exact fun mu' H' v g m q => hk d s' mu' H' v g m q (PostS.ge (r := k d s') g h)
  | ex C fs ds s' => exact fun mu' H' od g m x => h mu' σ H' od g m (hL.mono g) x
  | bad => exact h
theorem PE.weak {X : Cx} {e : Expr} {t t' : TE} (h : PE X e t) (w : ∀ σ H Q, t' σ H Q → t σ H Q) : PE X e t' := ⟨fun pins s σ H Q I q => h.run pins s σ H Q I (w σ H Q q)⟩
theorem PT.weak {X : Cx} {e : Expr} {t t' : TT} (h : PT X e t) (w : ∀ σ H Q, t' σ H Q → t σ H Q) : PT X e t' := ⟨fun pins s σ H Q I q => h.run pins s σ H Q I (w σ H Q q)⟩
theorem PA.weak {X : Cx} {e : List Expr} {t t' : TA} (h : PA X e t) (w : ∀ σ H Q, t' σ H Q → t σ H Q) : PA X e t' := ⟨fun pos pins s σ H Q I q => h.run pos pins s σ H Q I (w σ H Q q)⟩
theorem PS.weak {X : Cx} {e : Stmt} {t t' : TS} (h : PS X e t) (w : ∀ D σ H, t' D σ H → t D σ H) : PS X e t' := ⟨fun pins s σ H D I q => h.run pins s σ H D I (w D σ H q)⟩
theorem PSs.weak {X : Cx} {e : List Stmt} {t t' : TS} (h : PSs X e t) (w : ∀ D σ H, t' D σ H → t D σ H) : PSs X e t' := ⟨fun pins s σ H D I q => h.run pins s σ H D I (w D σ H q)⟩
end
end SI

namespace SI
open PySem PySem.Spec PyProof.Rows L2
/-! ### readings of the parts -/
section
variable {X : Cx} {W : WX}

/-! names and constants -/
def fVar (i : Nat) : F D := fun L s => match L[i]? with
  | some (some d) => .ok d s
  | _ => .bad
theorem pE_var (i : Nat) {x : Str} {pos : Pos} (hN : X.N[i]? = some x := by rfl) (hv : Vis X.env.scope x := by first | exact Or.inl rfl | exact Or.inr (Or.inl rfl) | exact Or.inr (Or.inr rfl)) (hd : (x == ("__debug__" : Str)) = false := by decide)
    (hcd : (x == ("__classdict__" : Str)) = false := by decide) : PE X (.Name x pos) (tE X.K W (fVar i)) := by
  refine PE.weak (pe_var hN hv hd hcd) fun σ H Q h => ?_
  obtain ⟨mu, s, L, m, l, p⟩ := h
  unfold fVar at p
  cases e : L[i]? with
  | none =>
    rw [e] at p
    exact p.elim
  | some od =>
    cases od with
    | none =>
      rw [e] at p
      exact p.elim
    | some d =>
      rw [e] at p
      obtain ⟨v, e1, r⟩ := l.at_ i d e
      exact ⟨v, e1, p mu H v (Ge.refl _ _) m r⟩
def fC (d : D) : F D := fun _ s => .ok d s
theorem weakC {d : D} {v : V} {e : Expr} (h : PE X e (tC v)) (r : ∀ mu H, RelD X.K mu H d v) : PE X e (tE X.K W (fC d)) := by
  refine PE.weak h fun σ H Q h => ?_
  obtain ⟨mu, s, L, m, l, p⟩ := h
  exact p mu H v (Ge.refl _ _) m (r mu H)
theorem pE_int {i j pos} : PE X (.Constant (.int i) j pos) (tE X.K W (fC (.int i))) := weakC pe_int fun _ _ => by simp only [RelD]
theorem pE_bl {b j pos} : PE X (.Constant (.bool b) j pos) (tE X.K W (fC (.bl b))) := weakC pe_bl fun _ _ => by simp only [RelD]
theorem pE_non {j pos} : PE X (.Constant .none j pos) (tE X.K W (fC .non)) := weakC pe_non fun _ _ => by simp only [RelD]
/-- a module's int -/
theorem pE_gint {x : Str} {i : Int} {t : Tok} {pos : Pos} (hm : X.mg x = some (.int i t)) (hg : Gl X x := by rfl) (hd : (x == ("__debug__" : Str)) = false := by decide) : PE X (.Name x pos) (tE X.K W (fC (.int i))) :=
  weakC (pe_glob (v := .int i) hg hm ⟨t, rfl⟩ hd) fun _ _ => by simp only [RelD]
/-- a built-in class -/
theorem pE_ty {x : Str} {n : String} {pos : Pos} (hm : X.mg x = none) (hv : bootBuiltins x = some (.type n)) (hg : Gl X x := by rfl) (hn : x ≠ "__name__" := by decide) (hd : (x == ("__debug__" : Str)) = false := by decide) : PE X (.Name x pos) (tE X.K W (fC (.ty n))) :=
  weakC (pe_bltn (v := .ty n) hg hm hv rfl hn hd) fun _ _ => by simp only [RelD]

/-! ### operators by values -/
def fOp (o : S → D → D → Option D) (f g : F D) : F D := fun L s => (f L s).bind fun a s1 => (g L s1).bind fun b s2 => match o s2 a b with
  | some d => .ok d s2
  | none => .bad
def OpL (K : PySem.W.Frag) (r : R2) (o : S → D → D → Option D) : Prop :=
  ∀ (mu : Mu) (s : S) (H : Hp) (a b d : D) (x y : V) (Q : VK), Sim K mu s H → RelD K mu H a x → RelD K mu H b y → o s a b = some d →
    (∀ mu' H' v, Ge mu H mu' H' → Sim K mu' s H' → RelD K mu' H' d v → Q v H') → r x y H Q
variable {a b c e : Expr} {f g h : F D} {pos : Pos}
theorem weak_op {r : R2} {o : S → D → D → Option D} (hl : OpL X.K r o) (σ : L2.St) (H : Hp) (Q : VK) (hq : tE X.K W (fOp o f g) σ H Q) : tOp r (tE X.K W f) (tE X.K W g) σ H Q := by
  obtain ⟨mu, s, L, m, l, p⟩ := hq
  refine ⟨mu, s, L, m, l, Post.step p fun d1 s1 mu1 H1 v1 g1 m1 r1 p1 => ?_⟩
  refine ⟨mu1, s1, L, m1, l.mono g1, Post.step p1 fun d2 s2 mu2 H2 v2 g2 m2 r2 p2 => ?_⟩
  cases eo : o s2 d1 d2 with
  | none =>
    rw [eo] at p2
    exact p2.elim
  | some d =>
    rw [eo] at p2
    exact hl mu2 s2 H2 d1 d2 d v1 v2 Q m2 (r1.mono g2) r2 eo fun mu' H' v g' m' r' => p2 mu' H' v g' m' r'
theorem pE_op {op : Operator} {r : R2} {o : S → D → D → Option D} (ho : OpR X (binaryOp op) r) (hl : OpL X.K r o) (ha : PE X a (tE X.K W f)) (hb : PE X b (tE X.K W g)) : PE X (.BinOp a op b pos) (tE X.K W (fOp o f g)) :=
  PE.weak (pe_op ho ha hb) fun σ H Q q => weak_op hl σ H Q q
theorem pE_cmp {op : CmpOp} {r : R2} {o : S → D → D → Option D} (ho : OpR X (compareOp op) r) (hl : OpL X.K r o) (ha : PE X a (tE X.K W f)) (hb : PE X b (tE X.K W g)) (hm : behindInMarks op b = false := by first | exact nomark _ | rfl) :
    PE X (.Compare a [op] [b] pos) (tE X.K W (fOp o f g)) :=
  PE.weak (pe_cmpR ho ha hb hm) fun σ H Q q => weak_op hl σ H Q q
theorem pE_ix {r : R2} {o : S → D → D → Option D} (ho : IxR X r) (hl : OpL X.K r o) (ha : PE X a (tE X.K W f)) (hb : PE X b (tE X.K W g)) (hs : PlainIx b := by exact fun _ _ => rfl) : PE X (.Subscript a b pos) (tE X.K W (fOp o f g)) :=
  PE.weak (pe_ix ho ha hb hs) fun σ H Q q => weak_op hl σ H Q q
theorem OpL.or {r r' : R2} {o o' : S → D → D → Option D} {K : PySem.W.Frag} (h : OpL K r o) (h' : OpL K r' o') : OpL K (fun x y H Q => r x y H Q ∨ r' x y H Q) (fun s a b => (o s a b).or (o' s a b)) := by
  intro mu s H a b d x y Q m ra rb e q
  dsimp only at e
  cases eo : o s a b with
  | some z =>
    rw [eo] at e
    exact .inl (h mu s H a b d x y Q m ra rb (by rw [eo]; exact e) q)
  | none =>
    rw [eo] at e
    exact .inr (h' mu s H a b d x y Q m ra rb e q)

/-! ints -/
def dI2 (C : Int → Int → Bool) (g : Int → Int → D) (_ : S) : D → D → Option D
  | .int i, .int j => if C i j = true then some (g i j) else none
  | _, _ => none
def yes2 (_ _ : Int) : Bool := true
theorem rel_int {K : PySem.W.Frag} {mu : Mu} {H : Hp} {i : Int} {v : V} : RelD K mu H (.int i) v ↔ v = .int i := by simp only [RelD]
theorem rel_bl {K : PySem.W.Frag} {mu : Mu} {H : Hp} {i : Bool} {v : V} : RelD K mu H (.bl i) v ↔ v = .bl i := by simp only [RelD]
theorem rel_str {K : PySem.W.Frag} {mu : Mu} {H : Hp} {i : Str} {v : V} : RelD K mu H (.str i) v ↔ v = .str i := by simp only [RelD]
theorem rel_non {K : PySem.W.Frag} {mu : Mu} {H : Hp} {v : V} : RelD K mu H .non v ↔ v = .non := by simp only [RelD]
theorem opl_I {K : PySem.W.Frag} {C : Int → Int → Prop} {Cb : Int → Int → Bool} {g : Int → Int → V} {gd : Int → Int → D} (hc : ∀ i j, Cb i j = true → C i j) (hg : ∀ mu H i j, RelD K mu H (gd i j) (g i j)) : OpL K (rI C g) (dI2 Cb gd) := by
  intro mu s H a b d x y Q m ra rb e q
  cases a <;> simp only [dI2] at e <;> try cases e
  cases b <;> simp only [dI2] at e <;> try cases e
  rename_i i j
  split at e
  · rename_i hh
    cases e
    exact ⟨i, j, rel_int.mp ra, rel_int.mp rb, hc i j hh, q mu H _ (Ge.refl _ _) m (hg mu H i j)⟩
  · cases e
theorem opl_I0 {K : PySem.W.Frag} {g : Int → Int → V} {gd : Int → Int → D} (hg : ∀ mu H i j, RelD K mu H (gd i j) (g i j)) : OpL K (rI0 g) (dI2 yes2 gd) := by
  intro mu s H a b d x y Q m ra rb e q
  cases a <;> simp only [dI2] at e <;> try cases e
  cases b <;> simp only [dI2] at e <;> try cases e
  rename_i i j
  exact ⟨i, j, rel_int.mp ra, rel_int.mp rb, q mu H _ (Ge.refl _ _) m (hg mu H i j)⟩
def dSub : S → D → D → Option D := dI2 yes2 fun i j => .int (i - j)
def mulOk (i j : Int) : Bool := decide (i.natAbs.log2 + j.natAbs.log2 < 100000000)
def MulP (i j : Int) : Prop := i.natAbs.log2 + j.natAbs.log2 < 100000000
theorem bits_le_log (x : Int) : Builtin.Int.intBits x ≤ x.natAbs.log2 + 1 := by
  unfold Builtin.Int.intBits
  by_cases h : (x == 0) = true
  · rw [if_pos h]
    exact Nat.zero_le _
  · rw [if_neg h]
    exact Nat.le_refl _
theorem MulP.ok {i j : Int} (h : MulP i j) : IntMulOk i j := fun z => by
  have h1 := bits_le_log i
  have h2 := bits_le_log j
  have h3 : i.natAbs.log2 + j.natAbs.log2 < 100000000 := h
  have z2 := (Bool.and_eq_true_iff.mp z).2
  have z4 : ((Builtin.Int.intBits i + Builtin.Int.intBits j : Nat) : Int) > bitsLine := of_decide_eq_true z2
  have e0 : bitsLine = 134217728 := by decide
  rw [e0] at z4
  omega
theorem op_mulX : OpR X (binaryOp .Mult) (rI MulP fun i j => .int (i * j)) := opI fun i j t u Q s E hc q => mul_int q (MulP.ok hc)
def divOk (_ j : Int) : Bool := decide (0 < j ∧ j.natAbs.log2 < 9000)
def modOk (_ j : Int) : Bool := decide (0 < j)
def dDiv : S → D → D → Option D := dI2 divOk fun i j => .int (i / j)
def dMod : S → D → D → Option D := dI2 modOk fun i j => .int (i % j)
def dAddI : S → D → D → Option D := dI2 yes2 fun i j => .int (i + j)
def dLt : S → D → D → Option D := dI2 yes2 fun i j => .bl (decide (i < j))
def dLe : S → D → D → Option D := dI2 yes2 fun i j => .bl (decide (i ≤ j))
def dGt : S → D → D → Option D := dI2 yes2 fun i j => .bl (decide (j < i))
def dGe : S → D → D → Option D := dI2 yes2 fun i j => .bl (decide (j ≤ i))
def powOk (i j : Int) : Bool := decide (0 ≤ j ∧ j ≤ 1000000 ∧ i.natAbs < 2 ^ 64)
def dPow : S → D → D → Option D := dI2 powOk fun i j => .int (i ^ j.toNat)
theorem pE_sub (ha : PE X a (tE X.K W f)) (hb : PE X b (tE X.K W g)) : PE X (.BinOp a .Sub b pos) (tE X.K W (fOp dSub f g)) := pE_op op_sub (opl_I0 fun _ _ _ _ => by simp only [RelD]) ha hb
theorem pE_div (ha : PE X a (tE X.K W f)) (hb : PE X b (tE X.K W g)) : PE X (.BinOp a .FloorDiv b pos) (tE X.K W (fOp dDiv f g)) := pE_op op_fdivW (opl_I (Cb := divOk) (fun i j h => by unfold divOk at h; have h2 := of_decide_eq_true h; exact h2) fun _ _ _ _ => by simp only [RelD]) ha hb
theorem pE_mod (ha : PE X a (tE X.K W f)) (hb : PE X b (tE X.K W g)) : PE X (.BinOp a .Mod b pos) (tE X.K W (fOp dMod f g)) := pE_op op_mod (opl_I (fun i j h => of_decide_eq_true h) fun _ _ _ _ => by simp only [RelD]) ha hb
theorem pE_pow (ha : PE X a (tE X.K W f)) (hb : PE X b (tE X.K W g)) : PE X (.BinOp a .Pow b pos) (tE X.K W (fOp dPow f g)) := pE_op op_pow (opl_I (Cb := powOk) (fun i j h => by unfold powOk at h; have h2 := of_decide_eq_true h; exact h2) fun _ _ _ _ => by simp only [RelD]) ha hb
/-- a < b < c -/
def fChain (o o' : S → D → D → Option D) (f g h : F D) : F D := fun L s => (f L s).bind fun a s1 => (g L s1).bind fun b s2 => match o s2 a b with
  | some (.bl true) => (h L s2).bind fun c s3 => match o' s3 b c with
    | some d => .ok d s3
    | none => .bad
  | some (.bl false) => .ok (.bl false) s2
  | _ => .bad
theorem pE_chain {op op' : CmpOp} {r r' : R2} {o o' : S → D → D → Option D} {h : F D} (ho : OpR X (compareOp op) r) (ho' : OpR X (compareOp op') r') (hl : OpL X.K r o) (hl' : OpL X.K r' o') (ha : PE X a (tE X.K W f)) (hb : PE X b (tE X.K W g)) (hc : PE X c (tE X.K W h))
    (hx : PE X (.Compare a [op, op'] [b, c] pos) (tChain r r' (tE X.K W f) (tE X.K W g) (tE X.K W h))) : PE X (.Compare a [op, op'] [b, c] pos) (tE X.K W (fChain o o' f g h)) := by
  refine PE.weak hx fun σ H Q hq => ?_
  obtain ⟨mu, s, L, m, l, p⟩ := hq
  refine ⟨mu, s, L, m, l, Post.step p fun d1 s1 mu1 H1 v1 g1 m1 r1 p1 => ?_⟩
  refine ⟨mu1, s1, L, m1, l.mono g1, Post.step p1 fun d2 s2 mu2 H2 v2 g2 m2 r2 p2 => ?_⟩
  cases eo : o s2 d1 d2 with
  | none =>
    rw [eo] at p2
    exact p2.elim
  | some d =>
    rw [eo] at p2
    refine hl mu2 s2 H2 d1 d2 d v1 v2 _ m2 (r1.mono g2) r2 eo fun mu' H' v g' m' r' => ?_
    cases d <;> try exact p2.elim
    rename_i bb
    have ev := rel_bl.mp r'
    refine ⟨bb, ev, ?_⟩
    cases bb with
    | false => exact p2 mu' H' _ g' m' (rel_bl.mpr rfl)
    | true =>
      show tE X.K W h σ H' _
      refine ⟨mu', s2, L, m', ((l.mono g1).mono g2).mono g', Post.step (Post.ge g' p2) fun d3 s3 mu3 H3 v3 g3 m3 r3 p3 => ?_⟩
      cases eo' : o' s3 d2 d3 with
      | none =>
        rw [eo'] at p3
        exact p3.elim
      | some d =>
        rw [eo'] at p3
        exact hl' mu3 s3 H3 d2 d3 d v2 v3 Q m3 ((r2.mono g').mono g3) r3 eo' fun mu4 H4 v4 g4 m4 r4 => p3 mu4 H4 v4 g4 m4 r4
/-! ### truth -/
def fNotV (f : F D) : F D := fun L s => (f L s).bind fun a s1 => match a with
  | .bl b => .ok (.bl (!b)) s1
  | _ => .bad
theorem pE_not (ha : PE X a (tE X.K W f)) : PE X (.UnaryOp .Not a pos) (tE X.K W (fNotV f)) := by
  refine PE.weak (pe_not ha) fun σ H Q hq => ?_
  obtain ⟨mu, s, L, m, l, p⟩ := hq
  refine ⟨mu, s, L, m, l, Post.step p fun d1 s1 mu1 H1 v1 g1 m1 r1 p1 => ?_⟩
  cases d1 <;> try exact p1.elim
  rename_i bb
  exact ⟨bb, rel_bl.mp r1, p1 mu1 H1 _ (Ge.refl _ _) m1 (rel_bl.mpr rfl)⟩
def fAndV (f g : F D) : F D := fun L s => (f L s).bind fun a s1 => match a with
  | .bl true => g L s1
  | .bl false => .ok (.bl false) s1
  | _ => .bad
def fOrV (f g : F D) : F D := fun L s => (f L s).bind fun a s1 => match a with
  | .bl true => .ok (.bl true) s1
  | .bl false => g L s1
  | _ => .bad
theorem pE_one {op} (h : PE X a (tE X.K W f)) : PE X (.BoolOp op [a] pos) (tE X.K W f) := pe_one h
theorem pE_and {rest : List Expr} (ha : PE X a (tE X.K W f)) (hb : PE X (.BoolOp .And (b :: rest) pos) (tE X.K W g)) : PE X (.BoolOp .And (a :: b :: rest) pos) (tE X.K W (fAndV f g)) := by
  refine PE.weak (pe_and ha hb) fun σ H Q hq => ?_
  obtain ⟨mu, s, L, m, l, p⟩ := hq
  refine ⟨mu, s, L, m, l, Post.step p fun d1 s1 mu1 H1 v1 g1 m1 r1 p1 => ?_⟩
  cases d1 <;> try exact p1.elim
  rename_i bb
  refine ⟨bb, rel_bl.mp r1, ?_⟩
  cases bb with
  | true => exact ⟨mu1, s1, L, m1, l.mono g1, p1⟩
  | false => exact p1 mu1 H1 _ (Ge.refl _ _) m1 (rel_bl.mpr rfl)
/-! tests -/
def fTst (f : F D) : F Bool := fun L s => (f L s).bind fun a s1 => match a with
  | .bl b => .ok b s1
  | _ => .bad
def fNot (t : F Bool) : F Bool := fun L s => (t L s).bind fun b s1 => .ok (!b) s1
def fAnd (t u : F Bool) : F Bool := fun L s => (t L s).bind fun b s1 => if b = true then u L s1 else .ok false s1
def fOr (t u : F Bool) : F Bool := fun L s => (t L s).bind fun b s1 => if b = true then .ok true s1 else u L s1
def fIf (t : F Bool) (f g : F D) : F D := fun L s => (t L s).bind fun b s1 => if b = true then f L s1 else g L s1
variable {t u : F Bool}
theorem pT_val (h : PE X e (tE X.K W f)) (he : ∀ whole, isTrue e X.env whole = (do let v ← whole; standAt e.pos; holding [v] (truthy v)) := by intro _; rfl) : PT X e (tT X.K W (fTst f)) := by
  refine PT.weak (pt_val h he) fun σ H Q hq => ?_
  obtain ⟨mu, s, L, m, l, p⟩ := hq
  refine ⟨mu, s, L, m, l, Post.step p fun d1 s1 mu1 H1 v1 g1 m1 r1 p1 => ?_⟩
  cases d1 <;> try exact p1.elim
  rename_i bb
  exact ⟨bb, rel_bl.mp r1, p1 mu1 H1 _ (Ge.refl _ _) m1 rfl⟩
theorem tT_step {α : Type} {t : F Bool} {L : Lc} {s : S} {mu : Mu} {H : Hp} {σ : L2.St} {k : Bool → S → R α} {β : Type} {rel : Mu → Hp → α → β → Prop} {Q : β → Hp → Prop} {Q1 : Bool → Hp → Prop}
    (p : Post X.K W rel σ mu H Q ((t L s).bind k)) (hk : ∀ b s' mu' H', Ge mu H mu' H' → Sim X.K mu' s' H' → Post X.K W rel σ mu' H' Q (k b s') → Q1 b H') : Post X.K W (fun _ _ (a b : Bool) => a = b) σ mu H Q1 (t L s) :=
  Post.step p fun d s' mu' H' v g m e p' => by
    subst e
    exact hk d s' mu' H' g m p'
theorem pT_not (ha : PT X a (tT X.K W t)) : PT X (.UnaryOp .Not a pos) (tT X.K W (fNot t)) := by
  refine PT.weak (pt_not ha) fun σ H Q hq => ?_
  obtain ⟨mu, s, L, m, l, p⟩ := hq
  exact ⟨mu, s, L, m, l, tT_step p fun b s1 mu1 H1 g1 m1 p1 => p1 mu1 H1 _ (Ge.refl _ _) m1 rfl⟩
theorem PW.weak {X : Cx} {e : Expr} {t t' : TT} (h : PW X e t) (w : ∀ σ H Q, t' σ H Q → t σ H Q) : PW X e t' := ⟨fun wh pins s σ H Q I q => h.run wh pins s σ H Q I (w σ H Q q)⟩
theorem pW_and1 (ha : PT X a (tT X.K W t)) : PW X (.BoolOp .And [a] pos) (tT X.K W t) := pw_and1 ha
theorem pW_or1 (ha : PT X a (tT X.K W t)) : PW X (.BoolOp .Or [a] pos) (tT X.K W t) := pw_or1 ha
theorem pW_and {rest : List Expr} (ha : PT X a (tT X.K W t)) (hb : PW X (.BoolOp .And (b :: rest) pos) (tT X.K W u)) : PW X (.BoolOp .And (a :: b :: rest) pos) (tT X.K W (fAnd t u)) := by
  refine PW.weak (pw_and ha hb) fun σ H Q hq => ?_
  obtain ⟨mu, s, L, m, l, p⟩ := hq
  refine ⟨mu, s, L, m, l, tT_step p fun b s1 mu1 H1 g1 m1 p1 => ?_⟩
  cases b with
  | true => exact ⟨mu1, s1, L, m1, l.mono g1, p1⟩
  | false => exact p1 mu1 H1 _ (Ge.refl _ _) m1 rfl
theorem pW_or {rest : List Expr} (ha : PT X a (tT X.K W t)) (hb : PW X (.BoolOp .Or (b :: rest) pos) (tT X.K W u)) : PW X (.BoolOp .Or (a :: b :: rest) pos) (tT X.K W (fOr t u)) := by
  refine PW.weak (pw_or ha hb) fun σ H Q hq => ?_
  obtain ⟨mu, s, L, m, l, p⟩ := hq
  refine ⟨mu, s, L, m, l, tT_step p fun b s1 mu1 H1 g1 m1 p1 => ?_⟩
  cases b with
  | false => exact ⟨mu1, s1, L, m1, l.mono g1, p1⟩
  | true => exact p1 mu1 H1 _ (Ge.refl _ _) m1 rfl
theorem pE_if {c : Expr} (hc : PT X c (tT X.K W t)) (ha : PE X a (tE X.K W f)) (hb : PE X b (tE X.K W g)) : PE X (.IfExp c a b pos) (tE X.K W (fIf t f g)) := by
  refine PE.weak (pe_ifExp hc ha hb) fun σ H Q hq => ?_
  obtain ⟨mu, s, L, m, l, p⟩ := hq
  refine ⟨mu, s, L, m, l, tT_step p fun b s1 mu1 H1 g1 m1 p1 => ?_⟩
  cases b with
  | false => exact ⟨mu1, s1, L, m1, l.mono g1, p1⟩
  | true => exact ⟨mu1, s1, L, m1, l.mono g1, p1⟩
/-! ### arguments, displays -/
def fNil : F (List D) := fun _ s => .ok [] s
def fCons (f : F D) (r : F (List D)) : F (List D) := fun L s => (f L s).bind fun a s1 => (r L s1).bind fun as s2 => .ok (a :: as) s2
variable {fa : F (List D)} {es : List Expr}
theorem pA_nil : PA X [] (tA X.K W fNil) := by
  refine PA.weak pa_nil fun σ H Q hq => ?_
  obtain ⟨mu, s, L, m, l, p⟩ := hq
  exact p mu H _ (Ge.refl _ _) m .nil
theorem pA_cons (ha : PE X e (tE X.K W f)) (hr : PA X es (tA X.K W fa)) (hs : starEach (e :: es) X.env = (false, eval e X.env) :: starEach es X.env := by rfl) : PA X (e :: es) (tA X.K W (fCons f fa)) := by
  refine PA.weak (pa_cons ha hr hs) fun σ H Q hq => ?_
  obtain ⟨mu, s, L, m, l, p⟩ := hq
  refine ⟨mu, s, L, m, l, Post.step p fun d1 s1 mu1 H1 v1 g1 m1 r1 p1 => ?_⟩
  refine ⟨mu1, s1, L, m1, l.mono g1, Post.step p1 fun d2 s2 mu2 H2 v2 g2 m2 r2 p2 => ?_⟩
  exact p2 mu2 H2 _ (Ge.refl _ _) m2 (.cons (r1.mono g2) r2)
def big : Nat := 1000000
theorem big_le {n : Nat} (h : n ≤ big) : n ≤ sizeLine := by
  rw [sizeLine_eq]
  unfold big at h
  omega
/-- a tuple; a list that is never changed; a list that is tracked -/
def fTup (fa : F (List D)) : F D := fun L s => (fa L s).bind fun ds s1 => if ds.length ≤ big then .ok (.tup ds) s1 else .bad
def fLst (fa : F (List D)) : F D := fun L s => (fa L s).bind fun ds s1 => if ds.length ≤ big then .ok (.lst ds) s1 else .bad
def fLstT (fa : F (List D)) : F D := fun L s => (fa L s).bind fun ds s1 => if ds.length ≤ big then .ok (.ref s1.length) (s1 ++ [.lst ds]) else .bad
theorem rel_tup {K : PySem.W.Frag} {mu : Mu} {s : S} {H : Hp} {p : Addr} {ds : List D} {vs : List V} (m : Sim K mu s H) (hp : H p = none) (r : RelDs K mu H ds vs) : RelD K mu (upd H p (.tup vs)) (.tup ds) (.ref p) := by
  simp only [RelD]
  exact ⟨p, vs, rfl, .inr ⟨upd_same, m.fresh hp⟩, r.mono (Ge.pure m hp)⟩
theorem rel_lst {K : PySem.W.Frag} {mu : Mu} {s : S} {H : Hp} {p : Addr} {ds : List D} {vs : List V} (m : Sim K mu s H) (hp : H p = none) (r : RelDs K mu H ds vs) : RelD K mu (upd H p (.lst vs)) (.lst ds) (.ref p) := by
  simp only [RelD]
  exact ⟨p, vs, rfl, ⟨upd_same, m.fresh hp⟩, r.mono (Ge.pure m hp)⟩
theorem pE_tup {x1} (h : PA X es (tA X.K W fa)) : PE X (.Tuple es x1 pos) (tE X.K W (fTup fa)) := by
  refine PE.weak (pe_tup h) fun σ H Q hq => ?_
  obtain ⟨mu, s, L, m, l, p⟩ := hq
  refine ⟨mu, s, L, m, l, Post.step p fun d1 s1 mu1 H1 v1 g1 m1 r1 p1 => ?_⟩
  split at p1
  · rename_i hb
    exact ⟨by rw [← r1.length]; exact big_le hb, fun q hq => p1 mu1 _ _ (Ge.pure m1 hq) (m1.pure hq) (rel_tup m1 hq r1)⟩
  · exact p1.elim
theorem pE_lst (h : PA X es (tA X.K W fa)) : PE X (.List es pos) (tE X.K W (fLst fa)) := by
  refine PE.weak (pe_lst h) fun σ H Q hq => ?_
  obtain ⟨mu, s, L, m, l, p⟩ := hq
  refine ⟨mu, s, L, m, l, Post.step p fun d1 s1 mu1 H1 v1 g1 m1 r1 p1 => ?_⟩
  split at p1
  · rename_i hb
    exact ⟨by rw [← r1.length]; exact big_le hb, fun q hq => p1 mu1 _ _ (Ge.pure m1 hq) (m1.pure hq) (rel_lst m1 hq r1)⟩
  · exact p1.elim
theorem rel_ref_last {K : PySem.W.Frag} {mu : Mu} {s : S} {H H' : Hp} {p : Addr} (m : Sim K mu s H) : RelD K (mu ++ [some p]) H' (.ref s.length) (.ref p) := by
  simp only [RelD]
  exact ⟨p, by rw [← m.len, List.getElem?_append_right (Nat.le_refl _), Nat.sub_self]; rfl, rfl⟩
theorem pE_lstT (h : PA X es (tA X.K W fa)) : PE X (.List es pos) (tE X.K W (fLstT fa)) := by
  refine PE.weak (pe_lst h) fun σ H Q hq => ?_
  obtain ⟨mu, s, L, m, l, p⟩ := hq
  refine ⟨mu, s, L, m, l, Post.step p fun d1 s1 mu1 H1 v1 g1 m1 r1 p1 => ?_⟩
  split at p1
  · rename_i hb
    exact ⟨by rw [← r1.length]; exact big_le hb, fun q hq => p1 _ _ _ (Ge.track m1 hq) (m1.track hq ⟨v1, upd_same, r1.mono (Ge.track m1 hq)⟩) (rel_ref_last m1)⟩
  · exact p1.elim
/-! ### calls of built-ins by values -/
def fCB (o : S → List D → Option D) (fa : F (List D)) : F D := fun L s => (fa L s).bind fun ds s1 => match o s1 ds with
  | some d => .ok d s1
  | none => .bad
def CbL (K : PySem.W.Frag) (r : List V → Hp → VK → Prop) (o : S → List D → Option D) : Prop :=
  ∀ (mu : Mu) (s : S) (H : Hp) (ds : List D) (d : D) (vs : List V) (Q : VK), Sim K mu s H → RelDs K mu H ds vs → o s ds = some d →
    (∀ mu' H' v, Ge mu H mu' H' → Sim K mu' s H' → RelD K mu' H' d v → Q v H') → r vs H Q
theorem weak_cb {r : List V → Hp → VK → Prop} {o : S → List D → Option D} (hl : CbL X.K r o) (σ : L2.St) (H : Hp) (Q : VK) (hq : tE X.K W (fCB o fa) σ H Q) : tCB r (tA X.K W fa) σ H Q := by
  obtain ⟨mu, s, L, m, l, p⟩ := hq
  refine ⟨mu, s, L, m, l, Post.step p fun d1 s1 mu1 H1 v1 g1 m1 r1 p1 => ?_⟩
  cases eo : o s1 d1 with
  | none =>
    rw [eo] at p1
    exact p1.elim
  | some d =>
    rw [eo] at p1
    exact hl mu1 s1 H1 d1 d v1 Q m1 r1 eo fun mu' H' v g' m' r' => p1 mu' H' v g' m' r'
theorem pE_cb {id : String} {x : Str} {p : Pos} {r : List V → Hp → VK → Prop} {o : S → List D → Option D} (hc : CallR X (.builtin id) r) (hl : CbL X.K r o) (hm : X.mg x = none) (hv : bootBuiltins x = some (.builtin id)) (ha : PA X (e :: es) (tA X.K W fa)) (hg : Gl X x := by rfl)
    (hn : x ≠ "__name__" := by decide) (hdb : (x == ("__debug__" : Str)) = false := by decide)
    (he : starEach (e :: es) X.env = (false, eval e X.env) :: starEach es X.env := by rfl) (hpl : (backTo pos (starEach es X.env)).any (·.1) = false := by rfl) : PE X (.Call (.Name x p) (e :: es) [] pos) (tE X.K W (fCB o fa)) :=
  PE.weak (pe_callB hc hg hm hv ha hn hdb he hpl) fun σ H Q q => weak_cb hl σ H Q q
theorem pE_cty {T : String} {x : Str} {p : Pos} {r : List V → Hp → VK → Prop} {o : S → List D → Option D} (hc : CallR X (.type T) r) (hl : CbL X.K r o) (hm : X.mg x = none) (hv : bootBuiltins x = some (.type T)) (ha : PA X (e :: es) (tA X.K W fa)) (hg : Gl X x := by rfl)
    (hn : x ≠ "__name__" := by decide) (hdb : (x == ("__debug__" : Str)) = false := by decide)
    (he : starEach (e :: es) X.env = (false, eval e X.env) :: starEach es X.env := by rfl) (hpl : (backTo pos (starEach es X.env)).any (·.1) = false := by rfl) : PE X (.Call (.Name x p) (e :: es) [] pos) (tE X.K W (fCB o fa)) :=
  PE.weak (pe_callTy hc hg hm hv ha hn hdb he hpl) fun σ H Q q => weak_cb hl σ H Q q
end
end SI

namespace SI
open PySem PySem.Spec PyProof.Rows L2
section
variable {X : Cx} {W : WX} {a b c e : Expr} {f g h : F D} {t : F Bool} {fa : F (List D)} {es : List Expr} {pos : Pos} {st : Stmt} {sts : List Stmt} {u v : FS}
/-! ### statements -/
def sBad : FS := fun _ _ => .bad
def sNext : FS := fun L s => .nx L s
def sSeq (u v : FS) : FS := fun L s => (u L s).bind v
def sAsg (i : Nat) (f : F D) : FS := fun L s => (f L s).bindS L fun d s1 => .nx (L.set i (some d)) s1
def sExpr (f : F D) : FS := fun L s => (f L s).bindS L fun _ s1 => .nx L s1
def sRet (f : F D) : FS := fun L s => (f L s).bindS L fun d s1 => .rt d s1
def sRetN : FS := fun _ s => .rt .non s
def sIf (t : F Bool) (u v : FS) : FS := fun L s => (t L s).bindS L fun b s1 => if b = true then u L s1 else v L s1
def sBreak : FS := fun L s => .bk L s
def sCont : FS := fun L s => .ct L s
theorem pSs_bad : PSs X sts (tS X.K W sBad) := ⟨fun _ _ _ _ _ _ ⟨_, _, _, _, _, p⟩ => p.elim⟩
theorem pSs_nil : PSs X [] (tS X.K W sNext) := PSs.weak pss_nil fun D σ H ⟨mu, s, L, m, l, p⟩ => p mu σ H (Ge.refl _ _) m l
theorem pSs_cons (h1 : PS X st (tS X.K W u)) (h2 : PSs X sts (tS X.K W v)) : PSs X (st :: sts) (tS X.K W (sSeq u v)) := by
  refine PSs.weak (pss_cons h1 h2) fun D σ H ⟨mu, s, L, m, l, p⟩ => ⟨mu, s, L, m, l, ?_⟩
  unfold sSeq at p
  cases e : u L s with
  | nx L' s' =>
    rw [e] at p
    exact fun mu' σ' H' g' m' l' => ⟨mu', s', L', m', l', PostS.ge (r := v L' s') g' p⟩
  | rt d s' => rw [e] at p; exact p
  | bk d s' => rw [e] at p; exact p
  | ct d s' => rw [e] at p; exact p
  | ex C fs ds L' s' => rw [e] at p; exact p
  | bad => rw [e] at p; exact p.elim
theorem pSs_one (h1 : PS X st (tS X.K W u)) : PSs X [st] (tS X.K W u) := pss_one h1
theorem pS_set {i : Nat} {x : Str} {pos' : Pos} (hN : X.N.Nodup) (he : PE X e (tE X.K W f)) (hi : X.N[i]? = some x := by rfl) (hx : Loc X.env.scope x := by first | exact Or.inl rfl | exact Or.inr rfl)
    (hs : swapsWith e (some (.Name x pos')) pos.line X.env = pure false := by rfl) (hf : X.fn x = true ∨ X.env.scope.names.lookup x = some .local := by first | exact .inl rfl | exact .inr rfl | assumption) :
    PS X (.Assign [.Name x pos'] e pos) (tS X.K W (sAsg i f)) := by
  refine PS.weak (ps_set hN hi hx he hs hf) fun D σ H ⟨mu, s, L, m, l, p⟩ => ⟨mu, s, L, m, l, ?_⟩
  exact Post.stepS l p fun d s1 mu1 H1 v1 g1 m1 r1 p1 => p1 mu1 _ H1 (Ge.refl _ _) m1 ((l.mono g1).set i r1)
theorem pS_expr (he : PE X e (tE X.K W f)) (hs : swapsWith e none pos.line X.env = pure false := by rfl) : PS X (.Expr e pos) (tS X.K W (sExpr f)) := by
  refine PS.weak (ps_expr he hs) fun D σ H ⟨mu, s, L, m, l, p⟩ => ⟨mu, s, L, m, l, ?_⟩
  exact Post.stepS l p fun d s1 mu1 H1 v1 g1 m1 r1 p1 => p1 mu1 _ H1 (Ge.refl _ _) m1 (l.mono g1)
theorem pS_ret (he : PE X e (tE X.K W f)) : PS X (.Return (some e) pos) (tS X.K W (sRet f)) := by
  refine PS.weak (ps_ret he) fun D σ H ⟨mu, s, L, m, l, p⟩ => ⟨mu, s, L, m, l, ?_⟩
  exact Post.stepS l p fun d s1 mu1 H1 v1 g1 m1 r1 p1 => p1 mu1 H1 _ (Ge.refl _ _) m1 r1
theorem pS_if {c : Expr} {as bs : List Stmt} (hc : PT X c (tT X.K W t)) (ha : PSs X as (tS X.K W u)) (hb : PSs X bs (tS X.K W v)) : PS X (.If c as bs pos) (tS X.K W (sIf t u v)) := by
  refine PS.weak (ps_if hc ha hb) fun D σ H ⟨mu, s, L, m, l, p⟩ => ⟨mu, s, L, m, l, ?_⟩
  refine Post.stepS l p fun d s1 mu1 H1 v1 g1 m1 r1 p1 => ?_
  subst r1
  cases d with
  | true => exact ⟨mu1, s1, L, m1, l.mono g1, p1⟩
  | false => exact ⟨mu1, s1, L, m1, l.mono g1, p1⟩
/-! ### targets -/
abbrev Tg := D → Lc → Option Lc
def tG (K : PySem.W.Frag) (q : Tg) : TG := fun v σ H Q => ∃ mu s L d L', Sim K mu s H ∧ LR K mu H L σ ∧ RelD K mu H d v ∧ q d L = some L' ∧ ∀ σ', LR K mu H L' σ' → Q σ' H
abbrev Tgs := List D → Lc → Option Lc
theorem PG.weak {X : Cx} {e : Expr} {t t' : TG} (h : PG X e t) (w : ∀ v σ H Q, t' v σ H Q → t v σ H Q) : PG X e t' := ⟨fun pins s σ H x u Q I r q => h.run pins s σ H x u Q I r (w _ _ _ _ q)⟩
theorem PGs.weak {X : Cx} {e : List Expr} {t t' : TGs} (h : PGs X e t) (w : ∀ v σ H Q, t' v σ H Q → t v σ H Q) : PGs X e t' := ⟨fun pins s σ H x u Q I r q => h.run pins s σ H x u Q I r (w _ _ _ _ q)⟩
def gN (i : Nat) : Tg := fun d L => some (L.set i (some d))
def gNl : Tgs := fun ds L => match ds with
  | [] => some L
  | _ => none
def gCn (q : Tg) (r : Tgs) : Tgs := fun ds L => match ds with
  | d :: ds => (q d L).bind (r ds)
  | [] => none
def gTp (r : Tgs) : Tg := fun d L => match d with
  | .tup ds => r ds L
  | _ => none
theorem pG_name {i : Nat} {x : Str} (hN : X.N.Nodup) (hi : X.N[i]? = some x := by rfl) (hx : Loc X.env.scope x := by first | exact Or.inl rfl | exact Or.inr rfl) (hf : X.fn x = true ∨ X.env.scope.names.lookup x = some .local := by first | exact .inl rfl | exact .inr rfl | assumption) : PG X (.Name x pos) (tG X.K (gN i)) := by
  refine PG.weak (pg_name hN hi hx hf) fun v σ H Q ⟨mu, s, L, d, L', m, l, r, e, q⟩ => ?_
  cases e
  exact q _ (l.set i r)
theorem sq_tup {K : PySem.W.Frag} {mu : Mu} {H : Hp} {ds : List D} {v : V} (h : RelD K mu H (.tup ds) v) : ∃ a vs, v = .ref a ∧ SqT K H a vs ∧ RelDs K mu H ds vs := by
  simp only [RelD] at h
  obtain ⟨a, vs, e, r, t⟩ := h
  refine ⟨a, vs, e, ?_, t⟩
  rcases r with r | r
  · exact .inr r
  · exact .inl (.inl r.1)
theorem sq_lst {K : PySem.W.Frag} {mu : Mu} {H : Hp} {ds : List D} {v : V} (h : RelD K mu H (.lst ds) v) : ∃ a vs, v = .ref a ∧ SqL K H a vs ∧ RelDs K mu H ds vs := by
  simp only [RelD] at h
  obtain ⟨a, vs, e, r, t⟩ := h
  exact ⟨a, vs, e, .of r.1, t⟩
theorem sq_rdl {K : PySem.W.Frag} {mu : Mu} {H : Hp} {ds : List D} {v : V} (h : RelD K mu H (.rdl ds) v) : ∃ a vs, v = .ref a ∧ SqL K H a vs ∧ RelDs K mu H ds vs := by
  simp only [RelD] at h
  obtain ⟨a, vs, e, r, t⟩ := h
  refine ⟨a, vs, e, ?_, t⟩
  rcases r with r | r
  · exact .inr r
  · exact .inl r.1
theorem sq_ref {K : PySem.W.Frag} {mu : Mu} {s : S} {H : Hp} {n : Nat} {ds : List D} {v : V} (m : Sim K mu s H) (h : RelD K mu H (.ref n) v) (e : s[n]? = some (.lst ds)) : ∃ a vs, v = .ref a ∧ mu[n]? = some (some a) ∧ H a = some (.lst vs) ∧ RelDs K mu H ds vs := by
  simp only [RelD] at h
  obtain ⟨a, ea, ev⟩ := h
  rcases m.obj n _ e with z | ⟨b, eb, r⟩
  · cases z
  · rw [ea] at eb
    cases eb
    obtain ⟨vs, h1, h2⟩ := r
    exact ⟨a, vs, ev, ea, h1, h2⟩
/-- target = value -/
def sAsgG (q : Tg) (f : F D) : FS := fun L s => (f L s).bindS L fun d s1 => match q d L with
  | some L' => .nx L' s1
  | none => .bad
/-! ### loops -/
/-- what is walked: its items, and which tracked list they are of -/
structure Src where
  items : List D
  on : Option (Nat × List D)
def chk (r : Src) (s : S) : Bool := match r.on with
  | none => true
  | some (n, xs) => decide (s[n]? = some (.lst xs))
/-- an iterator gives these items -/
def ItR (K : PySem.W.Frag) (mu : Mu) (H : Hp) (J : It) (r : Src) : Prop :=
  ∀ mu' s' H', Ge mu H mu' H' → Sim K mu' s' H' → chk r s' = true → ∀ i : Nat,
    (∀ d, r.items[i]? = some d → J.go i H' ∧ ∀ x H2, J.yld i H' x H2 → Ge mu' H' mu' H2 ∧ Sim K mu' s' H2 ∧ RelD K mu' H2 d x) ∧ (r.items[i]? = none → J.stop i H')
def tI (K : PySem.W.Frag) (W : WX) (f : F Src) : TI := fun σ H R => ∃ mu s L, Sim K mu s H ∧ LR K mu H L σ ∧ Post K W (fun mu' H' (r : Src) (J : It) => ItR K mu' H' J r) σ mu H R (f L s)
def forL (q : Tg) (body : FS) (r : Src) : List D → Lc → S → RS
  | [], L, s => if chk r s = true then .nx L s else .bad
  | d :: ds, L, s => if chk r s = true then (match q d L with
    | none => .bad
    | some L1 => match body L1 s with
      | .nx L2 s2 => forL q body r ds L2 s2
      | .ct L2 s2 => forL q body r ds L2 s2
      | .bk L2 s2 => .nx L2 s2
      | x => x) else .bad
def sFor (f : F Src) (q : Tg) (body : FS) : FS := fun L s => (f L s).bindS L fun r s1 => forL q body r r.items L s1
theorem pS_for {tg iter : Expr} {body : List Stmt} {fi : F Src} {q : Tg} {ub : FS} (hp : PassesOwn (model X.prog X.w) X.A X.env X.xe) (hc : X.calm = true) (hi : PI X tg iter (tI X.K W fi)) (hg : PG X tg (tG X.K q)) (hb : PSs X body (tS X.K W ub))
    (hs : ∀ x, foldedSetIterable iter X.env x = pure x := by intro _; rfl) : PS X (.For tg iter body [] pos) (tS X.K W (sFor fi q ub)) := by
  refine PS.weak (ps_for hp hc hi hg hb hs) fun D σ H ⟨mu, s, L, m, l, p⟩ => ⟨mu, s, L, m, l, ?_⟩
  refine Post.stepS l p fun r s1 mu1 H1 J g1 m1 ir p1 => ?_
  refine ⟨fun i n σ' H' => n = r.items.length - i ∧ i ≤ r.items.length ∧ ∃ mu' s' L', Ge mu1 H1 mu' H' ∧ Sim X.K mu' s' H' ∧ LR X.K mu' H' L' σ' ∧ PostS X.K W D mu' H' (forL q ub r (r.items.drop i) L' s'),
    ⟨_, rfl, Nat.zero_le _, mu1, s1, L, Ge.refl _ _, m1, l.mono g1, p1⟩, ?_⟩
  rintro i n σ' H' ⟨rfl, hi', mu', s', L', g', m', l', p'⟩
  by_cases hlt : i < r.items.length
  · have hd : r.items.drop i = r.items[i] :: r.items.drop (i + 1) := List.drop_eq_getElem_cons hlt
    rw [hd] at p'
    unfold forL at p'
    by_cases hk : chk r s' = true
    · rw [if_pos hk] at p'
      have hir := (ir mu' s' H' g' m' hk i).1 _ (List.getElem?_eq_getElem hlt)
      refine .inr ⟨hir.1, fun σ2 H2 => ∃ mu2 s2 L2, Ge mu1 H1 mu2 H2 ∧ Sim X.K mu2 s2 H2 ∧ LR X.K mu2 H2 L2 σ2 ∧ PostS X.K W D mu2 H2 (forL q ub r (r.items.drop (i + 1)) L2 s2), fun σ2 H2 n2 => ⟨_, ?_, rfl, hlt, n2⟩, fun x H2 hy => ?_⟩
      · omega
      · obtain ⟨g2, m2, r2⟩ := hir.2 x H2 hy
        cases eq : q r.items[i] L' with
        | none =>
          rw [eq] at p'
          exact p'.elim
        | some L1 =>
          rw [eq] at p'
          refine ⟨mu', s', L', _, L1, m2, l'.mono g2, r2, eq, fun σ3 l3 => ⟨mu', s', L1, m2, l3, ?_⟩⟩
          dsimp only at p'
          cases eb : ub L1 s' with
          | nx L2 s2 =>
            rw [eb] at p'
            exact fun mu4 σ4 H4 g4 m4 l4 => ⟨mu4, s2, L2, (g'.trans g2).trans g4, m4, l4, PostS.ge (g2.trans g4) p'⟩
          | ct L2 s2 =>
            rw [eb] at p'
            exact fun mu4 σ4 H4 g4 m4 l4 => ⟨mu4, s2, L2, (g'.trans g2).trans g4, m4, l4, PostS.ge (g2.trans g4) p'⟩
          | bk L2 s2 =>
            rw [eb] at p'
            exact fun mu4 σ4 H4 g4 m4 l4 => p' mu4 σ4 H4 (g2.trans g4) m4 l4
          | rt d s2 =>
            rw [eb] at p'
            exact fun mu4 H4 v4 g4 m4 r4 => p' mu4 H4 v4 (g2.trans g4) m4 r4
          | ex C fs ds L2 s2 =>
            rw [eb] at p'
            exact fun mu4 σ4 H4 od g4 m4 l4 x4 => p' mu4 σ4 H4 od (g2.trans g4) m4 l4 x4
          | bad =>
            rw [eb] at p'
            exact p'.elim
    · rw [if_neg hk] at p'
      exact p'.elim
  · have hd : r.items.drop i = [] := List.drop_eq_nil_of_le (by omega)
    rw [hd] at p'
    unfold forL at p'
    by_cases hk : chk r s' = true
    · rw [if_pos hk] at p'
      exact .inl ⟨(ir mu' s' H' g' m' hk i).2 (List.getElem?_eq_none (by omega)), p' mu' σ' H' (Ge.refl _ _) m' l'⟩
    · rw [if_neg hk] at p'
      exact p'.elim
/-! what is walked -/
def iSeq (s : S) : D → Option Src
  | .lst xs => some ⟨xs, none⟩
  | .rdl xs => some ⟨xs, none⟩
  | .tup xs => some ⟨xs, none⟩
  | .ref n => match s[n]? with
    | some (.lst xs) => some ⟨xs, some (n, xs)⟩
    | _ => none
  | _ => none
def fSrc (f : F D) : F Src := fun L s => (f L s).bind fun d s1 => match iSeq s1 d with
  | some r => .ok r s1
  | none => .bad
theorem PI.weak {X : Cx} {tg e : Expr} {t t' : TI} (h : PI X tg e t) (w : ∀ σ H R, t' σ H R → t σ H R) : PI X tg e t' := ⟨fun pins s σ H R I q => h.run pins s σ H R I (w _ _ _ q)⟩
theorem PI.or {X : Cx} {tg e : Expr} {t t' : TI} (h : PI X tg e t) (h' : PI X tg e t') : PI X tg e (fun σ H R => t σ H R ∨ t' σ H R) := ⟨fun pins s σ H R I q => q.elim (h.run pins s σ H R I) (h'.run pins s σ H R I)⟩
theorem itr_lst {K : PySem.W.Frag} {mu : Mu} {H : Hp} {ds : List D} {a : Addr} {vs : List V} (h : KLst K a vs ∨ FixR mu H a (.lst vs)) (rs : RelDs K mu H ds vs) : ItR K mu H (Itl K a) ⟨ds, none⟩ := by
  intro mu' s' H' g m _ i
  have sq : SqL K H' a vs := h.elim .inr fun z => .inl (g.fixR z).1
  have rs' := rs.mono g
  refine ⟨fun d e => ?_, fun e => ?_⟩
  · obtain ⟨v, ev, rv⟩ := rs'.get e
    refine ⟨⟨vs, v, sq, ev⟩, fun x H2 hy => ?_⟩
    obtain ⟨e2, hx⟩ := hy
    subst e2
    have := hx vs sq
    rw [ev] at this
    cases this
    exact ⟨Ge.refl _ _, m, rv⟩
  · refine ⟨vs, sq, ?_⟩
    have hl := rs'.length
    have := List.getElem?_eq_none_iff.mp e
    have e2 : ds.length ≤ i := this
    omega
theorem itr_tup {K : PySem.W.Frag} {mu : Mu} {H : Hp} {ds : List D} {a : Addr} {vs : List V} (h : KTup K a vs ∨ Fix mu H a (.tup vs)) (rs : RelDs K mu H ds vs) : ItR K mu H (Itt K a) ⟨ds, none⟩ := by
  intro mu' s' H' g m _ i
  have sq : SqT K H' a vs := h.elim .inr fun z => .inl (.inl (g.fix z).1)
  have rs' := rs.mono g
  refine ⟨fun d e => ?_, fun e => ?_⟩
  · obtain ⟨v, ev, rv⟩ := rs'.get e
    refine ⟨⟨vs, v, sq, ev⟩, fun x H2 hy => ?_⟩
    obtain ⟨e2, hx⟩ := hy
    subst e2
    have := hx vs sq
    rw [ev] at this
    cases this
    exact ⟨Ge.refl _ _, m, rv⟩
  · refine ⟨vs, sq, ?_⟩
    have hl := rs'.length
    have := List.getElem?_eq_none_iff.mp e
    have e2 : ds.length ≤ i := this
    omega
theorem itr_ref {K : PySem.W.Frag} {mu : Mu} {H : Hp} {ds : List D} {a : Addr} {n : Nat} (ha : mu[n]? = some (some a)) : ItR K mu H (Itl K a) ⟨ds, some (n, ds)⟩ := by
  intro mu' s' H' g m hk i
  have e : s'[n]? = some (.lst ds) := by
    simpa [chk] using hk
  have ha' := g.rf n a ha
  obtain ⟨b, vs, e1, e2, e3, rs'⟩ := sq_ref (v := .ref a) m (by simp only [RelD]; exact ⟨a, ha', rfl⟩) e
  cases e1
  have sq : SqL K H' a vs := .of e3
  refine ⟨fun d e => ?_, fun e => ?_⟩
  · obtain ⟨v, ev, rv⟩ := rs'.get e
    refine ⟨⟨vs, v, sq, ev⟩, fun x H2 hy => ?_⟩
    obtain ⟨e2, hx⟩ := hy
    subst e2
    have := hx vs sq
    rw [ev] at this
    cases this
    exact ⟨Ge.refl _ _, m, rv⟩
  · refine ⟨vs, sq, ?_⟩
    have hl := rs'.length
    have := List.getElem?_eq_none_iff.mp e
    have e2 : ds.length ≤ i := this
    omega
theorem pI_seq {tg l : Expr} (hl : PE X l (tE X.K W f)) : PI X tg l (tI X.K W (fSrc f)) := by
  refine PI.weak (PI.or (pi_list hl) (pi_tup hl)) fun σ H Rr ⟨mu, s, L, m, l, p⟩ => ?_
  unfold fSrc at p
  cases e : f L s with
  | bad =>
    rw [e] at p
    exact p.elim
  | ex C fs ds s' =>
    rw [e] at p
    exact .inl ⟨mu, s, L, m, l, by rw [e]; exact p⟩
  | ok d s1 =>
    rw [e] at p
    simp only [R.bind] at p
    cases d <;> simp only [iSeq] at p <;> try exact p.elim
    · rename_i n
      cases en : s1[n]? with
      | none =>
        rw [en] at p
        exact p.elim
      | some o =>
        rw [en] at p
        cases o <;> try exact p.elim
        rename_i ds
        refine .inl ⟨mu, s, L, m, l, ?_⟩
        rw [e]
        intro mu' H' v g' m' r'
        obtain ⟨a, vs, ev, ea, eh, rs⟩ := sq_ref m' r' en
        exact ⟨a, ev, ⟨vs, .of eh⟩, p mu' H' _ g' m' (itr_ref ea)⟩
    · rename_i ds
      refine .inr ⟨mu, s, L, m, l, ?_⟩
      rw [e]
      intro mu' H' v g' m' r'
      obtain ⟨a, vs, ev, sq, rs⟩ := sq_tup r'
      simp only [RelD] at r'
      obtain ⟨a', vs', e1, h1, rs'⟩ := r'
      rw [ev] at e1
      cases e1
      exact ⟨a, ev, ⟨vs, sq⟩, p mu' H' _ g' m' (itr_tup h1 rs')⟩
    · rename_i ds
      refine .inl ⟨mu, s, L, m, l, ?_⟩
      rw [e]
      intro mu' H' v g' m' r'
      obtain ⟨a, vs, ev, sq, rs⟩ := sq_lst r'
      simp only [RelD] at r'
      obtain ⟨a', vs', e1, h1, rs'⟩ := r'
      rw [ev] at e1
      cases e1
      exact ⟨a, ev, ⟨vs, sq⟩, p mu' H' _ g' m' (itr_lst (.inr ⟨.inl h1.1, h1.2⟩) rs')⟩
    · rename_i ds
      refine .inl ⟨mu, s, L, m, l, ?_⟩
      rw [e]
      intro mu' H' v g' m' r'
      obtain ⟨a, vs, ev, sq, rs⟩ := sq_rdl r'
      simp only [RelD] at r'
      obtain ⟨a', vs', e1, h1, rs'⟩ := r'
      rw [ev] at e1
      cases e1
      exact ⟨a, ev, ⟨vs, sq⟩, p mu' H' _ g' m' (itr_lst h1 rs')⟩
/-- range(n), range(a, b) -/
@[irreducible] def rgOk (i : Int) : Bool := decide (-(2 ^ 62) ≤ i ∧ i < 2 ^ 62)
theorem rgOk_d {i : Int} (h : rgOk i = true) : -(2 ^ 62) ≤ i ∧ i < 2 ^ 62 := by
  unfold rgOk at h
  exact of_decide_eq_true h
def rgItems (lo : Int) (n : Nat) : List D := (List.range n).map fun (k : Nat) => .int (lo + (k : Int))
def dRng1 : List D → Option Src
  | [.int j] => if rgOk j = true then some ⟨rgItems 0 j.toNat, none⟩ else none
  | _ => none
def dRng2 : List D → Option Src
  | [.int i, .int j] => if rgOk i = true ∧ rgOk j = true then some ⟨rgItems i (j - i).toNat, none⟩ else none
  | _ => none
def fRng (o : List D → Option Src) (fa : F (List D)) : F Src := fun L s => (fa L s).bind fun ds s1 => match o ds with
  | some r => .ok r s1
  | none => .bad
theorem itr_rng {K : PySem.W.Frag} {mu : Mu} {H : Hp} {lo : Int} {n : Nat} : ItR K mu H (Itr lo n) ⟨rgItems lo n, none⟩ := by
  intro mu' s' H' g m _ i
  have hl : (rgItems lo n).length = n := by simp [rgItems]
  refine ⟨fun d e => ?_, fun e => ?_⟩
  · have hi := (List.getElem?_eq_some_iff.mp e).1
    have hi' : i < n := by rw [← hl]; exact hi
    refine ⟨hi', fun x H2 hy => ?_⟩
    obtain ⟨rfl, rfl⟩ := hy
    have e2 : (rgItems lo n)[i]? = some (.int (lo + (i : Int))) := by
      unfold rgItems
      rw [List.getElem?_map, List.getElem?_range hi']
      rfl
    have e3 : some (D.int (lo + (i : Int))) = some d := e2.symm.trans e
    cases e3
    exact ⟨Ge.refl _ _, m, rel_int.mpr rfl⟩
  · have := List.getElem?_eq_none_iff.mp e
    show n ≤ i
    rw [← hl]
    exact this
theorem pI_rng1 {tg a : Expr} {p : Pos} (hm : X.mg "range" = none) (ha : PA X [a] (tA X.K W fa)) (hg : Gl X "range" := by rfl) (hs : starEach [a] X.env = [(false, eval a X.env)] := by rfl) : PI X tg (.Call (.Name "range" p) [a] [] pos) (tI X.K W (fRng dRng1 fa)) := by
  refine PI.weak (pi_range1 hg hm ha hs) fun σ H Rr ⟨mu, s, L, m, l, p⟩ => ⟨mu, s, L, m, l, Post.step p fun ds s1 mu1 H1 vs g1 m1 r1 p1 => ?_⟩
  rcases ds with _ | ⟨d, _ | ⟨d2, ds⟩⟩
  · exact p1.elim
  · cases d <;> simp only [dRng1] at p1 <;> try exact p1.elim
    rename_i j
    simp only [RelDs] at r1
    obtain ⟨v1, r, rfl, q1, rfl⟩ := r1
    rw [rel_int.mp q1]
    by_cases hj : rgOk j = true
    · rw [if_pos hj] at p1
      have hb : -(2 ^ 62) ≤ j ∧ j < 2 ^ 62 := rgOk_d hj
      exact ⟨j, rfl, hb.1, hb.2, p1 mu1 H1 _ (Ge.refl _ _) m1 itr_rng⟩
    · rw [if_neg hj] at p1
      exact p1.elim
  · cases d <;> exact p1.elim
theorem pI_rng2 {tg a b : Expr} {p : Pos} (hm : X.mg "range" = none) (ha : PA X [a, b] (tA X.K W fa)) (hg : Gl X "range" := by rfl) (hs : starEach [a, b] X.env = [(false, eval a X.env), (false, eval b X.env)] := by rfl) (hs2 : starEach [b] X.env = [(false, eval b X.env)] := by rfl) :
    PI X tg (.Call (.Name "range" p) [a, b] [] pos) (tI X.K W (fRng dRng2 fa)) := by
  refine PI.weak (pi_range2 hg hm ha hs hs2) fun σ H Rr ⟨mu, s, L, m, l, p⟩ => ⟨mu, s, L, m, l, Post.step p fun ds s1 mu1 H1 vs g1 m1 r1 p1 => ?_⟩
  rcases ds with _ | ⟨d, _ | ⟨d2, _ | ⟨d3, ds⟩⟩⟩
  · exact p1.elim
  · cases d <;> exact p1.elim
  · cases d <;> simp only [dRng2] at p1 <;> try exact p1.elim
    cases d2 <;> simp only [dRng2] at p1 <;> try exact p1.elim
    rename_i i j
    simp only [RelDs] at r1
    obtain ⟨v1, r, rfl, q1, v2, r', rfl, q2, rfl⟩ := r1
    rw [rel_int.mp q1, rel_int.mp q2]
    by_cases hj : rgOk i = true ∧ rgOk j = true
    · rw [if_pos hj] at p1
      have hb : -(2 ^ 62) ≤ i ∧ i < 2 ^ 62 := rgOk_d hj.1
      have hb2 : -(2 ^ 62) ≤ j ∧ j < 2 ^ 62 := rgOk_d hj.2
      exact ⟨i, j, rfl, ⟨hb.1, hb.2, hb2.1, hb2.2⟩, p1 mu1 H1 _ (Ge.refl _ _) m1 itr_rng⟩
    · rw [if_neg hj] at p1
      exact p1.elim
  · cases d <;> cases d2 <;> exact p1.elim
/-! while -/
def whileL (t : F Bool) (body : FS) : Nat → Lc → S → RS
  | 0, _, _ => .bad
  | n + 1, L, s => (t L s).bindS L fun b s1 => if b = true then (match body L s1 with
      | .nx L2 s2 => whileL t body n L2 s2
      | .ct L2 s2 => whileL t body n L2 s2
      | .bk L2 s2 => .nx L2 s2
      | x => x) else .nx L s1
def sWhile (n : Nat) (t : F Bool) (body : FS) : FS := fun L s => whileL t body n L s
theorem pS_while {c : Expr} {body : List Stmt} {ub : FS} (n : Nat) (hp : PassesOwn (model X.prog X.w) X.A X.env X.xe) (hc : PT X c (tT X.K W t)) (hb : PSs X body (tS X.K W ub)) : PS X (.While c body [] pos) (tS X.K W (sWhile n t ub)) := by
  refine PS.weak (ps_while hp hc hb) fun D σ H ⟨mu, s, L, m, l, p⟩ => ?_
  refine ⟨fun k σ' H' => ∃ mu' s' L', Ge mu H mu' H' ∧ Sim X.K mu' s' H' ∧ LR X.K mu' H' L' σ' ∧ PostS X.K W D mu' H' (whileL t ub k L' s'), ⟨n, mu, s, L, Ge.refl _ _, m, l, p⟩, ?_⟩
  rintro k σ' H' ⟨mu', s', L', g', m', l', p'⟩
  cases k with
  | zero => exact p'.elim
  | succ k =>
    unfold whileL at p'
    refine ⟨mu', s', L', m', l', Post.stepS l' p' fun d s1 mu1 H1 v1 g1 m1 r1 p1 => ?_⟩
    subst r1
    cases d with
    | false => exact p1 mu1 σ' H1 (Ge.refl _ _) m1 (l'.mono g1)
    | true =>
      rw [if_pos rfl] at p1
      refine ⟨fun σ2 H2 => ∃ mu2 s2 L2, Ge mu H mu2 H2 ∧ Sim X.K mu2 s2 H2 ∧ LR X.K mu2 H2 L2 σ2 ∧ PostS X.K W D mu2 H2 (whileL t ub k L2 s2), fun σ2 H2 n2 => ⟨k, Nat.lt_succ_self _, n2⟩, mu1, s1, L', m1, l'.mono g1, ?_⟩
      cases eb : ub L' s1 with
      | nx L2 s2 =>
        rw [eb] at p1
        exact fun mu4 σ4 H4 g4 m4 l4 => ⟨mu4, s2, L2, (g'.trans g1).trans g4, m4, l4, PostS.ge g4 p1⟩
      | ct L2 s2 =>
        rw [eb] at p1
        exact fun mu4 σ4 H4 g4 m4 l4 => ⟨mu4, s2, L2, (g'.trans g1).trans g4, m4, l4, PostS.ge g4 p1⟩
      | bk L2 s2 =>
        rw [eb] at p1
        exact p1
      | rt d s2 =>
        rw [eb] at p1
        exact p1
      | ex C fs ds L2 s2 =>
        rw [eb] at p1
        exact p1
      | bad =>
        rw [eb] at p1
        exact p1.elim
/-! ### defs -/
def spI (K : PySem.W.Frag) (n : Nat) (G : List D → S → R D) : Sp := fun vs H Q E => ∃ mu s ds, Sim K mu s H ∧ RelDs K mu H ds vs ∧ ds.length = n ∧ Post K (fun c d _ H => E c d H) (RelD K) [] mu H Q (G ds s)
def fCall (n : Nat) (G : List D → S → R D) (fa : F (List D)) : F D := fun L s => (fa L s).bind fun ds s1 => if ds.length = n then G ds s1 else .bad
theorem weak_call {n : Nat} {G : List D → S → R D} (σ : L2.St) (H : Hp) (Q : VK) (hq : tE X.K W (fCall n G fa) σ H Q) : tCallS (spI X.K n G) (WE W) (tA X.K W fa) σ H Q := by
  obtain ⟨mu, s, L, m, l, p⟩ := hq
  refine ⟨mu, s, L, m, l, Post.step p fun ds s1 mu1 H1 vs g1 m1 r1 p1 => ?_⟩
  by_cases hn : ds.length = n
  · rw [if_pos hn] at p1
    refine ⟨mu1, s1, ds, m1, r1, hn, ?_⟩
    cases eg : G ds s1 with
    | ok d s2 =>
      rw [eg] at p1
      exact p1
    | ex C fs ds s2 =>
      rw [eg] at p1
      exact p1
    | bad =>
      rw [eg] at p1
      exact p1.elim
  · rw [if_neg hn] at p1
    exact p1.elim
theorem pE_call {x : Str} {p : Pos} {k n : Nat} {fA : Addr} {fd : FuncData} {ps : List Str} {G : List D → S → R D} (Fo : FnOk X.prog X.w X.K X.mg X.base (L2.CX X.prog X.w) k fA fd ps (spI X.K n G)) (hr : Room k X.A) (hm : X.mg x = some (.ref fA)) (hk : PySem.W.keepIn X.K (.ref fA) = true) (hb : Binds X.K fd ps []) (tk : Takes X W)
    (ha : PA X (e :: es) (tA X.K W fa)) (hg : Gl X x := by rfl) (hdb : (x == ("__debug__" : Str)) = false := by decide) (he : starEach (e :: es) X.env = (false, eval e X.env) :: starEach es X.env := by rfl) (hpl : (backTo pos (starEach es X.env)).any (·.1) = false := by rfl) :
    PE X (.Call (.Name x p) (e :: es) [] pos) (tE X.K W (fCall n G fa)) :=
  PE.weak (pe_callS Fo hr hg hm hk hb (fun σ => passAt tk σ) ha hdb he hpl) fun σ H Q q => weak_call σ H Q q
/-- a def from its body -/
def startD (N : Nat) (ds : List D) : Lc := ds.map some ++ List.replicate (N - ds.length) none
def RS.fin : RS → R D
  | .nx _ s' => .ok .non s'
  | .rt d s' => .ok d s'
  | .ex C fs vs _ s' => .ex C fs vs s'
  | _ => .bad
def runF (N : Nat) (body : FS) : List D → S → R D := fun ds s => (body (startD N ds) s).fin
theorem startD_lr {K : PySem.W.Frag} {mu : Mu} {H : Hp} {N : List Str} {ds : List D} {vs : List V} (r : RelDs K mu H ds vs) : LR K mu H (startD N.length ds) (L2.start N vs) where
  len := by
    unfold startD L2.start
    rw [List.length_append, List.length_append, List.length_map, List.length_map, List.length_replicate, List.length_replicate, r.length]
  at_ := fun i d e => by
    unfold startD at e
    rcases Nat.lt_or_ge i ds.length with hi | hi
    · rw [List.getElem?_append_left (by rw [List.length_map]; exact hi), List.getElem?_map, List.getElem?_eq_getElem hi] at e
      cases e
      obtain ⟨v, ev, rv⟩ := r.get (List.getElem?_eq_getElem hi)
      refine ⟨v, ?_, rv⟩
      unfold L2.start
      rw [List.getElem?_append_left (by rw [List.length_map, ← r.length]; exact hi), List.getElem?_map, ev]
      rfl
    · rw [List.getElem?_append_right (by rw [List.length_map]; exact hi), List.getElem?_replicate] at e
      split at e <;> cases e
theorem ok_fn {P : Program} {w : World} {K : PySem.W.Frag} {mg : Str → Option Value} {base : Heap} {x qual : Str} {st : Stmt} {f : Addr} {fd : FuncData} {N ps : List Str} {k : Nat} {fb : FS} (Fu : Fun K x qual st f fd) (Sc : FnScope N ps (defScope st))
    (hbody : ∀ (cdv : Value) (A : Around) (outer : List Env) (s : Shared) (H : Hp) (E : XK), Room k (A.deeper (envOfC qual (defScope st) s.heap.objs.size f cdv)) →
      Takes (cxOf (L2.CX P w) P w K mg base N qual (defScope st) f cdv A outer s H E) (fun cls d _ H => E cls d H) → PassesOwn (model P w) (A.deeper (envOfC qual (defScope st) s.heap.objs.size f cdv)) (cxOf (L2.CX P w) P w K mg base N qual (defScope st) f cdv A outer s H E).env (cxOf (L2.CX P w) P w K mg base N qual (defScope st) f cdv A outer s H E).xe →
      PSs (cxOf (L2.CX P w) P w K mg base N qual (defScope st) f cdv A outer s H E) (defBody st) (tS K (fun cls d _ H => E cls d H) fb)) :
    FnOk P w K mg base (L2.CX P w) (k + 1) f fd ps (spI K ps.length (runF N.length fb)) := by
  refine Fu.okX Sc (fun vs H Q E h => ?_) (fun cdv A outer s H vs Q E hr h => ?_)
  · obtain ⟨mu, s, ds, m, r, hl, _⟩ := h
    rw [← r.length, hl]
  · refine ⟨_, hbody cdv A outer s H E hr (takes_of rfl rfl rfl rfl) (passes_of rfl), ?_⟩
    obtain ⟨mu, s', ds, m, r, hl, p⟩ := h
    refine ⟨mu, s', startD N.length ds, m, startD_lr r, ?_⟩
    unfold runF at p
    cases eb : fb (startD N.length ds) s' with
    | nx L2 s2 =>
      rw [eb] at p
      exact fun mu4 σ4 H4 g4 m4 l4 => p mu4 H4 _ g4 m4 (rel_non.mpr rfl)
    | rt d s2 =>
      rw [eb] at p
      exact p
    | ex C fs ds L2 s2 =>
      rw [eb] at p
      exact fun mu4 σ4 H4 od g4 m4 l4 x4 => p mu4 H4 od g4 m4 x4
    | bk L2 s2 =>
      rw [eb] at p
      exact p.elim
    | ct L2 s2 =>
      rw [eb] at p
      exact p.elim
    | bad =>
      rw [eb] at p
      exact p.elim
end
end SI

namespace SI
open PySem PySem.Spec PyProof.Rows L2
section
variable {X : Cx} {W : WX} {a b c e : Expr} {f g h : F D} {t : F Bool} {fa : F (List D)} {es : List Expr} {pos : Pos} {st : Stmt} {sts : List Stmt} {u v : FS}
theorem PE.or {X : Cx} {e : Expr} {t t' : TE} (h : PE X e t) (h' : PE X e t') : PE X e (fun σ H Q => t σ H Q ∨ t' σ H Q) := ⟨fun pins s σ H Q I q => q.elim (h.run pins s σ H Q I) (h'.run pins s σ H Q I)⟩
theorem RelDs.atI {K : PySem.W.Frag} {mu : Mu} {H : Hp} {ds : List D} {vs : List V} {i : Int} {d : D} (r : RelDs K mu H ds vs) (h : L2.atI ds i = some d) : ∃ v, L2.atI vs i = some v ∧ RelD K mu H d v := by
  unfold L2.atI at h ⊢
  rw [← r.length]
  cases e : ixN ds.length i with
  | none =>
    rw [e] at h
    cases h
  | some j =>
    rw [e] at h
    exact r.get h
/-- list behind a value -/
def lstOf (s : S) : D → Option (List D)
  | .lst xs => some xs
  | .rdl xs => some xs
  | .ref n => match s[n]? with
    | some (.lst xs) => some xs
    | _ => none
  | _ => none
def seqOf (s : S) : D → Option (List D)
  | .lst xs => some xs
  | .rdl xs => some xs
  | .tup xs => some xs
  | .ref n => match s[n]? with
    | some (.lst xs) => some xs
    | _ => none
  | _ => none
theorem sq_lstOf {K : PySem.W.Frag} {mu : Mu} {s : S} {H : Hp} {d : D} {ds : List D} {v : V} (m : Sim K mu s H) (r : RelD K mu H d v) (h : lstOf s d = some ds) : ∃ a vs, v = .ref a ∧ SqL K H a vs ∧ RelDs K mu H ds vs := by
  cases d <;> simp only [lstOf] at h <;> try cases h
  · rename_i n
    cases en : s[n]? with
    | none =>
      rw [en] at h
      cases h
    | some o =>
      rw [en] at h
      cases o <;> try cases h
      obtain ⟨a, vs, ev, ea, eh, rs⟩ := sq_ref m r en
      exact ⟨a, vs, ev, .of eh, rs⟩
  · exact sq_lst r
  · exact sq_rdl r
theorem sq_seqOf {K : PySem.W.Frag} {mu : Mu} {s : S} {H : Hp} {d : D} {ds : List D} {v : V} (m : Sim K mu s H) (r : RelD K mu H d v) (h : seqOf s d = some ds) : ∃ a vs, v = .ref a ∧ (SqL K H a vs ∨ SqT K H a vs) ∧ RelDs K mu H ds vs := by
  cases d <;> simp only [seqOf] at h <;> try cases h
  · rename_i n
    cases en : s[n]? with
    | none =>
      rw [en] at h
      cases h
    | some o =>
      rw [en] at h
      cases o <;> try cases h
      obtain ⟨a, vs, ev, ea, eh, rs⟩ := sq_ref m r en
      exact ⟨a, vs, ev, .inl (.of eh), rs⟩
  · obtain ⟨a, vs, e1, e2, e3⟩ := sq_tup r
    exact ⟨a, vs, e1, .inr e2, e3⟩
  · obtain ⟨a, vs, e1, e2, e3⟩ := sq_lst r
    exact ⟨a, vs, e1, .inl e2, e3⟩
  · obtain ⟨a, vs, e1, e2, e3⟩ := sq_rdl r
    exact ⟨a, vs, e1, .inl e2, e3⟩
/-! ### subscripts -/
def dIx (s : S) (a b : D) : Option D := match b with
  | .int i => match a with
    | .str z => if z.length ≤ big then (L2.atI z.cps.toList i).map fun c => .str ⟨#[c]⟩ else none
    | a => (seqOf s a).bind fun xs => L2.atI xs i
  | _ => none
theorem opl_ix {K : PySem.W.Frag} : OpL K (rIx K) dIx := by
  intro mu s H a b d x y Q m ra rb e q
  unfold dIx at e
  cases b <;> try cases e
  rename_i i
  have ey := rel_int.mp rb
  cases a
  case str z =>
    dsimp only at e
    split at e
    · rename_i hz
      cases ec : L2.atI z.cps.toList i with
      | none =>
        rw [ec] at e
        cases e
      | some c =>
        rw [ec] at e
        cases e
        exact .inr (.inr ⟨z, i, c, rel_str.mp ra, ey, big_le hz, ec, q mu H _ (Ge.refl _ _) m (rel_str.mpr rfl)⟩)
    · cases e
  all_goals
    dsimp only at e
    cases es : seqOf s _ with
    | none =>
      rw [es] at e
      cases e
    | some xs =>
      rw [es] at e
      obtain ⟨p, vs, ev, sq, rs⟩ := sq_seqOf m ra es
      obtain ⟨v, e1, e2⟩ := rs.atI e
      rcases sq with sq | sq
      · exact .inl ⟨p, vs, i, v, ev, ey, sq, e1, q mu H v (Ge.refl _ _) m e2⟩
      · exact .inr (.inl ⟨p, vs, i, v, ev, ey, sq, e1, q mu H v (Ge.refl _ _) m e2⟩)
theorem pE_sub2 (ha : PE X a (tE X.K W f)) (hb : PE X b (tE X.K W g)) (hs : PlainIx b := by exact fun _ _ => rfl) : PE X (.Subscript a b pos) (tE X.K W (fOp dIx f g)) := pE_ix ix_seq opl_ix ha hb hs
/-! ### stores: o[i] = v -/
def PutL (K : PySem.W.Frag) (t : TSet) (o : S → D → D → D → Option S) : Prop :=
  ∀ (mu : Mu) (s s' : S) (H : Hp) (a b d : D) (x y z : V) (Q : Hp → Prop), Sim K mu s H → RelD K mu H a x → RelD K mu H b y → RelD K mu H d z → o s a b d = some s' →
    (∀ H', Ge mu H mu H' → Sim K mu s' H' → Q H') → t x y z H Q
def dPut (s : S) (a b d : D) : Option S := match a, b with
  | .ref n, .int i => match s[n]? with
    | some (.lst xs) => (ixN xs.length i).bind fun j => some (s.set n (.lst (xs.set j d)))
    | _ => none
  | _, _ => none
theorem putl_list {K : PySem.W.Frag} : PutL K rSetL dPut := by
  intro mu s s' H a b d x y z Q m ra rb rd e q
  unfold dPut at e
  split at e
  · rename_i n i
    split at e
    · rename_i xs hn
      obtain ⟨p, vs, ev, ea, eh, rs⟩ := sq_ref m ra hn
      cases ej : ixN xs.length i with
      | none =>
        rw [ej] at e
        cases e
      | some j =>
        rw [ej] at e
        cases e
        refine ⟨p, vs, i, j, ev, rel_int.mp rb, eh, by rw [← rs.length]; exact ej, ?_⟩
        exact q _ (Ge.put ea) (m.put ea ⟨_, upd_same, (rs.set rd j).mono (Ge.put ea)⟩)
    · cases e
  · cases e
def sPut (o : S → D → D → D → Option S) (fe fo fi : F D) : FS := fun L s => (fe L s).bindS L fun d s1 => (fo L s1).bindS L fun a s2 => (fi L s2).bindS L fun b s3 => match o s3 a b d with
  | some s' => .nx L s'
  | none => .bad
theorem pS_put {t : TSet} {o : S → D → D → D → Option S} {eo ei : Expr} {fo fi : F D} {p1 : Pos} (hl : PutL X.K t o) (hx : PS X (.Assign [.Subscript eo ei p1] e pos) (tAsg (tE X.K W f) (gSub (tE X.K W fo) (tE X.K W fi) t))) : PS X (.Assign [.Subscript eo ei p1] e pos) (tS X.K W (sPut o f fo fi)) := by
  refine PS.weak hx fun D σ H ⟨mu, s, L, m, l, p⟩ => ⟨mu, s, L, m, l, ?_⟩
  refine Post.stepS l p fun d s1 mu1 H1 v1 g1 m1 r1 p1 => ?_
  refine ⟨mu1, s1, L, m1, l.mono g1, Post.stepS (l.mono g1) p1 fun a s2 mu2 H2 v2 g2 m2 r2 p2 => ?_⟩
  refine ⟨mu2, s2, L, m2, (l.mono g1).mono g2, Post.stepS ((l.mono g1).mono g2) p2 fun b s3 mu3 H3 v3 g3 m3 r3 p3 => ?_⟩
  cases eo : o s3 a b d with
  | none =>
    rw [eo] at p3
    exact p3.elim
  | some s' =>
    rw [eo] at p3
    exact hl mu3 s3 s' H3 a b d v2 v3 v1 _ m3 (r2.mono g3) r3 ((r1.mono g2).mono g3) eo fun H' g' m' => p3 mu3 σ H' g' m' ((((l.mono g1).mono g2).mono g3).mono g')
/-! ### x op= e -/
def sAug (o : S → D → D → Option D) (i : Nat) (f : F D) : FS := fun L s => match L[i]? with
  | some (some d0) => (f L s).bindS L fun d1 s1 => match o s1 d0 d1 with
    | some d => .nx (L.set i (some d)) s1
    | none => .bad
  | _ => .bad
theorem pS_aug {i : Nat} {x : Str} {op : Operator} {r : TIp} {o : S → D → D → Option D} {pos' : Pos} (hN : X.N.Nodup) (ho : PIp X op r) (hl : OpL X.K r o) (he : PE X e (tE X.K W f)) (hi : X.N[i]? = some x := by rfl) (hx : Loc X.env.scope x := by first | exact Or.inl rfl | exact Or.inr rfl)
    (hf : X.fn x = true ∨ X.env.scope.names.lookup x = some .local := by first | exact .inl rfl | exact .inr rfl | assumption) : PS X (.AugAssign (.Name x pos') op e pos) (tS X.K W (sAug o i f)) := by
  refine PS.weak (ps_aug hN hi hx he ho hf) fun D σ H ⟨mu, s, L, m, l, p⟩ => ?_
  unfold sAug at p
  cases ei : L[i]? with
  | none =>
    rw [ei] at p
    exact p.elim
  | some od =>
    cases od with
    | none =>
      rw [ei] at p
      exact p.elim
    | some d0 =>
      rw [ei] at p
      obtain ⟨v, e1, r1⟩ := l.at_ i d0 ei
      refine ⟨v, e1, mu, s, L, m, l, Post.stepS l p fun d1 s1 mu1 H1 v1 g1 m1 r1' p1 => ?_⟩
      cases eo : o s1 d0 d1 with
      | none =>
        rw [eo] at p1
        exact p1.elim
      | some d =>
        rw [eo] at p1
        exact hl mu1 s1 H1 d0 d1 d v v1 _ m1 (r1.mono g1) r1' eo fun mu' H' v' g' m' r' => p1 mu' _ H' g' m' (((l.mono g1).mono g').set i r')
theorem opl_ip {K : PySem.W.Frag} {gi : Int → Int → Int} : OpL K (ipI gi) (dI2 yes2 fun i j => .int (gi i j)) := by
  intro mu s H a b d x y Q m ra rb e q
  cases a <;> simp only [dI2] at e <;> try cases e
  cases b <;> simp only [dI2] at e <;> try cases e
  rename_i i j
  exact ⟨i, j, rel_int.mp ra, rel_int.mp rb, q mu H _ (Ge.refl _ _) m (rel_int.mpr rfl)⟩
theorem pS_subI {i : Nat} {x : Str} {pos' : Pos} (hN : X.N.Nodup) (he : PE X e (tE X.K W f)) (hi : X.N[i]? = some x := by rfl) (hx : Loc X.env.scope x := by first | exact Or.inl rfl | exact Or.inr rfl)
    (hf : X.fn x = true ∨ X.env.scope.names.lookup x = some .local := by first | exact .inl rfl | exact .inr rfl | assumption) : PS X (.AugAssign (.Name x pos') .Sub e pos) (tS X.K W (sAug dSub i f)) := pS_aug hN ip_sub opl_ip he hi hx hf
/-! xs[i] op= e -/
theorem pget_list : PGet X (rIxL X.K) := by
  intro pins s σ H o i ov iv Q I ro ri hh
  obtain ⟨p, xs, k, z, rfl, rfl, hq, he, q⟩ := hh
  cases ro
  obtain ⟨t, rfl⟩ := ri
  obtain ⟨its, r, pl, hz⟩ := I.list hq
  obtain ⟨j, h1, h2, h3, h4, h5⟩ := atI_get he
  obtain ⟨w, ew, rw'⟩ := r.get h2
  have hl := r.length
  have hn := line63
  have done : EP X pins σ Q w s := ⟨z, H, I, rw', q⟩
  rcases Int.lt_or_le k 0 with h0 | h0
  · have hj : (k + (its.toArray.size : Int)).toNat = j := by
      rw [seqIndex_neg h0 h4] at h1
      rw [List.size_toArray, ← hl]
      exact Option.some.inj h1
    exact wpAny_getItem_list_neg pl.isList h0 (by rw [List.size_toArray] <;> omega) (by omega) (by rw [hj]; simpa using ew) done
  · have hj : k.toNat = j := by
      rw [seqIndex_of h0 h5] at h1
      exact Option.some.inj h1
    exact wpAny_getItem_list pl.isList h0 (by omega) (by rw [hj]; simpa using ew) done
def dIxL (s : S) (a b : D) : Option D := match b with
  | .int i => (lstOf s a).bind fun xs => L2.atI xs i
  | _ => none
theorem opl_ixL {K : PySem.W.Frag} : OpL K (rIxL K) dIxL := by
  intro mu s H a b d x y Q m ra rb e q
  unfold dIxL at e
  cases b <;> try cases e
  rename_i i
  dsimp only at e
  cases es : lstOf s a with
  | none =>
    rw [es] at e
    cases e
  | some xs =>
    rw [es] at e
    obtain ⟨p, vs, ev, sq, rs⟩ := sq_lstOf m ra es
    obtain ⟨v, e1, e2⟩ := rs.atI e
    exact ⟨p, vs, i, v, ev, rel_int.mp rb, sq, e1, q mu H v (Ge.refl _ _) m e2⟩
def sAugS (get op : S → D → D → Option D) (put : S → D → D → D → Option S) (fo fi fe : F D) : FS := fun L s => (fo L s).bindS L fun a s1 => (fi L s1).bindS L fun b s2 => match get s2 a b with
  | some d0 => (fe L s2).bindS L fun d1 s3 => match op s3 d0 d1 with
    | some d => match put s3 a b d with
      | some s' => .nx L s'
      | none => .bad
    | none => .bad
  | none => .bad
theorem pS_augS {eo ei : Expr} {fo fi : F D} {p1 : Pos} {op : Operator} {tg : V → V → Hp → VK → Prop} {ti : TIp} {ts : TSet} {get o : S → D → D → Option D} {put : S → D → D → D → Option S} (hg : OpL X.K tg get) (ho : OpL X.K ti o) (hp : PutL X.K ts put)
    (hx : PS X (.AugAssign (.Subscript eo ei p1) op e pos) (tAugS (tE X.K W fo) (tE X.K W fi) (tE X.K W f) tg ti ts)) : PS X (.AugAssign (.Subscript eo ei p1) op e pos) (tS X.K W (sAugS get o put fo fi f)) := by
  refine PS.weak hx fun D σ H ⟨mu, s, L, m, l, p⟩ => ⟨mu, s, L, m, l, ?_⟩
  refine Post.stepS l p fun a s1 mu1 H1 v1 g1 m1 r1 p1 => ?_
  refine ⟨mu1, s1, L, m1, l.mono g1, Post.stepS (l.mono g1) p1 fun b s2 mu2 H2 v2 g2 m2 r2 p2 => ?_⟩
  have r1' := r1.mono g2
  have l2 := (l.mono g1).mono g2
  cases eg : get s2 a b with
  | none =>
    rw [eg] at p2
    exact p2.elim
  | some d0 =>
    rw [eg] at p2
    refine hg mu2 s2 H2 a b d0 v1 v2 _ m2 r1' r2 eg fun mu3 H3 v3 g3 m3 r3 => ?_
    refine ⟨mu3, s2, L, m3, l2.mono g3, Post.stepS (l2.mono g3) (PostS.ge g3 p2) fun d1 s4 mu4 H4 v4 g4 m4 r4 p4 => ?_⟩
    cases eo : o s4 d0 d1 with
    | none =>
      rw [eo] at p4
      exact p4.elim
    | some d =>
      rw [eo] at p4
      refine ho mu4 s4 H4 d0 d1 d v3 v4 _ m4 (r3.mono g4) r4 eo fun mu5 H5 v5 g5 m5 r5 => ?_
      dsimp only at p4
      cases ep : put s4 a b d with
      | none =>
        rw [ep] at p4
        exact p4.elim
      | some s' =>
        rw [ep] at p4
        exact hp mu5 s4 s' H5 a b d v1 v2 v5 _ m5 (((r1'.mono g3).mono g4).mono g5) (((r2.mono g3).mono g4).mono g5) r5 ep fun H6 g6 m6 => p4 mu5 σ H6 (g5.trans g6) m6 ((((l2.mono g3).mono g4).mono g5).mono g6)
theorem pS_augSL {eo ei : Expr} {fo fi : F D} {p1 : Pos} (ho : PE X eo (tE X.K W fo)) (hi : PE X ei (tE X.K W fi)) (he : PE X e (tE X.K W f)) (ha : ∀ ov iv new, augStore ei ov iv new = (do holding [new, ov, iv] (setItem ov iv new); release [new, ov, iv] []; pure .next) := by intros; rfl) :
    PS X (.AugAssign (.Subscript eo ei p1) .Add e pos) (tS X.K W (sAugS dIxL dAddI dPut fo fi f)) := pS_augS opl_ixL opl_ip putl_list (ps_augS ho hi pget_list he ip_add set_list ha)
/-! ### built-ins -/
theorem rel1 {K : PySem.W.Frag} {mu : Mu} {H : Hp} {d : D} {vs : List V} (r : RelDs K mu H [d] vs) : ∃ v, vs = [v] ∧ RelD K mu H d v := by
  simp only [RelDs] at r
  obtain ⟨v, r', rfl, h1, rfl⟩ := r
  exact ⟨v, rfl, h1⟩
theorem rel2 {K : PySem.W.Frag} {mu : Mu} {H : Hp} {d d2 : D} {vs : List V} (r : RelDs K mu H [d, d2] vs) : ∃ v v2, vs = [v, v2] ∧ RelD K mu H d v ∧ RelD K mu H d2 v2 := by
  simp only [RelDs] at r
  obtain ⟨v, r', rfl, h1, v2, r'', rfl, h2, rfl⟩ := r
  exact ⟨v, v2, rfl, h1, h2⟩
def bInt (_ : S) : List D → Option D
  | [.int i] => some (.int i)
  | [.bl k] => some (.int (if k = true then 1 else 0))
  | _ => none
theorem cbl_int {K : PySem.W.Frag} : CbL K (fun xs H Q => (∃ i, xs = [.int i] ∧ Q (.int i) H) ∨ ∃ k : Bool, xs = [.bl k] ∧ Q (.int (if k then 1 else 0)) H) bInt := by
  intro mu s H ds d vs Q m r e q
  rcases ds with _ | ⟨d1, _ | ⟨d2, ds⟩⟩
  · cases e
  · obtain ⟨v, rfl, r1⟩ := rel1 r
    cases d1 <;> simp only [bInt] at e <;> cases e
    · exact .inr ⟨_, by rw [rel_bl.mp r1], q mu H _ (Ge.refl _ _) m (rel_int.mpr rfl)⟩
    · exact .inl ⟨_, by rw [rel_int.mp r1], q mu H _ (Ge.refl _ _) m (rel_int.mpr rfl)⟩
  · cases d1 <;> cases e
theorem pE_int1 {p : Pos} (hm : X.mg "int" = none) (ha : PA X [e] (tA X.K W fa)) (hg : Gl X "int" := by rfl) (he : starEach [e] X.env = (false, eval e X.env) :: starEach [] X.env := by rfl) : PE X (.Call (.Name "int" p) [e] [] pos) (tE X.K W (fCB bInt fa)) :=
  pE_cty call_int1 cbl_int hm (by decide +kernel) ha hg (by decide) (by decide) he rfl
def bLen (s : S) : List D → Option D
  | [.str z] => if z.length ≤ big then some (.int z.length) else none
  | [d] => (seqOf s d).map fun xs => .int xs.length
  | _ => none
theorem cbl_len {K : PySem.W.Frag} : CbL K (fun xs H Q => (∃ p ys, xs = [.ref p] ∧ (SqL K H p ys ∨ SqT K H p ys) ∧ Q (.int ys.length) H) ∨ ∃ z, xs = [.str z] ∧ z.length ≤ sizeLine ∧ Q (.int z.length) H) bLen := by
  intro mu s H ds d vs Q m r e q
  rcases ds with _ | ⟨d1, _ | ⟨d2, ds⟩⟩
  · cases e
  · obtain ⟨v, rfl, r1⟩ := rel1 r
    unfold bLen at e
    split at e
    · rename_i z heq
      cases heq
      split at e
      · rename_i hz
        cases e
        exact .inr ⟨z, by rw [rel_str.mp r1], big_le hz, q mu H _ (Ge.refl _ _) m (rel_int.mpr rfl)⟩
      · cases e
    · rename_i heq
      cases heq
      cases es : seqOf s d1 with
      | none =>
        rw [es] at e
        cases e
      | some xs =>
        rw [es] at e
        cases e
        obtain ⟨p, ys, ev, sq, rs⟩ := sq_seqOf m r1 es
        refine .inl ⟨p, ys, by rw [ev], sq, ?_⟩
        rw [← rs.length]
        exact q mu H _ (Ge.refl _ _) m (rel_int.mpr rfl)
    · cases e
  · unfold bLen at e
    split at e <;> first | (rename_i heq; cases heq) | cases e
theorem pE_len {p : Pos} (hm : X.mg "len" = none) (ha : PA X [e] (tA X.K W fa)) (hg : Gl X "len" := by rfl) (he : starEach [e] X.env = (false, eval e X.env) :: starEach [] X.env := by rfl) : PE X (.Call (.Name "len" p) [e] [] pos) (tE X.K W (fCB bLen fa)) :=
  pE_cb (call_len_seq.or call_len_str) cbl_len hm PySem.boot_len ha hg (by decide) (by decide) he rfl
/-! ### slices -/
def fNo : F (Option Int) := fun _ s => .ok none s
def fPt (f : F D) : F (Option Int) := fun L s => (f L s).bind fun d s1 => match d with
  | .int i => .ok (some i) s1
  | _ => .bad
def tO (K : PySem.W.Frag) (W : WX) (f : F (Option Int)) : TO := fun σ H Q => ∃ mu s L, Sim K mu s H ∧ LR K mu H L σ ∧ Post K W (fun _ _ (a b : Option Int) => a = b) σ mu H Q (f L s)
theorem PO.weak {X : Cx} {e : Option Expr} {t t' : TO} (h : PO X e t) (w : ∀ σ H Q, t' σ H Q → t σ H Q) : PO X e t' := ⟨fun pins s σ H Q I q => h.run pins s σ H Q I (w _ _ _ q)⟩
theorem pO_none : PO X none (tO X.K W fNo) := PO.weak po_none fun σ H Q ⟨mu, s, L, m, l, p⟩ => p mu H _ (Ge.refl _ _) m rfl
theorem pO_some (hh : PE X e (tE X.K W f)) : PO X (some e) (tO X.K W (fPt f)) := by
  refine PO.weak (po_some hh) fun σ H Q ⟨mu, s, L, m, l, p⟩ => ⟨mu, s, L, m, l, Post.step p fun d s1 mu1 H1 v1 g1 m1 r1 p1 => ?_⟩
  cases d <;> try exact p1.elim
  exact ⟨_, rel_int.mp r1, p1 mu1 H1 _ (Ge.refl _ _) m1 rfl⟩
def cutD (xs : List D) (lo hi : Option Int) : List D := (xs.drop (HT.sIx xs.length 0 lo)).take (HT.sIx xs.length xs.length hi - HT.sIx xs.length 0 lo)
theorem cut_rel {K : PySem.W.Frag} {mu : Mu} {H : Hp} {ds : List D} {vs : List V} (r : RelDs K mu H ds vs) (lo hi : Option Int) : RelDs K mu H (cutD ds lo hi) (cutV vs lo hi) := by
  unfold cutD cutV
  rw [r.length]
  exact (r.drop _).take _
/-- a slice: of a tuple a tuple, of a list a list that is never changed -/
def dSl (s : S) (d : D) (lo hi : Option Int) : Option D := match d with
  | .tup xs => some (.tup (cutD xs lo hi))
  | d => (lstOf s d).map fun xs => .lst (cutD xs lo hi)
def fSl (f : F D) (l h : F (Option Int)) : F D := fun L s => (f L s).bind fun d s1 => (l L s1).bind fun lo s2 => (h L s2).bind fun hi s3 => match dSl s3 d lo hi with
  | some r => .ok r s3
  | none => .bad
end
end SI

namespace SI
open PySem PySem.Spec PyProof.Rows L2
section
variable {X : Cx} {W : WX} {a b c e : Expr} {f g h : F D} {t : F Bool} {fa : F (List D)} {es : List Expr} {pos : Pos} {st : Stmt} {sts : List Stmt} {u v : FS}
/-! ### slices, tuples -/
theorem weak_sl {lo hi : Option Expr} {fl fh : F (Option Int)} {p2 : Pos} (he : PE X e (tE X.K W f)) (hl : PO X lo (tO X.K W fl)) (hh : PO X hi (tO X.K W fh)) : PE X (.Subscript e (.Slice lo hi none p2) pos) (tE X.K W (fSl f fl fh)) := by
  refine PE.weak (pe_slice (SlR.or sl_list sl_tupA) he hl hh) fun σ H Q ⟨mu, s, L, m, l, p⟩ => ⟨mu, s, L, m, l, Post.step p fun d s1 mu1 H1 v1 g1 m1 r1 p1 => ?_⟩
  refine ⟨mu1, s1, L, m1, l.mono g1, Post.step p1 fun o2 s2 mu2 H2 v2 g2 m2 r2 p2 => ?_⟩
  subst r2
  refine ⟨mu2, s2, L, m2, (l.mono g1).mono g2, Post.step p2 fun o3 s3 mu3 H3 v3 g3 m3 r3 p3 => ?_⟩
  subst r3
  have rd := (r1.mono g2).mono g3
  unfold dSl at p3
  split at p3
  · rename_i r heq
    split at heq
    · rename_i xs
      cases heq
      obtain ⟨a, vs, ev, sq, rs⟩ := sq_tup rd
      refine .inr ⟨a, vs, ev, sq, fun hw => ?_, fun hw q hq => ?_⟩
      · refine p3 mu3 H3 _ (Ge.refl _ _) m3 ?_
        have e1 : cutD xs o2 o3 = xs := by
          unfold cutD
          rw [rs.length, hw.1, hw.2, List.drop_zero, Nat.sub_zero, ← rs.length]
          exact List.take_length
        rw [e1, ← ev]
        exact rd
      · exact p3 mu3 _ _ (Ge.pure m3 hq) (m3.pure hq) (rel_tup m3 hq (cut_rel rs o2 o3))
    · rename_i hnt
      cases el : lstOf s3 d with
      | none =>
        rw [el] at heq
        cases heq
      | some xs =>
        rw [el] at heq
        cases heq
        obtain ⟨a, vs, ev, sq, rs⟩ := sq_lstOf m3 rd el
        exact .inl ⟨a, vs, ev, sq, fun q hq => p3 mu3 _ _ (Ge.pure m3 hq) (m3.pure hq) (rel_lst m3 hq (cut_rel rs o2 o3))⟩
  · exact p3.elim
/-! ### data that == tells apart -/
mutual
def toPy (s : S) : D → Option PyData
  | .non => some .none
  | .bl b => some (.bool b)
  | .int i => some (.int i)
  | .str x => some (.str x)
  | .tup xs => (toPys s xs).map .tuple
  | .lst xs => (toPys s xs).map .list
  | _ => none
def toPys (s : S) : List D → Option (List PyData)
  | [] => some []
  | x :: xs => match toPy s x, toPys s xs with
    | some y, some ys => some (y :: ys)
    | _, _ => none
end
/-- .. with the tracked lists of flat items -/
def toPyT (s : S) : D → Option PyData
  | .ref n => match s[n]? with
    | some (.lst xs) => (toPys s xs).map .list
    | _ => none
  | d => toPy s d
mutual
theorem dp_of {K : PySem.W.Frag} {mu : Mu} {s : S} {H : Hp} : ∀ (d : D) (v : V) (y : PyData), RelD K mu H d v → toPy s d = some y → Dp K H v y
  | .non, v, y, r, e => by
    simp only [toPy] at e
    cases e
    rw [rel_non.mp r]
    exact .non
  | .bl b, v, y, r, e => by
    simp only [toPy] at e
    cases e
    rw [rel_bl.mp r]
    exact .bl _
  | .int b, v, y, r, e => by
    simp only [toPy] at e
    cases e
    rw [rel_int.mp r]
    exact .int _
  | .str b, v, y, r, e => by
    simp only [toPy] at e
    cases e
    rw [rel_str.mp r]
    exact .str _
  | .tup xs, v, y, r, e => by
    simp only [toPy] at e
    cases e1 : toPys s xs with
    | none =>
      rw [e1] at e
      cases e
    | some ys =>
      rw [e1] at e
      cases e
      obtain ⟨a, vs, ev, sq, rs⟩ := sq_tup r
      rw [ev]
      exact .tup sq (dps_of xs vs ys rs e1)
  | .lst xs, v, y, r, e => by
    simp only [toPy] at e
    cases e1 : toPys s xs with
    | none =>
      rw [e1] at e
      cases e
    | some ys =>
      rw [e1] at e
      cases e
      obtain ⟨a, vs, ev, sq, rs⟩ := sq_lst r
      rw [ev]
      exact .lst sq (dps_of xs vs ys rs e1)
  | .ty _, _, _, _, e => by simp only [toPy] at e; cases e
  | .rdl _, _, _, _, e => by simp only [toPy] at e; cases e
  | .gl _, _, _, _, e => by simp only [toPy] at e; cases e
  | .ref _, _, _, _, e => by simp only [toPy] at e; cases e
  | .dk _ _, _, _, _, e => by simp only [toPy] at e; cases e
  | .dt _ _, _, _, _, e => by simp only [toPy] at e; cases e
  | .ins _ _ _, _, _, _, e => by simp only [toPy] at e; cases e
theorem dps_of {K : PySem.W.Frag} {mu : Mu} {s : S} {H : Hp} : ∀ (ds : List D) (vs : List V) (ys : List PyData), RelDs K mu H ds vs → toPys s ds = some ys → DpAll K H vs ys
  | [], vs, ys, r, e => by
    simp only [toPys] at e
    cases e
    simp only [RelDs] at r
    subst r
    exact .nil
  | d :: ds, vs, ys, r, e => by
    simp only [toPys] at e
    simp only [RelDs] at r
    obtain ⟨v, vr, rfl, r1, r2⟩ := r
    cases e1 : toPy s d with
    | none =>
      rw [e1] at e
      cases e
    | some y =>
      cases e2 : toPys s ds with
      | none =>
        rw [e1, e2] at e
        cases e
      | some yr =>
        rw [e1, e2] at e
        cases e
        exact .cons (dp_of d v y r1 e1) (dps_of ds vr yr r2 e2)
end
theorem dp_ofT {K : PySem.W.Frag} {mu : Mu} {s : S} {H : Hp} {d : D} {v : V} {y : PyData} (m : Sim K mu s H) (r : RelD K mu H d v) (e : toPyT s d = some y) : Dp K H v y := by
  unfold toPyT at e
  split at e
  · rename_i n
    split at e
    · rename_i xs hn
      cases e1 : toPys s xs with
      | none =>
        rw [e1] at e
        cases e
      | some ys =>
        rw [e1] at e
        cases e
        obtain ⟨a, vs, ev, ea, eh, rs⟩ := sq_ref m r hn
        rw [ev]
        exact .lst (.of eh) (dps_of xs vs ys rs e1)
    · cases e
  · exact dp_of d v y r e
def dEqD (neg : Bool) (s : S) (a b : D) : Option D := match toPyT s a, toPyT s b with
  | some x, some y => if SeqAt.shaped x = true ∧ SeqAt.shaped y = true then some (.bl (if neg = true then !PyData.eqv x y else PyData.eqv x y)) else none
  | _, _ => none
theorem opl_eqD {K : PySem.W.Frag} : OpL K (rEqD K) (dEqD false) := by
  intro mu s H a b d x y Q m ra rb e q
  unfold dEqD at e
  split at e
  · rename_i p1 p2 h1 h2
    split at e
    · rename_i hs
      cases e
      exact ⟨p1, p2, dp_ofT m ra h1, dp_ofT m rb h2, hs.1, hs.2, q mu H _ (Ge.refl _ _) m (rel_bl.mpr rfl)⟩
    · cases e
  · cases e
theorem opl_neD {K : PySem.W.Frag} : OpL K (rNeD K) (dEqD true) := by
  intro mu s H a b d x y Q m ra rb e q
  unfold dEqD at e
  split at e
  · rename_i p1 p2 h1 h2
    split at e
    · rename_i hs
      cases e
      exact ⟨p1, p2, dp_ofT m ra h1, dp_ofT m rb h2, hs.1, hs.2, q mu H _ (Ge.refl _ _) m (rel_bl.mpr rfl)⟩
    · cases e
  · cases e
theorem pE_eq {k : Nat} (hr : Room k X.A) (ha : PE X a (tE X.K W f)) (hb : PE X b (tE X.K W g)) : PE X (.Compare a [.Eq] [b] pos) (tE X.K W (fOp (dEqD false) f g)) := pE_cmp (op_eqD hr.units) opl_eqD ha hb
/-! is -/
def dIs (neg : Bool) (_ : S) (a b : D) : Option D := match b with
  | .non => some (.bl (if neg = true then !decide (a = .non) else decide (a = .non)))
  | .bl k => match a with
    | .bl j => some (.bl (if neg = true then !decide (j = k) else decide (j = k)))
    | _ => none
  | _ => none
theorem rel_non_iff {K : PySem.W.Frag} {mu : Mu} {H : Hp} {d : D} {v : V} (r : RelD K mu H d v) : decide (v = .non) = decide (d = .non) := by
  cases d <;> simp only [RelD] at r
  case non => subst r; rfl
  case bl => subst r; rfl
  case int => subst r; rfl
  case str => subst r; rfl
  case ty => subst r; rfl
  case gl => subst r; rfl
  case exc => obtain ⟨rfl, _⟩ := r; rfl
  case err => obtain ⟨a, rfl, _⟩ := r; rfl
  case adr => obtain ⟨rfl, _⟩ := r; rfl
  all_goals (obtain ⟨a, r⟩ := r; first | (obtain ⟨_, rfl⟩ := r; rfl) | (obtain ⟨_, rfl, _⟩ := r; rfl) | (obtain ⟨_, _, rfl, _⟩ := r; rfl))
theorem opl_is {K : PySem.W.Frag} : OpL K (fun x y H Q => (y = .non ∧ Q (.bl (decide (x = .non))) H) ∨ ∃ a b, x = .bl a ∧ y = .bl b ∧ Q (.bl (decide (a = b))) H) (dIs false) := by
  intro mu s H a b d x y Q m ra rb e q
  cases b <;> simp only [dIs] at e <;> try cases e
  · refine .inl ⟨rel_non.mp rb, ?_⟩
    rw [rel_non_iff ra]
    exact q mu H _ (Ge.refl _ _) m (rel_bl.mpr (by simp))
  · cases a <;> try cases e
    exact .inr ⟨_, _, rel_bl.mp ra, rel_bl.mp rb, q mu H _ (Ge.refl _ _) m (rel_bl.mpr (by simp))⟩
theorem opl_isnot {K : PySem.W.Frag} : OpL K (fun x y H Q => (y = .non ∧ Q (.bl (!decide (x = .non))) H) ∨ ∃ a b, x = .bl a ∧ y = .bl b ∧ Q (.bl (!decide (a = b))) H) (dIs true) := by
  intro mu s H a b d x y Q m ra rb e q
  cases b <;> simp only [dIs] at e <;> try cases e
  · refine .inl ⟨rel_non.mp rb, ?_⟩
    rw [rel_non_iff ra]
    exact q mu H _ (Ge.refl _ _) m (rel_bl.mpr (by simp))
  · cases a <;> try cases e
    exact .inr ⟨_, _, rel_bl.mp ra, rel_bl.mp rb, q mu H _ (Ge.refl _ _) m (rel_bl.mpr (by simp))⟩
theorem pE_is (ha : PE X a (tE X.K W f)) (hb : PE X b (tE X.K W g)) : PE X (.Compare a [.Is] [b] pos) (tE X.K W (fOp (dIs false) f g)) := pE_cmp (op_isN.or op_is_bl) opl_is ha hb
/-! ### instances -/
def insOf (s : S) : D → Option (Addr × List Str × List D)
  | .ins C fs vs => some (C, fs, vs)
  | .ref n => match s[n]? with
    | some (.ins C fs vs) => some (C, fs, vs)
    | _ => none
  | .adr _ (.ins C fs vs) => some (C, fs, vs)
  | _ => none
theorem ins_of {K : PySem.W.Frag} {mu : Mu} {s : S} {H : Hp} {d : D} {v : V} {C : Addr} {fs : List Str} {ds : List D} (m : Sim K mu s H) (r : RelD K mu H d v) (e : insOf s d = some (C, fs, ds)) :
    ∃ a dx vs, v = .ref a ∧ H a = some (.ins C dx (fs.zip vs)) ∧ fs.length = vs.length ∧ RelDs K mu H ds vs := by
  cases d <;> simp only [insOf] at e <;> try cases e
  · rename_i n
    cases en : s[n]? with
    | none =>
      rw [en] at e
      cases e
    | some o =>
      rw [en] at e
      cases o <;> cases e
      simp only [RelD] at r
      obtain ⟨a, ea, ev⟩ := r
      rcases m.obj n _ en with z | ⟨b, eb, r⟩
      · cases z
      · rw [ea] at eb
        cases eb
        obtain ⟨dx, vs, h1, h2, h3⟩ := r
        exact ⟨a, dx, vs, ev, h1, h2, h3⟩
  · simp only [RelD] at r
    obtain ⟨a, dx, vs, h1, h2, _, h3, h4⟩ := r
    exact ⟨a, dx, vs, h1, h2, h3, h4⟩
  · rename_i b d
    cases d <;> simp only [insOf] at e <;> try cases e
    simp only [RelD] at r
    obtain ⟨_, a, dx, vs, h1, h2, _, h3, h4⟩ := r
    exact ⟨a, dx, vs, h1, h2, h3, h4⟩
/-- o.n, o an instance of one of these classes -/
def fFld (cs : List Addr) (n : Str) (f : F D) : F D := fun L s => (f L s).bind fun d s1 => match insOf s1 d with
  | some (C, fs, vs) => if C ∈ cs then (match (fs.zip vs).lookup n with
    | some r => .ok r s1
    | none => .bad) else .bad
  | none => .bad
/-- o.n = e, o a tracked instance -/
def putN (n : Str) (d : D) : List Str → List D → List Str × List D
  | g :: fs, x :: vs => if g = n then (g :: fs, d :: vs) else ((g :: (putN n d fs vs).1), (x :: (putN n d fs vs).2))
  | _, _ => ([n], [d])
def sFldT (cs : List Addr) (n : Str) (fo f : F D) : FS := fun L s => (f L s).bindS L fun d s1 => (fo L s1).bindS L fun o s2 => match o with
  | .ref k => match s2[k]? with
    | some (.ins C fs vs) => if C ∈ cs ∧ fs.length < 1000 then .nx L (s2.set k (.ins C (putN n d fs vs).1 (putN n d fs vs).2)) else .bad
    | _ => .bad
  | _ => .bad
/-- C(..): a new instance; what its __init__ has made of it stays as it is -/
def mkD (C : Addr) (n : Nat) (G : List D → S → R D) (ds : List D) (s1 : S) : R D := if ds.length + 1 = n then (match G (.ref s1.length :: ds) (s1 ++ [.ins C [] []]) with
  | .ok d s2 => match s2[s1.length]? with
    | some (.ins C' fs vs) => if d = .non ∧ C' = C ∧ s2.take s1.length = s1 ∧ D.bels s1.length vs = true then .ok (.ins C fs vs) s1 else .bad
    | _ => .bad
  | .ex C' fs vs s2 => if s2.take s1.length = s1 ∧ D.bels s1.length vs = true then .ex C' fs vs s1 else .bad
  | .bad => .bad) else .bad
def fMake (C : Addr) (n : Nat) (G : List D → S → R D) (fa : F (List D)) : F D := fun L s => (fa L s).bind fun ds s1 => mkD C n G ds s1
/-- .. the class in a name of the def -/
def fMakeL (i : Nat) (C : Addr) (n : Nat) (G : List D → S → R D) (fa : F (List D)) : F D := fun L s => match L[i]? with
  | some (some (.gl C')) => if C' = C then fMake C n G fa L s else .bad
  | _ => .bad
end
end SI

/-! the class of an exception object, with or without fields -/
namespace PySem.W
open PySem PySem.Spec PySem.Calls PyProof.Rows
section
variable {prog : Program} {w : World} {A : Around} {E : Value → Shared → Prop} {s : Shared} {K : Frag} {x D : Addr} {ox : Obj} {od : Option Obj}
theorem clsX_found (T : L2.ExcC K D) : findObj K D od "__class__" = some (.bind (.builtin "getset_descriptor.__get__") (.builtin "object.__class__")) := by
  have hc : (clsIn K D).isSome = true := by
    obtain ⟨cd, hc, _⟩ := any_some T.hd
    rw [hc]
    rfl
  cases od with
  | none => exact findObj_dataN hc T.ha T.hn T.ht
  | some o => exact findObj_data hc T.ha T.hn T.ht
theorem clsX_ask (T : L2.ExcC K D) {Q : Option Value → Shared → Prop} (X : K.In s.heap) (I : InstAt s.heap x ox D od) (h : Q (some (.ref D)) { s with toks := s.toks + 1 }) : wpAny (model prog w) A (getAttr? (.ref x) "__class__") Q E s := by
  obtain ⟨hp, g, d, t, os⟩ := s
  have L0 := I.type (M := model prog w)
  have L1 := looks_findIn (M := model prog w) X T.hg
  have L2 := looks_findIn (M := model prog w) X T.hk
  have L3 := looks_find (M := model prog w) X I (clsX_found T)
  have sub : Looks (model prog w) hp (isInstance (.ref x) (.type "BaseException")) true := L0.andThen (looks_subIn X T.hs)
  have hx0 : (false && onTheHeap (Value.builtin "BaseException.__getattribute__")) = false := rfl
  have hx1 : (onTheHeap (Value.ref D) && Value.builtin "BaseException.__getattribute__" == Value.builtin "object.__getattribute__") = false := by
    rw [show (Value.builtin "BaseException.__getattribute__" == Value.builtin "object.__getattribute__") = false by decide +kernel]
    rfl
  unfold getAttr? getAttrBy? getAttrBy
  refine wpAny_bind (wpAny_mkText (wpAny_bind (wpAny_attempt (wpAny_holding (wpAny_bind (L0.at (wpAny_bind (L1.at ?_))))))))
  show wpAny _ _ (if (onTheHeap (Value.ref D) && Value.builtin "BaseException.__getattribute__" == Value.builtin "object.__getattribute__") = true then _ else _) _ _ _
  rw [hx1, if_neg Bool.false_ne_true]
  unfold getAttrByItsOwn hookBefore
  refine wpAny_bind ?_
  rw [if_pos (show onTheHeap (Value.ref D) = true from rfl)]
  refine L2.at ?_
  refine wpAny_bind (wpAny_attempt (wpAny_holding ?_))
  unfold callGetattribute
  rw [hx0, if_neg Bool.false_ne_true]
  unfold boundAndCalled
  rw [PySem.F.excAttr_ValueError.ga.bind (.ref x)]
  refine wpAny_bind (wpAny_pure ?_)
  show wpAny _ _ (call (.builtin "BaseException.__getattribute__") [.ref x, .str "__class__" t]) _ _ _
  refine wpAny_call (codeAny_call_builtin PySem.F.excAttr_ValueError.ga.plain PySem.F.entry_bexc_ga ?_)
  refine @check_slot (model prog w) _ _ ⟨hp, g, d, t + 1, os⟩ "BaseException.__getattribute__" "BaseException" "__getattribute__" (.ref x) [.str "__class__" t] [] _ (by decide +kernel) (by decide +kernel) sub (PySem.F.args_bexc_ga (.ref x) (.str "__class__" t)) ?_
  unfold Builtin.«object.__getattribute__»
  refine wpAny_bind (wpAny_of_eq (a := ((Value.ref x : Value), [Value.str "__class__" t])) (by first | rfl | (simp only [slotArgs]; rfl)) ?_)
  refine wpAny_bind (wpAny_pure (wpAny_bind (L0.at (wpAny_bind (L3.at ?_)))))
  show wpAny _ _ (holding [Value.builtin "object.__class__"] (call (.builtin "getset_descriptor.__get__") [.builtin "object.__class__", .ref x, .ref D]) >>= ret) _ _ _
  refine wpAny_bind (wpAny_holding (wpAny_call (class_get (s := ⟨hp, g, d, t + 1, os⟩) (ox := ox) (od := od) X I T.hm ?_)))
  refine wpAny_pure ?_
  show wpAny _ _ (handedOut (.ref D)) _ _ _
  rw [handedOut_of (v := .ref D) rfl]
  first
    | exact wpAny_pure (wpAny_pure h)
    | exact wpAny_pure h
    | exact wpAny_pure (wpAny_bind (wpAny_pure (wpAny_pure h)))
theorem clsX_kit (T : L2.ExcC K D) : KitX K (.ref x) (.ref D) (fun h => ∃ od, InstAt h x ox D od) where
  ty := fun _ _ _ ⟨_, I⟩ => I.type
  it := fun _ _ X _ => by
    obtain ⟨cd, hc, _⟩ := any_some T.hd
    unfold clsIn at hc
    split at hc
    · rename_i ho
      intro A' Q' E' s' k q
      unfold isType loadHead
      exact wpAny_bind (wpAny_loadPart (k _ _ (X _ _ ho)) (wpAny_pure q))
    · cases hc
  ne := (handS_kitx_exc (x := x) (ox := ox) T.hg T.hk T.hs T.hd T.ha T.hn T.ht T.hm).ne
  ca := fun X ⟨_, I⟩ k => clsX_ask T X I k
end
end PySem.W

namespace SI
open PySem PySem.Spec PyProof.Rows L2
section
variable {X : Cx} {W : WX} {a b c e : Expr} {f g h : F D} {t : F Bool} {fa : F (List D)} {es : List Expr} {pos : Pos} {st : Stmt} {sts : List Stmt} {u v : FS}
/-! ### types -/
def tyD (s : S) : D → Option String
  | .non => some "NoneType"
  | .bl _ => some "bool"
  | .int _ => some "int"
  | .str _ => some "str"
  | .tup _ => some "tuple"
  | .lst _ => some "list"
  | .rdl _ => some "list"
  | .dk _ _ => some "dict"
  | .ref n => match s[n]? with
    | some (.lst _) => some "list"
    | some (.dk _ _) => some "dict"
    | _ => none
  | _ => none
theorem ty_of {K : PySem.W.Frag} {mu : Mu} {s : S} {H : Hp} {d : D} {v : V} {n : String} (m : Sim K mu s H) (r : RelD K mu H d v) (e : tyD s d = some n) : TyX K H v (.type n) := by
  cases d <;> simp only [tyD] at e <;> try cases e
  · rw [rel_non.mp r]; exact .base .non
  · rw [rel_bl.mp r]; exact .base (.bl _)
  · rw [rel_int.mp r]; exact .base (.int _)
  · rw [rel_str.mp r]; exact .base (.str _)
  · rename_i k
    simp only [RelD] at r
    obtain ⟨a, ea, rfl⟩ := r
    cases ek : s[k]? with
    | none =>
      rw [ek] at e
      cases e
    | some o =>
      rw [ek] at e
      rcases m.obj k _ ek with z | ⟨b, eb, ro⟩
      · subst z
        cases e
      · rw [ea] at eb
        cases eb
        cases o <;> cases e
        · obtain ⟨vs, h1, _⟩ := ro
          exact .base (.lst h1)
        · obtain ⟨vs, h1, _⟩ := ro
          exact .base (.dK h1)
  · simp only [RelD] at r
    obtain ⟨a, vs, rfl, h1, _⟩ := r
    rcases h1 with ⟨o, _, _, h1, h2, _⟩ | h1
    · exact .kTuple h1 h2
    · exact .base (.tup h1.1)
  · simp only [RelD] at r
    obtain ⟨a, vs, rfl, h1, _⟩ := r
    exact .base (.lst h1.1)
  · simp only [RelD] at r
    obtain ⟨a, vs, rfl, h1, _⟩ := r
    rcases h1 with ⟨o, _, _, h1, h2, _⟩ | ⟨h1 | ⟨o, h1⟩, _⟩
    · exact .kList h1 h2
    · exact .base (.lst h1)
    · exact .base (.frz h1)
  · simp only [RelD] at r
    obtain ⟨a, vs, rfl, h1, _⟩ := r
    exact .base (.dK h1.1)
theorem tyD_mem {s : S} {d : D} {n : String} (e : tyD s d = some n) : n ∈ tyNames := by
  cases d <;> simp only [tyD] at e <;> try cases e
  case ref k =>
    split at e <;> first | (cases e; decide) | cases e
  all_goals decide
def nyB (K : PySem.W.Frag) (C : Addr) : Bool := tyNames.all fun n => PySem.W.kitOne K (.ref C) (.type n) == some false
def ynB (K : PySem.W.Frag) (C : Addr) : Bool := tyNames.all fun n => PySem.W.kitOne K (.type n) (.ref C) == some false
def nfB (K : PySem.W.Frag) (C : Addr) : Bool := tyNames.all fun n => PySem.W.notFirst K C (.type n)
/-- what the text says of an own class -/
structure InsTxt (K : PySem.W.Frag) (C : Addr) : Prop where
  cl : Cls K C
  ha : PySem.W.findIn K (.ref C) "__class__" = some (some (.builtin "object.__class__"))
  hn : PySem.W.specialIn K (.builtin "object.__class__") "__get__" = some (some (.builtin "getset_descriptor.__get__"))
  htk : PySem.W.takesIn K (.builtin "object.__class__") = some true
  hm : PySem.W.mroIn K C (.type "object") = some true
  noty : nyB K C = true
  tyno : ynB K C = true
  nf : nfB K C = true
theorem ty_ins {K : PySem.W.Frag} {mu : Mu} {s : S} {H : Hp} {d : D} {v : V} {C : Addr} {fs : List Str} {ds : List D} (T : InsTxt K C) (m : Sim K mu s H) (r : RelD K mu H d v) (e : insOf s d = some (C, fs, ds)) : TyX K H v (.ref C) := by
  obtain ⟨a, dx, vs, rfl, h1, _⟩ := ins_of m r e
  exact .base (.ins h1 T.cl T.ha T.hn T.htk T.hm)
/-- a value's type; an exception object that is not raised, too -/
inductive TyE (K : PySem.W.Frag) (H : Hp) : V → Value → Prop where
  | old {x : V} {t : Value} (h : TyX K H x t) : TyE K H x t
  | err {a C : Addr} (e : H a = some (ExO (.ref C) a)) (k : ErrK K C) : TyE K H (.ref a) (.ref C)
  | erd {a C dx : Addr} {fs : List (Str × V)} (e : H a = some (exo a C (some dx))) (ed : H dx = some (exd dx fs)) (k : ErrK K C) : TyE K H (.ref a) (.ref C)
theorem kit_ofE {pins : List (Addr × Obj)} {σ : L2.St} {H : Hp} {s : Shared} {x : V} {u t : Value} (I : Inv X pins σ H s) (rx : RelV x u) (ty : TyE X.K H x t) : ∃ P : Heap → Prop, PySem.W.KitX X.K u t P ∧ P s.heap ∧ u ≠ .builtin "__main__.__loader__#opaque" := by
  cases ty with
  | old h => exact kit_of I rx h
  | @err a C e k =>
    obtain rfl : u = Value.ref a := rx
    obtain ⟨⟨oe, vs, ho, hz, hd, _⟩, _, _⟩ := I.hok a _ e
    refine ⟨_, PySem.W.handS_kitx_exc (ox := oe) k.ex.hg k.ex.hk k.ex.hs k.ex.hd k.ex.ha k.ex.hn k.ex.ht k.ex.hm, ⟨ho, hz.1, ?_, by rw [hz.2]; trivial⟩, fun z => nomatch z⟩
    unfold PySem.W.notCls
    rw [hd] <;> rfl
  | @erd a C dx fs e ed k =>
    obtain rfl : u = Value.ref a := rx
    obtain ⟨t1, ho⟩ := exo_at I.hok e
    obtain ⟨mA, hns, rel⟩ := exd_at I.hok ed
    obtain ⟨oD, _, _, hoD, _, _⟩ := hns.count (within_of rel)
    exact ⟨_, PySem.W.clsX_kit k.ex, ⟨some oD, ho, rfl, rfl, hoD⟩, fun z => nomatch z⟩
/-- isinstance by one class, by a laid tuple, by a tuple of the written part -/
def eIsi (K : PySem.W.Frag) : List V → Hp → VK → Prop := fun xs H Q => ∃ (x y : V) (t w : Value) (r : Bool), xs = [x, y] ∧ ClsV y w ∧ TyE K H x t ∧ PySem.W.kitOne K t w = some r ∧ Q (.bl r) H
theorem call_isiE : CallR X (.builtin "isinstance") (eIsi X.K) := by
  intro pins s σ H xs us Q I rr hh
  obtain ⟨x, y, t, w, r, rfl, k, ty, e, q⟩ := hh
  obtain ⟨ux, uy, rfl, rx, ry⟩ := vals2 rr
  obtain rfl := k.eq ry
  obtain ⟨P, Z, hp, hn⟩ := kit_ofE I rx ty
  exact PySem.W.kia_one Z I.kIn hp e hn fun n => ⟨.bl r, H, I.tok n, rfl, q⟩
/-- an exception object is of none of the built-in types asked here -/
def errB : D → Option Bool
  | .err _ => some false
  | .erd _ _ _ => some false
  | _ => none
/-- isinstance(x, T): T a built-in class or one of the classes cs -/
def isi1 (cs : List Addr) (s : S) (d c : D) : Option Bool := match c with
  | .ty n => if n ∈ tyNames then (match tyD s d with
    | some t => kitB t n
    | none => match insOf s d with
      | some (C, _, _) => if C ∈ cs then some false else none
      | none => errB d) else none
  | .gl C' => if C' ∈ cs then (match tyD s d with
    | some _ => some false
    | none => match insOf s d with
      | some (C, _, _) => if C = C' then some true else none
      | none => none) else none
  | _ => none
theorem isi1_ok {K : PySem.W.Frag} {mu : Mu} {s : S} {H : Hp} {cs : List Addr} {d c : D} {x y : V} {r : Bool} (hC : ∀ C ∈ cs, InsTxt K C) (m : Sim K mu s H) (rd : RelD K mu H d x) (rc : RelD K mu H c y) (e : isi1 cs s d c = some r) :
    ∃ t w, ClsV y w ∧ TyE K H x t ∧ PySem.W.kitOne K t w = some r := by
  cases c <;> simp only [isi1] at e <;> try cases e
  · rename_i n
    simp only [RelD] at rc
    subst rc
    split at e
    · rename_i hn
      cases et : tyD s d with
      | some t =>
        rw [et] at e
        exact ⟨_, _, .ty n, .old (ty_of m rd et), kit_ty e⟩
      | none =>
        rw [et] at e
        dsimp only at e
        cases ei : insOf s d with
        | none =>
          rw [ei] at e
          dsimp only at e
          cases d <;> try cases e
          · simp only [RelD] at rd
            obtain ⟨a, rfl, hf, hk⟩ := rd
            exact ⟨_, _, .ty n, .err hf.1 hk, hk.ny n hn⟩
          · simp only [RelD] at rd
            obtain ⟨a, dx, vs, rfl, hf, hfd, hk, _⟩ := rd
            exact ⟨_, _, .ty n, .erd hf.1 hfd.1 hk, hk.ny n hn⟩
        | some z =>
          obtain ⟨C, fs, ds⟩ := z
          rw [ei] at e
          dsimp only at e
          split at e
          · rename_i hc
            cases e
            refine ⟨_, _, .ty n, .old (ty_ins (hC C hc) m rd ei), ?_⟩
            have z := List.all_eq_true.mp (hC C hc).noty n hn
            exact beq_iff_eq.mp z
          · cases e
    · cases e
  · rename_i C'
    simp only [RelD] at rc
    subst rc
    split at e
    · rename_i hc
      cases et : tyD s d with
      | some t =>
        rw [et] at e
        cases e
        refine ⟨_, _, .own C', .old (ty_of m rd et), ?_⟩
        have z := List.all_eq_true.mp (hC C' hc).tyno t (tyD_mem et)
        exact beq_iff_eq.mp z
      | none =>
        rw [et] at e
        dsimp only at e
        cases ei : insOf s d with
        | none =>
          rw [ei] at e
          cases e
        | some z =>
          obtain ⟨C, fs, ds⟩ := z
          rw [ei] at e
          dsimp only at e
          split at e
          · rename_i h1
            cases e
            subst h1
            refine ⟨_, _, .own C, .old (ty_ins (hC C hc) m rd ei), ?_⟩
            unfold PySem.W.kitOne
            rw [if_pos (beq_self_eq_true _)]
          · cases e
    · cases e
def bIsi (cs : List Addr) (s : S) : List D → Option D
  | [d, c] => (isi1 cs s d c).map .bl
  | _ => none
theorem cbl_isi {K : PySem.W.Frag} {cs : List Addr} (hC : ∀ C ∈ cs, InsTxt K C) : CbL K (eIsi K) (bIsi cs) := by
  intro mu s H ds d vs Q m r e q
  rcases ds with _ | ⟨d1, _ | ⟨d2, _ | ⟨d3, ds⟩⟩⟩
  · cases e
  · cases e
  · obtain ⟨v1, v2, rfl, r1, r2⟩ := rel2 r
    simp only [bIsi] at e
    cases ei : isi1 cs s d1 d2 with
    | none =>
      rw [ei] at e
      cases e
    | some k =>
      rw [ei] at e
      cases e
      obtain ⟨t, w, h1, h2, h3⟩ := isi1_ok hC m r1 r2 ei
      exact ⟨v1, v2, t, w, k, rfl, h1, h2, h3, q mu H _ (Ge.refl _ _) m (rel_bl.mpr rfl)⟩
  · cases e
theorem pE_isi {e2 : Expr} {p : Pos} {cs : List Addr} (hC : ∀ C ∈ cs, InsTxt X.K C) (hm : X.mg "isinstance" = none) (ha : PA X [e, e2] (tA X.K W fa)) (hg : Gl X "isinstance" := by rfl) (he : starEach [e, e2] X.env = (false, eval e X.env) :: starEach [e2] X.env := by rfl) (hpl : (backTo pos (starEach [e2] X.env)).any (·.1) = false := by rfl) :
    PE X (.Call (.Name "isinstance" p) [e, e2] [] pos) (tE X.K W (fCB (bIsi cs) fa)) :=
  pE_cb call_isiE (cbl_isi hC) hm (by decide +kernel) ha hg (by decide) (by decide) he hpl
/-- isinstance(x, (A, B)) -/
def isiAny (cs : List Addr) (s : S) (d : D) : List D → Option Bool
  | [] => some false
  | c :: r => match isi1 cs s d c with
    | some true => some true
    | some false => isiAny cs s d r
    | none => none
def bIsiT (cs : List Addr) (s : S) : List D → Option D
  | [d, .tup (c :: l)] => if ((c :: l).all fun c => (isi1 cs s d c).isSome) = true then (isiAny cs s d (c :: l)).map .bl else none
  | _ => none
/-! ### own == -/
/-! ### a class method by its class -/
end
end SI

namespace SI
open PySem PySem.Spec PyProof.Rows L2
section
variable {X : Cx} {W : WX} {a b c e : Expr} {f g h : F D} {t : F Bool} {fa : F (List D)} {es : List Expr} {pos : Pos} {st : Stmt} {sts : List Stmt} {u v : FS}
/-! ### [elt for target in iter if ..] -/
def wipeD (L : Lc) : List Nat → Lc
  | [] => L
  | v :: vs => (wipeD L vs).set v none
theorem wipe_lr {K : PySem.W.Frag} {mu : Mu} {H : Hp} {L : Lc} {σ : L2.St} (l : LR K mu H L σ) : ∀ vs : List Nat, LR K mu H (wipeD L vs) (wipe σ vs)
  | [] => l
  | v :: vs => (wipe_lr l vs).del v
def noW : WX := fun _ _ _ _ => False
/-- one clause; the list that grows is the n-th tracked object -/
def lcL (q : Tg) (t : F Bool) (f : F D) (r : Src) (L0 : Lc) (n : Nat) : List D → S → R Unit
  | [], s => if chk r s = true then .ok () s else .bad
  | d :: ds, s => if chk r s = true then (match q d L0 with
    | none => .bad
    | some L1 => (t L1 s).bind fun b s1 => if b = true then ((f L1 s1).bind fun y s2 => match s2[n]? with
      | some (.lst acc) => if acc.length < big then lcL q t f r L0 n ds (s2.set n (.lst (acc ++ [y]))) else .bad
      | _ => .bad) else lcL q t f r L0 n ds s1) else .bad
def fLc (fi : F Src) (q : Tg) (t : F Bool) (f : F D) (vs : List Nat) : F D := fun L s => (fi L s).bind fun r s1 => match lcL q t f r (wipeD L vs) s1.length r.items (s1 ++ [.lst []]) with
  | .ok _ s2 => match s2[s1.length]? with
    | some (.lst ys) => if (s2.take s1.length).all (O.bel s1.length) = true ∧ D.bels s1.length ys = true then .ok (.lst ys) (s2.take s1.length) else .bad
    | _ => .bad
  | _ => .bad
def fYes : F Bool := fun _ s => .ok true s
theorem weak_lc {fi : F Src} {q : Tg} {gt : TG} {tt : TT} {te : TE} {vs : List Nat} {σ : L2.St} {H : Hp} {Q : VK}
    (hg : ∀ v σ H (Q : L2.St → Hp → Prop), tG X.K q v (wipe σ vs) H Q → gt v (wipe σ vs) H fun σ2 H2 => wipe σ2 vs = wipe σ vs ∧ Q σ2 H2)
    (ht : ∀ σ H Q, tT X.K noW t σ H Q → tt σ H Q) (he : ∀ σ H Q, tE X.K noW f σ H Q → te σ H Q)
    (hq : tE X.K W (fLc fi q t f vs) σ H Q) : tLc (tI X.K W fi) gt tt te vs σ H Q := by
  obtain ⟨mu, s, L, m, l, p⟩ := hq
  refine ⟨mu, s, L, m, l, Post.step p fun r s1 mu1 H1 J g1 m1 ir p1 => ?_⟩
  intro Dl hD
  have l1 := l.mono g1
  cases eL : lcL q t f r (wipeD L vs) s1.length r.items (s1 ++ [.lst []]) with
  | ex C fs ds s2 =>
    rw [eL] at p1
    exact p1.elim
  | bad =>
    rw [eL] at p1
    exact p1.elim
  | ok uu sF =>
    rw [eL] at p1
    dsimp only at p1
    cases eY : sF[s1.length]? with
    | none =>
      rw [eY] at p1
      exact p1.elim
    | some ob =>
      rw [eY] at p1
      cases ob <;> try exact p1.elim
      rename_i ysF
      dsimp only at p1
      split at p1
      · rename_i hb
        have gT := Ge.track (u := .lst []) m1 hD
        have mT : Sim X.K (mu1 ++ [some Dl]) (s1 ++ [.lst []]) (upd H1 Dl (.lst [])) := m1.track hD ⟨[], upd_same, .nil⟩
        have hlast : (mu1 ++ [some Dl])[s1.length]? = some (some Dl) := by
          rw [← m1.len, List.getElem?_append_right (Nat.le_refl _), Nat.sub_self]
          rfl
        refine ⟨fun i n H' => n = r.items.length - i ∧ i ≤ r.items.length ∧ ∃ mu' s', Ge (mu1 ++ [some Dl]) (upd H1 Dl (.lst [])) mu' H' ∧ Sim X.K mu' s' H' ∧ lcL q t f r (wipeD L vs) s1.length (r.items.drop i) s' = .ok uu sF,
          ⟨_, rfl, Nat.zero_le _, _, _, Ge.refl _ _, mT, eL⟩, ?_⟩
        rintro i n H' ⟨rfl, hi, mu', s', g', m', p'⟩
        by_cases hlt : i < r.items.length
        · have hd : r.items.drop i = r.items[i] :: r.items.drop (i + 1) := List.drop_eq_getElem_cons hlt
          rw [hd] at p'
          unfold lcL at p'
          by_cases hk : chk r s' = true
          · rw [if_pos hk] at p'
            have hir := (ir mu' s' H' (gT.trans g') m' hk i).1 _ (List.getElem?_eq_getElem hlt)
            refine .inr ⟨hir.1, fun H2 => ∃ mu2 s2, Ge (mu1 ++ [some Dl]) (upd H1 Dl (.lst [])) mu2 H2 ∧ Sim X.K mu2 s2 H2 ∧ lcL q t f r (wipeD L vs) s1.length (r.items.drop (i + 1)) s2 = .ok uu sF,
              fun H2 n2 => ⟨_, ?_, rfl, hlt, n2⟩, fun x H2 hy => ?_⟩
            · omega
            · obtain ⟨g2, m2, r2⟩ := hir.2 x H2 hy
              cases eq : q r.items[i] (wipeD L vs) with
              | none =>
                rw [eq] at p'
                cases p'
              | some L1 =>
                rw [eq] at p'
                dsimp only at p'
                refine hg x σ H2 _ ⟨mu', s', wipeD L vs, _, L1, m2, wipe_lr (((l1.mono gT).mono g').mono g2) vs, r2, eq, fun σ2 l2 => ?_⟩
                refine ht σ2 H2 _ ⟨mu', s', L1, m2, l2, ?_⟩
                cases et : t L1 s' with
                | bad =>
                  rw [et] at p'
                  cases p'
                | ex C fs ds s3 =>
                  rw [et] at p'
                  cases p'
                | ok bb s3 =>
                  rw [et] at p'
                  simp only [R.bind] at p'
                  intro mu3 H3 b3 g3 m3 e3
                  subst e3
                  cases bb with
                  | false =>
                    rw [if_neg Bool.false_ne_true]
                    rw [if_neg Bool.false_ne_true] at p'
                    exact ⟨mu3, s3, (g'.trans g2).trans g3, m3, p'⟩
                  | true =>
                    rw [if_pos rfl]
                    rw [if_pos rfl] at p'
                    refine he σ2 H3 _ ⟨mu3, s3, L1, m3, l2.mono g3, ?_⟩
                    cases ef : f L1 s3 with
                    | bad =>
                      rw [ef] at p'
                      cases p'
                    | ex C fs ds s4 =>
                      rw [ef] at p'
                      cases p'
                    | ok y s4 =>
                      rw [ef] at p'
                      simp only [R.bind] at p'
                      intro mu4 H4 vy g4 m4 ry
                      cases e4 : s4[s1.length]? with
                      | none =>
                        rw [e4] at p'
                        cases p'
                      | some ob =>
                        rw [e4] at p'
                        cases ob <;> try cases p'
                        rename_i acc
                        dsimp only at p'
                        split at p'
                        · rename_i hbig
                          have gA := ((g'.trans g2).trans g3).trans g4
                          have hDl := gA.rf s1.length Dl hlast
                          obtain ⟨b, vacc, e1, e2, e3, rs⟩ := sq_ref (v := .ref Dl) m4 (by simp only [RelD]; exact ⟨Dl, hDl, rfl⟩) e4
                          cases e1
                          refine ⟨vacc, e3, ?_, mu4, _, gA.trans (Ge.put hDl), m4.put (o := .lst (acc ++ [y])) hDl ⟨_, upd_same, (rs.append (.cons ry .nil)).mono (Ge.put hDl)⟩, p'⟩
                          rw [← rs.length, sizeLine_eq]
                          unfold big at hbig
                          omega
                        · cases p'
          · rw [if_neg hk] at p'
            cases p'
        · have hd : r.items.drop i = [] := List.drop_eq_nil_of_le (by omega)
          rw [hd] at p'
          unfold lcL at p'
          by_cases hk : chk r s' = true
          · rw [if_pos hk] at p'
            cases p'
            refine .inl ⟨(ir mu' _ H' (gT.trans g') m' hk i).2 (List.getElem?_eq_none (by omega)), ?_⟩
            have hDl := g'.rf s1.length Dl hlast
            obtain ⟨b, vacc, e1, e2, e3, rs⟩ := sq_ref (v := .ref Dl) m' (by simp only [RelD]; exact ⟨Dl, hDl, rfl⟩) eY
            cases e1
            have gB : Ge mu1 H1 (mu'.take s1.length) H' := by
              have z := (gT.trans g').back
              rw [m1.len] at z
              exact z
            refine p1 (mu'.take s1.length) H' _ gB (m'.back fun o ho => List.all_eq_true.mp hb.1 o ho) ?_
            simp only [RelD]
            refine ⟨Dl, vacc, rfl, ⟨e3, fun z => ?_⟩, rs.cut _ _ hb.2⟩
            obtain ⟨j, ej⟩ := live_iff.mp z
            rw [List.getElem?_take] at ej
            split at ej
            · have := m'.inj j s1.length Dl ej hDl
              omega
            · cases ej
          · rw [if_neg hk] at p'
            cases p'
      · exact p1.elim
/-- targets in a comprehension: they change their own places alone -/
theorem wipe_set {σ : L2.St} {vs : List Nat} {i : Nat} {x : Option V} (h : i ∈ vs) : wipe (σ.set i x) vs = wipe σ vs := by
  apply List.ext_getElem?
  intro j
  have key : ∀ (vs : List Nat) (τ : L2.St), (wipe τ vs)[j]? = if j ∈ vs ∧ j < τ.length then some none else τ[j]? := by
    intro vs
    induction vs with
    | nil => intro τ; simp [wipe]
    | cons v vs ih =>
      intro τ
      unfold wipe
      by_cases hj : v = j
      · subst hj
        by_cases hl : v < τ.length
        · rw [List.getElem?_set_self (by rw [wipe_length]; exact hl), if_pos ⟨List.mem_cons_self, hl⟩]
        · rw [if_neg (fun z => hl z.2), List.getElem?_eq_none (by rw [List.length_set, wipe_length]; omega), List.getElem?_eq_none (by omega)]
      · rw [List.getElem?_set_ne hj, ih]
        have : (j ∈ v :: vs) ↔ j ∈ vs := by
          rw [List.mem_cons]
          exact ⟨fun z => z.elim (fun e => absurd e.symm hj) id, .inr⟩
        simp only [this]
  rw [key, key, List.length_set]
  by_cases hj : j ∈ vs ∧ j < σ.length
  · rw [if_pos hj, if_pos hj]
  · rw [if_neg hj, if_neg hj]
    by_cases hij : i = j
    · subst hij
      have hl : ¬ i < σ.length := fun z => hj ⟨h, z⟩
      rw [List.getElem?_eq_none (by rw [List.length_set]; omega), List.getElem?_eq_none (by omega)]
    · rw [List.getElem?_set_ne hij]
theorem wipe_wipe {σ : L2.St} : ∀ {vs : List Nat}, wipe (wipe σ vs) vs = wipe σ vs := fun {vs} => by
  apply List.ext_getElem?
  intro j
  have key : ∀ (vs : List Nat) (τ : L2.St), (wipe τ vs)[j]? = if j ∈ vs ∧ j < τ.length then some none else τ[j]? := by
    intro vs
    induction vs with
    | nil => intro τ; simp [wipe]
    | cons v vs ih =>
      intro τ
      unfold wipe
      by_cases hj : v = j
      · subst hj
        by_cases hl : v < τ.length
        · rw [List.getElem?_set_self (by rw [wipe_length]; exact hl), if_pos ⟨List.mem_cons_self, hl⟩]
        · rw [if_neg (fun z => hl z.2), List.getElem?_eq_none (by rw [List.length_set, wipe_length]; omega), List.getElem?_eq_none (by omega)]
      · rw [List.getElem?_set_ne hj, ih]
        have : (j ∈ v :: vs) ↔ j ∈ vs := by
          rw [List.mem_cons]
          exact ⟨fun z => z.elim (fun e => absurd e.symm hj) id, .inr⟩
        simp only [this]
  rw [key, key, wipe_length]
  by_cases hj : j ∈ vs ∧ j < σ.length
  · rw [if_pos hj, if_pos hj]
  · rw [if_neg hj, if_neg hj]
/-- which places a target fills -/
def KG (K : PySem.W.Frag) (q : Tg) (gt : TG) (vs : List Nat) : Prop := ∀ v σ H (Q : L2.St → Hp → Prop), tG K q v σ H Q → gt v σ H fun σ2 H2 => wipe σ2 vs = wipe σ vs ∧ Q σ2 H2
theorem kg_name {K : PySem.W.Frag} {i : Nat} {vs : List Nat} (h : i ∈ vs) : KG K (gN i) (gName i) vs := fun v σ H Q ⟨mu, s, L, d, L', m, l, r, e, q⟩ => by
  cases e
  exact ⟨wipe_set h, q _ (l.set i r)⟩
theorem mon_name {i : Nat} : ∀ v σ H (Q Q' : L2.St → Hp → Prop), (∀ σ H, Q σ H → Q' σ H) → gName i v σ H Q → gName i v σ H Q' := fun _ _ _ _ _ h q => h _ _ q
theorem kg_wipe {K : PySem.W.Frag} {q : Tg} {gt : TG} {vs : List Nat} (h : KG K q gt vs) (mon : ∀ v σ H (Q Q' : L2.St → Hp → Prop), (∀ σ H, Q σ H → Q' σ H) → gt v σ H Q → gt v σ H Q') :
    ∀ v σ H (Q : L2.St → Hp → Prop), tG K q v (wipe σ vs) H Q → gt v (wipe σ vs) H fun σ2 H2 => wipe σ2 vs = wipe σ vs ∧ Q σ2 H2 := fun v σ H Q hq =>
  mon _ _ _ _ _ (fun σ2 H2 z => ⟨z.1.trans wipe_wipe, z.2⟩) (h v (wipe σ vs) H Q hq)
theorem pTs_nil {Y : Cx} : PTs Y [] (tT Y.K noW fYes) := ⟨fun pins s σ H Q I hq => pts_nil.run pins s σ H Q I (by
  obtain ⟨mu, s', L, m, l, p⟩ := hq
  exact p mu H _ (Ge.refl _ _) m rfl)⟩
theorem pTs_one {Y : Cx} {c : Expr} (hc : PT Y c (tT Y.K noW t)) : PTs Y [c] (tT Y.K noW t) := pts_one hc
/-- [elt for target in iter if ..], as a value -/
theorem pE_lc {elt tg iter : Expr} {ifs : List Expr} {scope : Scope} {own : List (Str × Nat)} {fi : F Src} {q : Tg} {gt : TG} {vs : List Nat} (hc : X.calm = true) (hN : X.N.Nodup) (hi : PI X tg iter (tI X.K W fi)) (ok : BlkOk X.N X.env.scope scope own)
    (hk : KG X.K q gt vs) (mon : ∀ v σ H (Q Q' : L2.St → Hp → Prop), (∀ σ H, Q σ H → Q' σ H) → gt v σ H Q → gt v σ H Q')
    (hg : ∀ (s : Shared) (H : Hp) (C : Addr) (cl : List (Str × Addr)) (fp : List Addr), PG (X.blk s H scope (compEnvC scope cl C X.env) fp) tg gt) (ht : ∀ (s : Shared) (H : Hp) (C : Addr) (cl : List (Str × Addr)) (fp : List Addr), PTs (X.blk s H scope (compEnvC scope cl C X.env) fp) ifs (tT X.K noW t))
    (he : ∀ (s : Shared) (H : Hp) (C : Addr) (cl : List (Str × Addr)) (fp : List Addr), PE (X.blk s H scope (compEnvC scope cl C X.env) fp) elt (tE X.K noW f)) (hs : ∀ x, foldedSetIterable iter X.env x = pure x := by intro _; rfl) (hvs : own.map (·.2) = vs := by rfl) :
    PE X (.ListComp elt [⟨tg, iter, ifs, 0⟩] scope pos) (tE X.K W (fLc fi q t f vs)) :=
  PE.weak (pe_lc hc hN hi ok hg ht he hs) fun σ H Q hq => by
    rw [hvs]
    exact weak_lc (kg_wipe hk mon) (fun _ _ _ z => z) (fun _ _ _ z => z) hq
end
end SI

namespace SI
open PySem PySem.Spec PyProof.Rows L2
section
variable {X : Cx} {W : WX} {a b c e : Expr} {f g h : F D} {t : F Bool} {fa : F (List D)} {es : List Expr} {pos : Pos} {st : Stmt} {sts : List Stmt} {u v : FS}
/-! ### + of every kind -/
def dAdd (s : S) (a b : D) : Option D := match a, b with
  | .int i, .int j => some (.int (i + j))
  | .str x, .str y => if x.length + y.length ≤ big then some (.str (x ++ y)) else none
  | .tup xs, .tup ys => if xs.length + ys.length ≤ big then some (.tup (xs ++ ys)) else none
  | .lst xs, .lst ys => if xs.length + ys.length ≤ big then some (.lst (xs ++ ys)) else none
  | .ref n, .lst ys => match s[n]? with
    | some (.lst xs) => if xs.length + ys.length ≤ big then some (.lst (xs ++ ys)) else none
    | _ => none
  | _, _ => none
theorem opl_add {K : PySem.W.Frag} : OpL K (fun x y H Q => rI0 (fun i j => .int (i + j)) x y H Q ∨ (∃ i j, x = .str i ∧ y = .str j ∧ i.length + j.length ≤ sizeLine ∧ Q (.str (i ++ j)) H) ∨ rCatA K x y H Q ∨ rCat x y H Q) dAdd := by
  intro mu s H a b d x y Q m ra rb e q
  unfold dAdd at e
  split at e
  · cases e
    exact .inl ⟨_, _, rel_int.mp ra, rel_int.mp rb, q mu H _ (Ge.refl _ _) m (rel_int.mpr rfl)⟩
  · split at e
    · rename_i hl
      cases e
      exact .inr (.inl ⟨_, _, rel_str.mp ra, rel_str.mp rb, big_le hl, q mu H _ (Ge.refl _ _) m (rel_str.mpr rfl)⟩)
    · cases e
  · split at e
    · rename_i xs ys hl
      cases e
      obtain ⟨p1, vs, e1, s1, r1⟩ := sq_tup ra
      obtain ⟨p2, ws, e2, s2, r2⟩ := sq_tup rb
      refine .inr (.inr (.inl ⟨p1, p2, vs, ws, e1, e2, s1, s2, by rw [← r1.length, ← r2.length]; exact big_le hl, fun z => ?_, fun _ z => ?_, fun _ _ p hp => ?_⟩))
      · subst z
        have e3 : xs = [] := List.length_eq_zero_iff.mp (by rw [r1.length]; rfl)
        subst e3
        rw [← e2]
        exact q mu H _ (Ge.refl _ _) m rb
      · subst z
        have e3 : ys = [] := List.length_eq_zero_iff.mp (by rw [r2.length]; rfl)
        subst e3
        rw [← e1]
        exact q mu H _ (Ge.refl _ _) m (by rw [List.append_nil]; exact ra)
      · exact q mu _ _ (Ge.pure m hp) (m.pure hp) (rel_tup m hp (r1.append r2))
    · cases e
  · split at e
    · rename_i xs ys hl
      cases e
      simp only [RelD] at ra rb
      obtain ⟨p1, vs, e1, s1, r1⟩ := ra
      obtain ⟨p2, ws, e2, s2, r2⟩ := rb
      exact .inr (.inr (.inr ⟨p1, p2, vs, ws, e1, e2, s1.1, s2.1, by rw [← r1.length, ← r2.length]; exact big_le hl, fun p hp => q mu _ _ (Ge.pure m hp) (m.pure hp) (rel_lst m hp (r1.append r2))⟩))
    · cases e
  · split at e
    · rename_i en
      split at e
      · rename_i hl
        cases e
        obtain ⟨p1, vs, e1, _, s1, r1⟩ := sq_ref m ra en
        simp only [RelD] at rb
        obtain ⟨p2, ws, e2, s2, r2⟩ := rb
        exact .inr (.inr (.inr ⟨p1, p2, vs, ws, e1, e2, s1, s2.1, by rw [← r1.length, ← r2.length]; exact big_le hl, fun p hp => q mu _ _ (Ge.pure m hp) (m.pure hp) (rel_lst m hp (r1.append r2))⟩))
      · cases e
    · cases e
  · cases e
theorem pE_add (ha : PE X a (tE X.K W f)) (hb : PE X b (tE X.K W g)) : PE X (.BinOp a .Add b pos) (tE X.K W (fOp dAdd f g)) := pE_op (op_add.or (op_add_str.or (op_catA.or op_cat))) opl_add ha hb
/-! * -/
def repD (k : Nat) (xs : List D) : List D := (List.replicate k xs).flatten
theorem rep_rel {K : PySem.W.Frag} {mu : Mu} {H : Hp} {xs : List D} {vs : List V} (r : RelDs K mu H xs vs) : ∀ k : Nat, RelDs K mu H (repD k xs) ((List.replicate k vs).flatten)
  | 0 => .nil
  | k + 1 => by
    unfold repD
    rw [List.replicate_succ, List.replicate_succ, List.flatten_cons, List.flatten_cons]
    exact r.append (rep_rel r k)
def dMul (s : S) (a b : D) : Option D := match a, b with
  | .int i, .int j => if mulOk i j = true then some (.int (i * j)) else none
  | .lst xs, .int k => if k < 2 ^ 40 ∧ -(2 ^ 40) < k ∧ xs.length * k.toNat ≤ big then some (.lst (repD k.toNat xs)) else none
  | _, _ => none
theorem opl_mul {K : PySem.W.Frag} : OpL K (fun x y H Q => rI MulP (fun i j => .int (i * j)) x y H Q ∨ rRep x y H Q) dMul := by
  intro mu s H a b d x y Q m ra rb e q
  unfold dMul at e
  split at e
  · split at e
    · rename_i i j hm
      cases e
      have h2 : MulP i j := by
        unfold mulOk at hm
        have h3 := of_decide_eq_true hm
        exact h3
      exact .inl ⟨_, _, rel_int.mp ra, rel_int.mp rb, h2, q mu H _ (Ge.refl _ _) m (rel_int.mpr rfl)⟩
    · cases e
  · split at e
    · rename_i xs k hl
      cases e
      simp only [RelD] at ra
      obtain ⟨p1, vs, e1, s1, r1⟩ := ra
      refine .inr ⟨p1, k, vs, e1, rel_int.mp rb, s1.1, by omega, by omega, by rw [← r1.length]; exact big_le hl.2.2, fun p hp => ?_⟩
      exact q mu _ _ (Ge.pure m hp) (m.pure hp) (rel_lst m hp (rep_rel r1 _))
    · cases e
  · cases e
theorem pE_mul (ha : PE X a (tE X.K W f)) (hb : PE X b (tE X.K W g)) : PE X (.BinOp a .Mult b pos) (tE X.K W (fOp dMul f g)) := pE_op (op_mulX.or op_rep) opl_mul ha hb
/-! -x -/
def fNeg (f : F D) : F D := fun L s => (f L s).bind fun d s1 => match d with
  | .int i => .ok (.int (-i)) s1
  | _ => .bad
theorem pE_neg (ha : PE X a (tE X.K W f)) : PE X (.UnaryOp .USub a pos) (tE X.K W (fNeg f)) := by
  refine PE.weak (pe_un un_neg ha) fun σ H Q ⟨mu, s, L, m, l, p⟩ => ⟨mu, s, L, m, l, Post.step p fun d s1 mu1 H1 v1 g1 m1 r1 p1 => ?_⟩
  cases d <;> try exact p1.elim
  exact ⟨_, rel_int.mp r1, p1 mu1 H1 _ (Ge.refl _ _) m1 (rel_int.mpr rfl)⟩
/-! max, min of two, abs -/
def bMax (_ : S) : List D → Option D
  | [.int i, .int j] => some (.int (if j > i then j else i))
  | _ => none
def bMin (_ : S) : List D → Option D
  | [.int i, .int j] => some (.int (if j < i then j else i))
  | _ => none
def bAbs (_ : S) : List D → Option D
  | [.int i] => some (.int (if i < 0 then -i else i))
  | _ => none
theorem cbl_min {K : PySem.W.Frag} : CbL K (fun xs H Q => ∃ i j, xs = [.int i, .int j] ∧ Q (.int (if j < i then j else i)) H) bMin := by
  intro mu s H ds d vs Q m r e q
  unfold bMin at e
  split at e
  · cases e
    obtain ⟨v1, v2, rfl, r1, r2⟩ := rel2 r
    exact ⟨_, _, by rw [rel_int.mp r1, rel_int.mp r2], q mu H _ (Ge.refl _ _) m (rel_int.mpr rfl)⟩
  · cases e
theorem cbl_abs {K : PySem.W.Frag} : CbL K (fun xs H Q => ∃ i, xs = [.int i] ∧ Q (.int (if i < 0 then -i else i)) H) bAbs := by
  intro mu s H ds d vs Q m r e q
  unfold bAbs at e
  split at e
  · cases e
    obtain ⟨v1, rfl, r1⟩ := rel1 r
    exact ⟨_, by rw [rel_int.mp r1], q mu H _ (Ge.refl _ _) m (rel_int.mpr rfl)⟩
  · cases e
theorem pE_min {e2 : Expr} {p : Pos} (hc : X.calm = true) (hm : X.mg "min" = none) (ha : PA X [e, e2] (tA X.K W fa)) (hg : Gl X "min" := by rfl) (he : starEach [e, e2] X.env = (false, eval e X.env) :: starEach [e2] X.env := by rfl) (hpl : (backTo pos (starEach [e2] X.env)).any (·.1) = false := by rfl) :
    PE X (.Call (.Name "min" p) [e, e2] [] pos) (tE X.K W (fCB bMin fa)) := pE_cb (call_min2 hc) cbl_min hm (by decide +kernel) ha hg (by decide) (by decide) he hpl
theorem pE_abs {p : Pos} (hm : X.mg "abs" = none) (ha : PA X [e] (tA X.K W fa)) (hg : Gl X "abs" := by rfl) (he : starEach [e] X.env = (false, eval e X.env) :: starEach [] X.env := by rfl) :
    PE X (.Call (.Name "abs" p) [e] [] pos) (tE X.K W (fCB bAbs fa)) := pE_cb call_abs cbl_abs hm (by decide +kernel) ha hg (by decide) (by decide) he rfl
/-! list(..), tuple(..) -/
def bList (s : S) : List D → Option D
  | [d] => (seqOf s d).map .lst
  | _ => none
/-- list(..) that will be changed -/
def fListT (fa : F (List D)) : F D := fun L s => (fa L s).bind fun ds s1 => match ds with
  | [d] => match seqOf s1 d with
    | some xs => .ok (.ref s1.length) (s1 ++ [.lst xs])
    | none => .bad
  | _ => .bad
/-! {} that is not changed -/
theorem dc_dLt {K : PySem.W.Frag} : OpL K (rI0 fun i j => .bl (decide (i < j))) dLt := opl_I0 fun _ _ _ _ => by simp only [RelD]
theorem dc_dLe {K : PySem.W.Frag} : OpL K (rI0 fun i j => .bl (decide (i ≤ j))) dLe := opl_I0 fun _ _ _ _ => by simp only [RelD]
theorem dc_dGt {K : PySem.W.Frag} : OpL K (rI0 fun i j => .bl (decide (j < i))) dGt := opl_I0 fun _ _ _ _ => by simp only [RelD]
theorem dc_dGe {K : PySem.W.Frag} : OpL K (rI0 fun i j => .bl (decide (j ≤ i))) dGe := opl_I0 fun _ _ _ _ => by simp only [RelD]
theorem pE_chainI {op op' : CmpOp} {r r' : R2} {o o' : S → D → D → Option D} {h : F D} (ho : OpR X (compareOp op) r) (ho' : OpR X (compareOp op') r') (hl : OpL X.K r o) (hl' : OpL X.K r' o') (ha : PE X a (tE X.K W f)) (hb : PE X b (tE X.K W g)) (hc : PE X c (tE X.K W h))
    (hm : lastMarks [op, op'] [b, c] = false := by with_unfolding_all rfl) : PE X (.Compare a [op, op'] [b, c] pos) (tE X.K W (fChain o o' f g h)) := pE_chain ho ho' hl hl' ha hb hc (pe_chain ho ho' ha hb hc hm)
/-! ### comparisons as tests -/
theorem weak_tst (σ : L2.St) (H : Hp) (Q : Bool → Hp → Prop) {te : TE} (hw : ∀ σ H Q, tE X.K W f σ H Q → te σ H Q) (hq : tT X.K W (fTst f) σ H Q) : tTest te σ H Q := by
  obtain ⟨mu, s, L, m, l, p⟩ := hq
  refine hw σ H _ ⟨mu, s, L, m, l, Post.step p fun d1 s1 mu1 H1 v1 g1 m1 r1 p1 => ?_⟩
  cases d1 <;> try exact p1.elim
  rename_i bb
  exact ⟨bb, rel_bl.mp r1, p1 mu1 H1 _ (Ge.refl _ _) m1 rfl⟩
theorem pT_cmp {op : CmpOp} {r : R2} {o : S → D → D → Option D} (ho : OpR X (compareOp op) r) (hl : OpL X.K r o) (ha : PE X a (tE X.K W f)) (hb : PE X b (tE X.K W g)) (hm : behindInMarks op b = false := by first | exact nomark _ | rfl) :
    PT X (.Compare a [op] [b] pos) (tT X.K W (fTst (fOp o f g))) :=
  PT.weak (pt_cmpR ho ha hb hm) fun σ H Q q => weak_tst σ H Q (fun σ H Q q => weak_op hl σ H Q q) q
theorem pT_lt (ha : PE X a (tE X.K W f)) (hb : PE X b (tE X.K W g)) : PT X (.Compare a [.Lt] [b] pos) (tT X.K W (fTst (fOp dLt f g))) := pT_cmp op_lt dc_dLt ha hb
theorem pT_gt (ha : PE X a (tE X.K W f)) (hb : PE X b (tE X.K W g)) : PT X (.Compare a [.Gt] [b] pos) (tT X.K W (fTst (fOp dGt f g))) := pT_cmp op_gt dc_dGt ha hb
theorem pT_ge (ha : PE X a (tE X.K W f)) (hb : PE X b (tE X.K W g)) : PT X (.Compare a [.GtE] [b] pos) (tT X.K W (fTst (fOp dGe f g))) := pT_cmp op_ge dc_dGe ha hb
theorem pT_eq {k : Nat} (hr : Room k X.A) (ha : PE X a (tE X.K W f)) (hb : PE X b (tE X.K W g)) : PT X (.Compare a [.Eq] [b] pos) (tT X.K W (fTst (fOp (dEqD false) f g))) := pT_cmp (op_eqD hr.units) opl_eqD ha hb
theorem pT_ne {k : Nat} (hr : Room k X.A) (ha : PE X a (tE X.K W f)) (hb : PE X b (tE X.K W g)) : PT X (.Compare a [.NotEq] [b] pos) (tT X.K W (fTst (fOp (dEqD true) f g))) := pT_cmp (op_neD hr.units) opl_neD ha hb
theorem pT_is (ha : PE X a (tE X.K W f)) (hb : PE X b (tE X.K W g)) : PT X (.Compare a [.Is] [b] pos) (tT X.K W (fTst (fOp (dIs false) f g))) := pT_cmp (op_isN.or op_is_bl) opl_is ha hb
theorem pT_isnot (ha : PE X a (tE X.K W f)) (hb : PE X b (tE X.K W g)) : PT X (.Compare a [.IsNot] [b] pos) (tT X.K W (fTst (fOp (dIs true) f g))) := pT_cmp (op_notN.or op_isnot_bl) opl_isnot ha hb
/-! ### defs that leave the store as it was -/
/-- an own tracked object in an answer becomes one that is not changed any more -/
def finS (n : Nat) (s : S) (d : D) : Option D := match d with
  | .ref i => if i < n then some (.ref i) else (match s[i]? with
    | some (.lst xs) => if D.bels n xs = true then some (.lst xs) else none
    | some (.dk ks vs) => if D.bels n vs = true then some (.dk ks vs) else none
    | some (.dt ks vs) => if D.bels n vs = true then some (.dt ks vs) else none
    | some (.ins C fs vs) => if D.bels n vs = true then some (.ins C fs vs) else none
    | _ => none)
  | d => if D.bel n d = true then some d else none
def finsS (n : Nat) (s : S) : List D → Option (List D)
  | [] => some []
  | x :: xs => match finS n s x, finsS n s xs with
    | some y, some ys => some (y :: ys)
    | _, _ => none
def fin2 (n : Nat) (s : S) (d : D) : Option D := match d with
  | .tup xs => (finsS n s xs).map .tup
  | .ref i => if i < n then some (.ref i) else (match s[i]? with
    | some (.lst xs) => (finsS n s xs).map .lst
    | _ => finS n s (.ref i))
  | d => finS n s d
theorem not_live_cut {K : PySem.W.Frag} {mu : Mu} {s : S} {H : Hp} {n i : Nat} {a : Addr} (m : Sim K mu s H) (h : mu[i]? = some (some a)) (hi : ¬ i < n) : ¬ Live (mu.take n) a := fun z => by
  obtain ⟨j, ej⟩ := live_iff.mp z
  rw [List.getElem?_take] at ej
  split at ej
  · have := m.inj j i a ej h
    omega
  · cases ej
theorem finS_ok {K : PySem.W.Frag} {mu : Mu} {s : S} {H : Hp} {n : Nat} {d d' : D} {v : V} (m : Sim K mu s H) (r : RelD K mu H d v) (e : finS n s d = some d') : RelD K (mu.take n) H d' v := by
  unfold finS at e
  split at e
  · rename_i i
    split at e
    · rename_i hi
      cases e
      exact r.cut _ _ (by simp only [D.bel, decide_eq_true_eq]; exact hi)
    · rename_i hi
      simp only [RelD] at r
      obtain ⟨a, ea, rfl⟩ := r
      have nl := not_live_cut m ea hi
      split at e
      · rename_i xs hs
        split at e
        · rename_i hb
          cases e
          rcases m.obj i _ hs with z | ⟨b, eb, ro⟩
          · cases z
          · rw [ea] at eb
            cases eb
            obtain ⟨vs, h1, h2⟩ := ro
            simp only [RelD]
            exact ⟨a, vs, rfl, ⟨h1, nl⟩, h2.cut _ _ hb⟩
        · cases e
      · rename_i ks xs hs
        split at e
        · rename_i hb
          cases e
          rcases m.obj i _ hs with z | ⟨b, eb, ro⟩
          · cases z
          · rw [ea] at eb
            cases eb
            obtain ⟨vs, h1, h3, h2⟩ := ro
            simp only [RelD]
            exact ⟨a, vs, rfl, ⟨h1, nl⟩, h3, h2.cut _ _ hb⟩
        · cases e
      · rename_i ks xs hs
        split at e
        · rename_i hb
          cases e
          rcases m.obj i _ hs with z | ⟨b, eb, ro⟩
          · cases z
          · rw [ea] at eb
            cases eb
            obtain ⟨bs, vs, h1, kk, h3, h2⟩ := ro
            simp only [RelD]
            exact ⟨a, bs, vs, rfl, ⟨h1, nl⟩, Paired.mapP kk fun _ _ z => z.imp id Fix.cut, h3, h2.cut _ _ hb⟩
        · cases e
      · rename_i C fs xs hs
        split at e
        · rename_i hb
          cases e
          rcases m.obj i _ hs with z | ⟨b, eb, ro⟩
          · cases z
          · rw [ea] at eb
            cases eb
            obtain ⟨dx, vs, h1, h3, h2⟩ := ro
            simp only [RelD]
            exact ⟨a, dx, vs, rfl, h1, nl, h3, h2.cut _ _ hb⟩
        · cases e
      · cases e
  · split at e
    · rename_i hb
      cases e
      exact r.cut _ _ hb
    · cases e
theorem finsS_ok {K : PySem.W.Frag} {mu : Mu} {s : S} {H : Hp} {n : Nat} (m : Sim K mu s H) : ∀ {ds ds' : List D} {vs : List V}, RelDs K mu H ds vs → finsS n s ds = some ds' → RelDs K (mu.take n) H ds' vs
  | [], ds', vs, r, e => by
    cases e
    simp only [RelDs] at r
    subst r
    exact .nil
  | d :: ds, ds', vs, r, e => by
    simp only [RelDs] at r
    obtain ⟨v, vr, rfl, r1, r2⟩ := r
    simp only [finsS] at e
    cases e1 : finS n s d with
    | none =>
      rw [e1] at e
      cases e
    | some y =>
      cases e2 : finsS n s ds with
      | none =>
        rw [e1, e2] at e
        cases e
      | some ys =>
        rw [e1, e2] at e
        cases e
        exact .cons (finS_ok m r1 e1) (finsS_ok m r2 e2)
theorem fin2_ok {K : PySem.W.Frag} {mu : Mu} {s : S} {H : Hp} {n : Nat} {d d' : D} {v : V} (m : Sim K mu s H) (r : RelD K mu H d v) (e : fin2 n s d = some d') : RelD K (mu.take n) H d' v := by
  unfold fin2 at e
  split at e
  · rename_i xs
    cases e1 : finsS n s xs with
    | none =>
      rw [e1] at e
      cases e
    | some ys =>
      rw [e1] at e
      cases e
      simp only [RelD] at r ⊢
      obtain ⟨a, vs, h1, h2, h3⟩ := r
      exact ⟨a, vs, h1, h2.imp id Fix.cut, finsS_ok m h3 e1⟩
  · rename_i i
    split at e
    · rename_i hi
      cases e
      exact r.cut _ _ (by simp only [D.bel, decide_eq_true_eq]; exact hi)
    · rename_i hi
      split at e
      · rename_i xs hs
        cases e1 : finsS n s xs with
        | none =>
          rw [e1] at e
          cases e
        | some ys =>
          rw [e1] at e
          cases e
          obtain ⟨a, vs, ev, ea, eh, rs⟩ := sq_ref m r hs
          simp only [RelD]
          exact ⟨a, vs, ev, ⟨eh, not_live_cut m ea hi⟩, finsS_ok m rs e1⟩
      · exact finS_ok m r e
  · exact finS_ok m r e
/-- the store behind the def is the one ahead of it -/
def pureF (G : List D → S → R D) : List D → S → R D := fun ds s => match G ds s with
  | .ok d s' => if s'.take s.length = s then (match fin2 s.length s' d with
    | some d' => .ok d' s
    | none => .bad) else .bad
  | .ex C fs vs s' => if s'.take s.length = s ∧ D.bels s.length vs = true then .ex C fs vs s else .bad
  | .bad => .bad
/-- .. or has changed, but for the def's own objects -/
def cutF (G : List D → S → R D) : List D → S → R D := fun ds s => match G ds s with
  | .ok d s' => if (s'.take s.length).all (O.bel s.length) = true then (match fin2 s.length s' d with
    | some d' => .ok d' (s'.take s.length)
    | none => .bad) else .bad
  | .ex C fs vs s' => if (s'.take s.length).all (O.bel s.length) = true ∧ D.bels s.length vs = true then .ex C fs vs (s'.take s.length) else .bad
  | .bad => .bad
theorem xr_cut {K : PySem.W.Frag} {mu : Mu} {H : Hp} {n : Nat} {fs : List Str} {vs : List D} {od : Option Addr} (x : XR K mu H fs vs od) (hb : D.bels n vs = true) : XR K (mu.take n) H fs vs od := by
  rcases x with x | ⟨d2, vs2, e2, h2, n2, l2, rr2⟩
  · exact .inl x
  · exact .inr ⟨d2, vs2, e2, h2, not_live_take n2, l2, rr2.cut _ _ hb⟩
theorem spI_pure {K : PySem.W.Frag} {n : Nat} {G : List D → S → R D} (vs : List V) (H : Hp) (Q : VK) (E : XK) (h : spI K n (pureF G) vs H Q E) : spI K n G vs H Q E := by
  obtain ⟨mu, s, ds, m, r, hn, p⟩ := h
  refine ⟨mu, s, ds, m, r, hn, ?_⟩
  unfold pureF at p
  have back : ∀ {mu2 : Mu} {s2 : S} {H2 : Hp}, Ge mu H mu2 H2 → Sim K mu2 s2 H2 → s2.take s.length = s → Ge mu H (mu2.take s.length) H2 ∧ Sim K (mu2.take s.length) s H2 := fun {mu2 s2 H2} g2 m2 e => by
    refine ⟨?_, ?_⟩
    · have z := g2.back
      rw [m.len] at z
      exact z
    · have z := m2.back (n := s.length) (by rw [e]; exact fun o ho => m.below ho)
      rw [e] at z
      exact z
  cases eg : G ds s with
  | bad =>
    rw [eg] at p
    exact p.elim
  | ex C fs vs s' =>
    rw [eg] at p
    dsimp only at p
    split at p
    · rename_i hc
      intro mu2 H2 od g2 m2 x2
      obtain ⟨g3, m3⟩ := back g2 m2 hc.1
      exact p _ H2 od g3 m3 (xr_cut x2 hc.2)
    · exact p.elim
  | ok d s' =>
    rw [eg] at p
    dsimp only at p
    split at p
    · rename_i hc
      cases ef : fin2 s.length s' d with
      | none =>
        rw [ef] at p
        exact p.elim
      | some d' =>
        rw [ef] at p
        intro mu2 H2 v g2 m2 r2
        obtain ⟨g3, m3⟩ := back g2 m2 hc
        exact p _ H2 v g3 m3 (fin2_ok m2 r2 ef)
    · exact p.elim
end
end SI

namespace SI
open PySem PySem.Spec PyProof.Rows L2
/-! ### own exception classes over Exception -/
abbrev exTail : List Value := [.type "Exception", .type "BaseException", .type "object"]
structure ExE (K : PySem.W.Frag) (C : Addr) : Prop where
  ini : PySem.W.excInitIn K C exTail "Exception.__new__" = true
  ovr : PySem.W.excOver K C exTail = true
  hd : PySem.W.hasDictIn K C = true
  sa : PySem.W.findIn K (.ref C) "__setattr__" = some (some (.builtin "object.__setattr__"))
  sub : PySem.W.subIn K (.ref C) (.type "BaseException") = some true
  ty : PySem.W.typeIn K (.ref C) = some (.type "type")
  keep : PySem.W.keepIn K (.ref C) = true
section
variable {X : Cx} {pins : List (Addr × Obj)} {σ : L2.St} {H : Hp} {s : Shared} {a C dx : Addr} {f : Str} {y : V} {u : Value} {fs : List (Str × V)} {Q : Unit → Shared → Prop} {E : Value → Shared → Prop} {A : Around}
end
/-! ### raise -/
section
variable {X : Cx} {W : WX} {o e : Expr} {es : List Expr} {to te : TE} {ta : TA} {f : Str} {p p' pos : Pos}
end
section
variable {X : Cx} {W : WX} {e : Expr} {es : List Expr} {fa : F (List D)} {p pos pos' : Pos}
def sRaise1 (C : Addr) (f : Str) (fa : F (List D)) : FS := fun L s => (fa L s).bindS L fun ds s1 => match ds with
  | [d] => .ex C [f] [d] L s1
  | _ => .bad
def sRaise2 (C : Addr) (f g : Str) (fa : F (List D)) : FS := fun L s => (fa L s).bindS L fun ds s1 => match ds with
  | [d, d'] => .ex C [g, f] [d', d] L s1
  | _ => .bad
/-! ### try -/
def RS.drop (i : Nat) : RS → RS
  | .nx L s => .nx (L.set i none) s
  | .rt d s => .rt d s
  | .bk L s => .bk (L.set i none) s
  | .ct L s => .ct (L.set i none) s
  | .ex _ _ _ _ _ => .bad
  | .bad => .bad
open Classical in
/-- the common result, if there is one -/
noncomputable def hAll (g : Addr → Option Addr → RS) : RS := if h : ∃ r, ∀ a od, g a od = r then h.choose else .bad
def selOf : List (Addr × Bool) → Addr → Option Bool
  | [], _ => none
  | (c, b) :: r, C => if C = c then some b else selOf r C
noncomputable def sTryAs (i : Nat) (sel : List (Addr × Bool)) (b : FS) (h : Addr → Addr → Option Addr → FS) : FS := fun L s => match b L s with
  | .ex C fs vs L1 s1 => match selOf sel C with
    | some true => hAll fun a od => (h a C od (L1.set i (some (.exc a C od fs vs))) s1).drop i
    | some false => .ex C fs vs L1 s1
    | none => .bad
  | r => r
theorem PostS.drop {K : PySem.W.Frag} {W0 : WX} {D : Ends} {mu : Mu} {H : Hp} {i : Nat} {r : RS} (h : PostS K W0 D mu H (r.drop i)) :
    PostS K (fun _ _ _ _ => False) { nx := fun σ' H' => D.nx (σ'.set i none) H', rt := D.rt, bk := fun σ' H' => D.bk (σ'.set i none) H', ct := fun σ' H' => D.ct (σ'.set i none) H' } mu H r := by
  cases r with
  | nx L s => exact fun mu' σ' H' g m l => h mu' _ H' g m (l.del i)
  | rt d s => exact h
  | bk L s => exact fun mu' σ' H' g m l => h mu' _ H' g m (l.del i)
  | ct L s => exact fun mu' σ' H' g m l => h mu' _ H' g m (l.del i)
  | ex C fs vs L s => exact h.elim
  | bad => exact h
/-- e.f in the suite -/
def fXf (a0 C0 : Addr) (d0 : Option Addr) (cs : List Addr) (n : Str) (f : F D) : F D := fun L s => (f L s).bind fun d s1 => match d with
  | .exc a C od fs vs => if a = a0 ∧ C = C0 ∧ od = d0 ∧ C ∈ cs then (match (fs.zip vs).lookup n with
    | some r => .ok r s1
    | none => .bad) else .bad
  | _ => .bad
end
end SI

namespace PySem.W
open PySem PySem.Calls PyProof.Rows
section
variable {prog : Program} {w : World} {A : Around} {E : Value → Shared → Prop} {s : Shared} {K : Frag} {x C f : Addr} {ox : Obj} {od : Option Obj} {T : String}
end
end PySem.W
namespace SI
open PySem PySem.Spec PyProof.Rows L2
section
variable {X : Cx} {W : WX} {a b : Expr} {f g : F D} {pos : Pos}
/-! ### any, all of a list of bools -/
def blsOf : List D → Option (List Bool)
  | [] => some []
  | .bl b :: r => (blsOf r).map (b :: ·)
  | _ => none
def bAll (s : S) : List D → Option D
  | [d] => ((lstOf s d).bind blsOf).map fun bs => .bl (bs.all id)
  | _ => none
/-! ### calls without arguments -/
/-- an own exception class without own __init__ -/
structure Ex0 (K : PySem.W.Frag) (C : Addr) : Prop where
  ini : PySem.W.excIn K C exTail "Exception.__new__" = true
  sub : PySem.W.subIn K (.ref C) (.type "BaseException") = some true
  ty : PySem.W.typeIn K (.ref C) = some (.type "type")
  keep : PySem.W.keepIn K (.ref C) = true
def sRaise0 (C : Addr) : FS := fun L s => .ex C [] [] L s
theorem pS_raise0 {x : Str} {C : Addr} {p p' : Pos} (hc : X.calm = true) (tk : Takes X W) (T : Ex0 X.K C) (hm : X.mg x = some (.ref C)) (hg : Gl X x := by rfl) (hdb : (x == ("__debug__" : Str)) = false := by decide) :
    PS X (.Raise (some (.Call (.Name x p) [] [] pos)) none p') (tS X.K W (sRaise0 C)) := by
  have mk : PMk X (.Call (.Name x p) [] [] pos) (fun _ H Q => Q (.ref C) none H) := by
    intro pins s σ H Q I h
    refine wpAny_Call_Name_kw (ld_glob I hg hm ?_ hdb)
    refine PySem.W.callWith_K0 I.kIn T.keep ?_
    show wpAny _ _ (call (.ref C) []) _ _ _
    obtain ⟨bm, N, nm, qn, bs, hdct, sn, sub, ab, col, dd, k0, k1, k2, k3, k5, mN, hC, hN, hni, tl⟩ := exc_obj I.kIn T.ini
    exact wpAny_call_exc_subT PySem.F.excBase_Exception tl hC hN hni (fun h' e hx => mk_of (I.tok _) hx (raises_own T.sub T.ty) h (I.hok.gone hx.new)) (Nat.zero_le _)
  exact PS.weak (ps_raise hc tk mk) fun D σ H ⟨mu, s, L, m, l, q⟩ => q mu σ H none (Ge.refl _ _) m l (.inl ⟨rfl, rfl, rfl⟩)
def RS.calm : RS → RS
  | .ex _ _ _ _ _ => .bad
  | r => r
/-- try .. except C: -/
def sTry (sel : List (Addr × Bool)) (b h : FS) : FS := fun L s => match b L s with
  | .ex C fs vs L1 s1 => match selOf sel C with
    | some true => (h L1 s1).calm
    | some false => .ex C fs vs L1 s1
    | none => .bad
  | r => r
theorem PostS.calm {K : PySem.W.Frag} {W0 : WX} {D : Ends} {mu : Mu} {H : Hp} {r : RS} (h : PostS K W0 D mu H r.calm) : PostS K (fun _ _ _ _ => False) D mu H r := by
  cases r with
  | ex C fs vs L s => exact h.elim
  | nx L s => exact h
  | rt d s => exact h
  | bk L s => exact h
  | ct L s => exact h
  | bad => exact h
end
end SI

namespace PySem
open Sem (wp)
open AutoSeq1 (wpAny_loadPart')
section
variable {prog : Program} {w : World} {A : Around} {E : Value → Shared → Prop} {s : Shared}
end
end PySem
namespace L2
open PySem PySem.Spec PyProof.Rows
end L2
namespace SI
open PySem PySem.Spec PyProof.Rows L2
section
variable {X : Cx} {W : WX} {e : Expr} {fa : F (List D)} {pos : Pos}
def enumI : Nat → List D → List D
  | _, [] => []
  | i, x :: r => .tup [.int (i : Nat), x] :: enumI (i + 1) r
theorem enum_get : ∀ (xs : List D) (k i : Nat), (enumI k xs)[i]? = (xs[i]?).map fun x => D.tup [.int ((k + i : Nat) : Int), x]
  | [], k, i => by simp [enumI]
  | x :: r, k, 0 => by simp [enumI]
  | x :: r, k, i + 1 => by
    have := enum_get r (k + 1) i
    simp only [enumI, List.getElem?_cons_succ, this]
    rw [show k + 1 + i = k + (i + 1) by omega]
def iEnu (s : S) : D → Option Src
  | .lst xs => some ⟨enumI 0 xs, none⟩
  | .rdl xs => some ⟨enumI 0 xs, none⟩
  | .tup xs => some ⟨enumI 0 xs, none⟩
  | .ref n => match s[n]? with
    | some (.lst xs) => some ⟨enumI 0 xs, some (n, xs)⟩
    | _ => none
  | _ => none
def fEnu (fa : F (List D)) : F Src := fun L s => (fa L s).bind fun ds s1 => match ds with
  | [d] => match iEnu s1 d with
    | some r => .ok r s1
    | none => .bad
  | _ => .bad
end
end SI

namespace SI
open PySem PySem.Spec PyProof.Rows L2
section
variable {X : Cx} {W : WX} {o e : Expr} {es : List Expr} {fo : F D} {fa : F (List D)} {pos : Pos}
/-! ### append -/
def fApp (fo : F D) (fa : F (List D)) : F D := fun L s => (fo L s).bind fun d s1 => match d with
  | .ref n => match s1[n]? with
    | some (.lst _) => (fa L s1).bind fun ds s2 => match ds with
      | [y] => match s2[n]? with
        | some (.lst xs) => if xs.length < big then .ok .non (s2.set n (.lst (xs ++ [y]))) else .bad
        | _ => .bad
      | _ => .bad
    | _ => .bad
  | _ => .bad
theorem pE_append {apos : Pos} (ho : PE X o (tE X.K W fo)) (ha : PA X [e] (tA X.K W fa)) (hbase : attributeBase o "append" X.env (eval o X.env) = eval o X.env := by rfl)
    (hfew : ((backTo pos (starEach [e] X.env)).all (fun x => !x.1) && (backToKw pos (keywordEach [] X.env)).all (fun x => x.1.isSome)
      && decide ([e].length + ([] : List Keyword).length + (if ([] : List Keyword).isEmpty then 0 else 1) < 30)) = true := by rfl)
    (hline : (apos.endLine == pos.line) = true := by rfl) (hs : starEach [e] X.env = (false, eval e X.env) :: starEach [] X.env := by rfl) :
    PE X (.Call (.Attribute o "append" apos) [e] [] pos) (tE X.K W (fApp fo fa)) := by
  refine PE.weak (pe_bm PySem.F.plainAttrs_list PySem.F.slot_list_append PySem.F.type_list_append mt_append ho ha hbase hfew hline hs rfl) fun σ H Q ⟨mu, s, L, m, l, q⟩ => ?_
  refine ⟨mu, s, L, m, l, Post.step q fun d s1 mu1 H1 v1 g1 m1 r1 p1 => ?_⟩
  cases d <;> try exact p1.elim
  rename_i n
  dsimp only at p1
  cases en : s1[n]? with
  | none =>
    rw [en] at p1
    exact p1.elim
  | some ob =>
    rw [en] at p1
    cases ob <;> try exact p1.elim
    obtain ⟨a, vs, rfl, ea, eh, rs⟩ := sq_ref m1 r1 en
    refine ⟨.inl ⟨rfl, _, SqL.of eh⟩, mu1, s1, L, m1, l.mono g1, Post.step p1 fun ds s2 mu2 H2 ws g2 m2 r2 p2 => ?_⟩
    rcases ds with _ | ⟨y, _ | ⟨y2, ds⟩⟩
    · exact p2.elim
    · obtain ⟨w, rfl, rw⟩ := rel1 r2
      dsimp only at p2
      cases en2 : s2[n]? with
      | none =>
        rw [en2] at p2
        exact p2.elim
      | some ob =>
        rw [en2] at p2
        cases ob <;> try exact p2.elim
        rename_i xs
        dsimp only at p2
        split at p2
        · rename_i hlt
          have ea2 := g2.rf n a ea
          obtain ⟨b, us, eb, ec, ed, rs2⟩ := sq_ref (v := .ref a) m2 (by simp only [RelD]; exact ⟨a, ea2, rfl⟩) en2
          cases eb
          refine ⟨a, us, w, rfl, rfl, ed, ?_, ?_⟩
          · rw [← rs2.length]
            exact Nat.lt_of_lt_of_le hlt (big_le (Nat.le_refl _))
          · refine p2 mu2 _ _ (Ge.put ea2) (m2.put ea2 ?_) (rel_non.mpr rfl)
            exact ⟨us ++ [w], upd_same, (rs2.mono (Ge.put ea2)).append (.cons (rw.mono (Ge.put ea2)) .nil)⟩
        · exact p2.elim
    · exact p2.elim
/-! ### sum -/
def intsOf : List D → Option (List Int)
  | [] => some []
  | .int i :: r => (intsOf r).map (i :: ·)
  | _ => none
/-! ### calls with keywords -/
theorem PK.weak {X : Cx} {kws : List Keyword} {t t' : TA} (h : PK X kws t) (w : ∀ σ H Q, t' σ H Q → t σ H Q) : PK X kws t' := ⟨fun pos pins s σ H Q I q => h.run pos pins s σ H Q I (w _ _ _ q)⟩
/-- where a parameter's value comes from -/
inductive Pk where
  | p (i : Nat) | k (j : Nat) | d (j : Nat)
def arr {α : Type} (pk : List Pk) (xs zs ds : List α) : List α := pk.filterMap fun
  | .p i => xs[i]?
  | .k j => zs[j]?
  | .d j => ds[j]?
def fCallK (n m : Nat) (pk : List Pk) (dds : List D) (G : List D → S → R D) (fa fk : F (List D)) : F D := fun L s => (fa L s).bind fun ds s1 => (fk L s1).bind fun zs s2 => if ds.length = n ∧ zs.length = m then G (arr pk ds zs dds) s2 else .bad
end
end SI

namespace SI
open PySem L2
/-! ### evaluation, step by step -/
@[simp] theorem R_bind_ok {α β : Type} (a : α) (s : S) (k : α → S → R β) : (R.ok a s).bind k = k a s := rfl
@[simp] theorem R_bind_ex {α β : Type} (C : Addr) (fs : List Str) (vs : List D) (s : S) (k : α → S → R β) : (R.ex C fs vs s).bind k = .ex C fs vs s := rfl
@[simp] theorem R_bindS_ok {α : Type} (L : Lc) (a : α) (s : S) (k : α → S → RS) : (R.ok a s).bindS L k = k a s := rfl
@[simp] theorem R_bindS_ex {α : Type} (L : Lc) (C : Addr) (fs : List Str) (vs : List D) (s : S) (k : α → S → RS) : (R.ex (α := α) C fs vs s).bindS L k = .ex C fs vs L s := rfl
@[simp] theorem RS_bind_nx (L : Lc) (s : S) (k : Lc → S → RS) : (RS.nx L s).bind k = k L s := rfl
@[simp] theorem RS_bind_rt (d : D) (s : S) (k : Lc → S → RS) : (RS.rt d s).bind k = .rt d s := rfl
@[simp] theorem RS_bind_ex (C : Addr) (fs : List Str) (vs : List D) (L : Lc) (s : S) (k : Lc → S → RS) : (RS.ex C fs vs L s).bind k = .ex C fs vs L s := rfl
@[simp] theorem RS_bind_bk (L : Lc) (s : S) (k : Lc → S → RS) : (RS.bk L s).bind k = .bk L s := rfl
@[simp] theorem RS_bind_ct (L : Lc) (s : S) (k : Lc → S → RS) : (RS.ct L s).bind k = .ct L s := rfl
@[simp] theorem sSeq_eq (u v : FS) (L : Lc) (s : S) : sSeq u v L s = (u L s).bind v := rfl
@[simp] theorem sNext_eq (L : Lc) (s : S) : sNext L s = .nx L s := rfl
@[simp] theorem sAsg_eq (i : Nat) (f : F D) (L : Lc) (s : S) : sAsg i f L s = (f L s).bindS L fun d s1 => .nx (L.set i (some d)) s1 := rfl
@[simp] theorem sExpr_eq (f : F D) (L : Lc) (s : S) : sExpr f L s = (f L s).bindS L fun _ s1 => .nx L s1 := rfl
@[simp] theorem sRet_eq (f : F D) (L : Lc) (s : S) : sRet f L s = (f L s).bindS L fun d s1 => .rt d s1 := rfl
@[simp] theorem sRetN_eq (L : Lc) (s : S) : sRetN L s = .rt .non s := rfl
@[simp] theorem sIf_eq (t : F Bool) (u v : FS) (L : Lc) (s : S) : sIf t u v L s = (t L s).bindS L fun b s1 => if b = true then u L s1 else v L s1 := rfl
@[simp] theorem sBreak_eq (L : Lc) (s : S) : sBreak L s = .bk L s := rfl
@[simp] theorem sCont_eq (L : Lc) (s : S) : sCont L s = .ct L s := rfl
@[simp] theorem fC_eq (d : D) (L : Lc) (s : S) : fC d L s = .ok d s := rfl
@[simp] theorem fOp_eq (o : S → D → D → Option D) (f g : F D) (L : Lc) (s : S) : fOp o f g L s = (f L s).bind fun a s1 => (g L s1).bind fun b s2 => match o s2 a b with
  | some d => .ok d s2
  | none => .bad := rfl
@[simp] theorem fNotV_eq (f : F D) (L : Lc) (s : S) : fNotV f L s = (f L s).bind fun a s1 => match a with
  | .bl b => .ok (.bl (!b)) s1
  | _ => .bad := rfl
@[simp] theorem fAndV_eq (f g : F D) (L : Lc) (s : S) : fAndV f g L s = (f L s).bind fun a s1 => match a with
  | .bl true => g L s1
  | .bl false => .ok (.bl false) s1
  | _ => .bad := rfl
@[simp] theorem fOrV_eq (f g : F D) (L : Lc) (s : S) : fOrV f g L s = (f L s).bind fun a s1 => match a with
  | .bl true => .ok (.bl true) s1
  | .bl false => g L s1
  | _ => .bad := rfl
@[simp] theorem fTst_eq (f : F D) (L : Lc) (s : S) : fTst f L s = (f L s).bind fun a s1 => match a with
  | .bl b => .ok b s1
  | _ => .bad := rfl
@[simp] theorem fNot_eq (t : F Bool) (L : Lc) (s : S) : fNot t L s = (t L s).bind fun b s1 => .ok (!b) s1 := rfl
@[simp] theorem fAnd_eq (t u : F Bool) (L : Lc) (s : S) : fAnd t u L s = (t L s).bind fun b s1 => if b = true then u L s1 else .ok false s1 := rfl
@[simp] theorem fOr_eq (t u : F Bool) (L : Lc) (s : S) : fOr t u L s = (t L s).bind fun b s1 => if b = true then .ok true s1 else u L s1 := rfl
@[simp] theorem fIf_eq (t : F Bool) (f g : F D) (L : Lc) (s : S) : fIf t f g L s = (t L s).bind fun b s1 => if b = true then f L s1 else g L s1 := rfl
@[simp] theorem fNil_eq (L : Lc) (s : S) : fNil L s = .ok [] s := rfl
@[simp] theorem fCons_eq (f : F D) (r : F (List D)) (L : Lc) (s : S) : fCons f r L s = (f L s).bind fun a s1 => (r L s1).bind fun as s2 => .ok (a :: as) s2 := rfl
@[simp] theorem fTup_eq (fa : F (List D)) (L : Lc) (s : S) : fTup fa L s = (fa L s).bind fun ds s1 => if ds.length ≤ big then .ok (.tup ds) s1 else .bad := rfl
@[simp] theorem fLst_eq (fa : F (List D)) (L : Lc) (s : S) : fLst fa L s = (fa L s).bind fun ds s1 => if ds.length ≤ big then .ok (.lst ds) s1 else .bad := rfl
@[simp] theorem fLstT_eq (fa : F (List D)) (L : Lc) (s : S) : fLstT fa L s = (fa L s).bind fun ds s1 => if ds.length ≤ big then .ok (.ref s1.length) (s1 ++ [.lst ds]) else .bad := rfl
@[simp] theorem fCB_eq (o : S → List D → Option D) (fa : F (List D)) (L : Lc) (s : S) : fCB o fa L s = (fa L s).bind fun ds s1 => match o s1 ds with
  | some d => .ok d s1
  | none => .bad := rfl
@[simp] theorem fCall_eq (n : Nat) (G : List D → S → R D) (fa : F (List D)) (L : Lc) (s : S) : fCall n G fa L s = (fa L s).bind fun ds s1 => if ds.length = n then G ds s1 else .bad := rfl
@[simp] theorem fNeg_eq (f : F D) (L : Lc) (s : S) : fNeg f L s = (f L s).bind fun d s1 => match d with
  | .int i => .ok (.int (-i)) s1
  | _ => .bad := rfl
@[simp] theorem sPut_eq (o : S → D → D → D → Option S) (fe fo fi : F D) (L : Lc) (s : S) : sPut o fe fo fi L s = (fe L s).bindS L fun d s1 => (fo L s1).bindS L fun a s2 => (fi L s2).bindS L fun b s3 => match o s3 a b d with
  | some s' => .nx L s'
  | none => .bad := rfl
@[simp] theorem sAugS_eq (get op : S → D → D → Option D) (put : S → D → D → D → Option S) (fo fi fe : F D) (L : Lc) (s : S) : sAugS get op put fo fi fe L s = (fo L s).bindS L fun a s1 => (fi L s1).bindS L fun b s2 => match get s2 a b with
  | some d0 => (fe L s2).bindS L fun d1 s3 => match op s3 d0 d1 with
    | some d => match put s3 a b d with
      | some s' => .nx L s'
      | none => .bad
    | none => .bad
  | none => .bad := rfl
@[simp] theorem sAsgG_eq (q : Tg) (f : F D) (L : Lc) (s : S) : sAsgG q f L s = (f L s).bindS L fun d s1 => match q d L with
  | some L' => .nx L' s1
  | none => .bad := rfl
@[simp] theorem sFor_eq (f : F Src) (q : Tg) (body : FS) (L : Lc) (s : S) : sFor f q body L s = (f L s).bindS L fun r s1 => forL q body r r.items L s1 := rfl
@[simp] theorem fSrc_eq (f : F D) (L : Lc) (s : S) : fSrc f L s = (f L s).bind fun d s1 => match iSeq s1 d with
  | some r => .ok r s1
  | none => .bad := rfl
@[simp] theorem fRng_eq (o : List D → Option Src) (fa : F (List D)) (L : Lc) (s : S) : fRng o fa L s = (fa L s).bind fun ds s1 => match o ds with
  | some r => .ok r s1
  | none => .bad := rfl
theorem fin_rt {r : RS} {d : D} {s : S} (h : r = .rt d s) : r.fin = .ok d s := by
  rw [h]
  rfl
@[simp] theorem fin_rt' (d : D) (s : S) : (RS.rt d s).fin = .ok d s := rfl
@[simp] theorem fin_nx' (L : Lc) (s : S) : (RS.nx L s).fin = .ok .non s := rfl
@[simp] theorem fin_ex' (C : Addr) (fs : List Str) (vs : List D) (L : Lc) (s : S) : (RS.ex C fs vs L s).fin = .ex C fs vs s := rfl
/-! values -/
@[simp] theorem dI2_int (C : Int → Int → Bool) (g : Int → Int → D) (s : S) (i j : Int) : dI2 C g s (.int i) (.int j) = if C i j = true then some (g i j) else none := rfl
@[simp] theorem yes2_eq (i j : Int) : yes2 i j = true := rfl
@[simp] theorem dSub_int (s : S) (i j : Int) : dSub s (.int i) (.int j) = some (.int (i - j)) := rfl
@[simp] theorem dAddI_int (s : S) (i j : Int) : dAddI s (.int i) (.int j) = some (.int (i + j)) := rfl
@[simp] theorem dAdd_int (s : S) (i j : Int) : dAdd s (.int i) (.int j) = some (.int (i + j)) := rfl
@[simp] theorem dMul_int (s : S) (i j : Int) : dMul s (.int i) (.int j) = if mulOk i j = true then some (.int (i * j)) else none := rfl
@[simp] theorem dLt_int (s : S) (i j : Int) : dLt s (.int i) (.int j) = some (.bl (decide (i < j))) := rfl
@[simp] theorem dLe_int (s : S) (i j : Int) : dLe s (.int i) (.int j) = some (.bl (decide (i ≤ j))) := rfl
@[simp] theorem dGt_int (s : S) (i j : Int) : dGt s (.int i) (.int j) = some (.bl (decide (j < i))) := rfl
@[simp] theorem dGe_int (s : S) (i j : Int) : dGe s (.int i) (.int j) = some (.bl (decide (j ≤ i))) := rfl
theorem log2_small {i : Int} {k : Nat} (h0 : 0 < k) (h : i.natAbs < 2 ^ k) : i.natAbs.log2 < k := PySem.Flt.log2_lt_of h0 h
theorem divOk_of {i j : Int} (h0 : 0 < j) (h : j < 2 ^ 200) : divOk i j = true := by
  unfold divOk
  rw [decide_eq_true_eq]
  refine ⟨h0, Nat.lt_of_lt_of_le (log2_small (k := 200) (by decide) ?_) (by decide)⟩
  have : (j.natAbs : Int) < 2 ^ 200 := by
    rw [Int.natAbs_of_nonneg (Int.le_of_lt h0)]
    exact h
  exact_mod_cast this
theorem dDiv_int {s : S} {i j : Int} (h0 : 0 < j) (h : j < 2 ^ 200) : dDiv s (.int i) (.int j) = some (.int (i / j)) := by
  unfold dDiv
  rw [dI2_int, if_pos (divOk_of h0 h)]
theorem dMod_int {s : S} {i j : Int} (h0 : 0 < j) : dMod s (.int i) (.int j) = some (.int (i % j)) := by
  unfold dMod
  rw [dI2_int, if_pos (by unfold modOk; exact decide_eq_true h0)]
theorem eqv_int (i j : Int) : PyData.eqv (.int i) (.int j) = decide (i = j) := by
  rw [PyData.eqv]
  by_cases h : i = j
  · simp [h]
  · simp [h]
@[simp] theorem dEqD_int (neg : Bool) (s : S) (i j : Int) : dEqD neg s (.int i) (.int j) = some (.bl (if neg = true then !decide (i = j) else decide (i = j))) := by
  unfold dEqD
  simp only [toPyT, toPy, eqv_int]
  rw [if_pos]
  simp [SeqAt.shaped, PyData.canLay0, PyData.depth]
@[simp] theorem bInt_int (s : S) (i : Int) : bInt s [.int i] = some (.int i) := rfl
@[simp] theorem big_eq : big = 1000000 := rfl
/-! ### the source of the draws -/
structure SrcV where
  cs : List Int
  i : Int
  a : Int
  b : Int
  d : Int
def SrcV.o (v : SrcV) : O := .lst [.lst (v.cs.map D.int), .int v.i, .int v.a, .int v.b, .int v.d]
structure SrcV.Ok (v : SrcV) (n : Nat) : Prop where
  i0 : 0 ≤ v.i
  a0 : 0 ≤ v.a
  b0 : 0 ≤ v.b
  bn : v.b ≤ n
  d0 : 0 ≤ v.d
  dn : v.d < 2147483629
  cs : ∀ z ∈ v.cs, Builtin.Int.intBits z ≤ 1048576
theorem get_set {s : S} {k : Nat} {o o' : O} (h : s[k]? = some o) : (s.set k o')[k]? = some o' := by
  have := (List.getElem?_eq_some_iff.mp h).1
  rw [List.getElem?_set_self this]
theorem srcIx {s : S} {k : Nat} {v : SrcV} (h : s[k]? = some v.o) : dIx s (.ref k) (.int 0) = some (.lst (v.cs.map D.int)) ∧ dIx s (.ref k) (.int 1) = some (.int v.i) ∧ dIx s (.ref k) (.int 2) = some (.int v.a) ∧ dIx s (.ref k) (.int 3) = some (.int v.b) ∧ dIx s (.ref k) (.int 4) = some (.int v.d) ∧ dIxL s (.ref k) (.int 1) = some (.int v.i) ∧ dIxL s (.ref k) (.int 3) = some (.int v.b) := by
  unfold SrcV.o at h
  refine ⟨?_, ?_, ?_, ?_, ?_, ?_, ?_⟩ <;> simp only [dIx, dIxL, seqOf, lstOf, h] <;> rfl
theorem srcPut {s : S} {k : Nat} {v : SrcV} (h : s[k]? = some v.o) (x : Int) : dPut s (.ref k) (.int 1) (.int x) = some (s.set k ({ v with i := x } : SrcV).o) ∧ dPut s (.ref k) (.int 2) (.int x) = some (s.set k ({ v with a := x } : SrcV).o) ∧ dPut s (.ref k) (.int 3) (.int x) = some (s.set k ({ v with b := x } : SrcV).o) ∧ dPut s (.ref k) (.int 4) (.int x) = some (s.set k ({ v with d := x } : SrcV).o) := by
  unfold SrcV.o at h
  refine ⟨?_, ?_, ?_, ?_⟩ <;> simp only [dPut, h] <;> rfl
@[simp] theorem bLen_lst (s : S) (xs : List D) : bLen s [.lst xs] = some (.int xs.length) := rfl
@[simp] theorem bLen_tup (s : S) (xs : List D) : bLen s [.tup xs] = some (.int xs.length) := rfl
theorem dIx_lst (s : S) (xs : List D) (i : Int) : dIx s (.lst xs) (.int i) = L2.atI xs i := rfl
theorem dIx_tup (s : S) (xs : List D) (i : Int) : dIx s (.tup xs) (.int i) = L2.atI xs i := rfl
theorem atI_in {α : Type} {xs : List α} {i : Int} (h0 : 0 ≤ i) (h : i < xs.length) : L2.atI xs i = xs[i.toNat]? := by
  unfold L2.atI ixN
  rw [if_pos h0, if_pos h]
  rfl
@[simp] theorem dPow_lit (s : S) (i j : Int) : dPow s (.int i) (.int j) = if powOk i j = true then some (.int (i ^ j.toNat)) else none := rfl
theorem natAbs_lt {i : Int} {k : Nat} (h0 : 0 ≤ i) (h : i < 2 ^ k) : i.natAbs < 2 ^ k := by
  have e : (i.natAbs : Int) < 2 ^ k := by
    rw [Int.natAbs_of_nonneg h0]
    exact h
  exact_mod_cast e
theorem log_bits {z : Int} {n : Nat} (h : Builtin.Int.intBits z ≤ n) : z.natAbs.log2 ≤ n := by
  unfold Builtin.Int.intBits at h
  split at h
  · rename_i hz
    have e : z = 0 := by simpa using hz
    subst e
    exact Nat.zero_le _
  · omega
theorem mulOk_log {i j : Int} {a b : Nat} (ha : i.natAbs.log2 ≤ a) (hb : j.natAbs.log2 ≤ b) (h : a + b < 100000000) : mulOk i j = true := by
  unfold mulOk
  rw [decide_eq_true_eq]
  omega
theorem log_of {i : Int} {k : Nat} (h0 : 0 ≤ i) (h : i < 2 ^ k) (hk : 0 < k) : i.natAbs.log2 ≤ k := Nat.le_of_lt (log2_small hk (natAbs_lt h0 h))
end SI

namespace SI
open PySem L2
@[simp] theorem dRng1_int {j : Int} : dRng1 [.int j] = if rgOk j = true then some ⟨rgItems 0 j.toNat, none⟩ else none := rfl
@[simp] theorem dRng2_int {i j : Int} : dRng2 [.int i, .int j] = if rgOk i = true ∧ rgOk j = true then some ⟨rgItems i (j - i).toNat, none⟩ else none := rfl
@[simp] theorem chk_none (ds : List D) (s : S) : chk ⟨ds, none⟩ s = true := rfl
@[simp] theorem gN_eq (i : Nat) (d : D) (L : Lc) : gN i d L = some (L.set i (some d)) := rfl
end SI

namespace SI
open PySem L2
theorem lc_intsC (xs : List D) (L0 : Lc) (h : 1 < L0.length) : ∀ (ds : List Int) (acc : List D), acc.length + ds.length ≤ 1000000 → lcL (gN 1) fYes (fCB bInt (fCons (fVar 1) fNil)) ⟨xs, none⟩ L0 0 (ds.map D.int) [.lst acc] = .ok () [.lst (acc ++ ds.map D.int)]
  | [], acc, _ => by
    simp [lcL]
  | d :: ds, acc, hl => by
    have ih := lc_intsC xs L0 h ds (acc ++ [.int d]) (by simp at hl ⊢; omega)
    have hlt : acc.length < 1000000 := by simp at hl; omega
    have hv : ∀ s, fVar 1 (L0.set 1 (some (.int d))) s = .ok (.int d) s := by
      intro s
      unfold fVar
      rw [List.getElem?_set_self h]
    simp [lcL, fYes, hv, hlt, ih]
theorem bels_intsC (n : Nat) : ∀ (ds : List Int), D.bels n (ds.map D.int) = true
  | [] => rfl
  | d :: ds => by simp [D.bels, D.bel, bels_intsC n ds]
def srcG : List D → S → R D := runF 2
  ((sRet (fLstT (fCons (fLc (fSrc (fSl (fVar 0) fNo (fPt (fC (.int 63))))) (gN 1) fYes (fCB bInt (fCons (fVar 1) fNil)) [1]) (fCons (fC (.int 0)) (fCons (fC (.int 0)) (fCons (fC (.int 0)) (fCons (fC (.int 7)) fNil))))))))
theorem src_ok (ns : List Int) (hl : ns.length ≤ 63) : srcG [.rdl (ns.map D.int)] [] = .ok (.ref 0) [SrcV.o ⟨ns, 0, 0, 0, 7⟩] := by
  have hc : cutD (ns.map D.int) none (some 63) = ns.map D.int := by
    unfold cutD
    rw [HT.sIx_none, List.drop_zero, show (some (63 : Int)) = some ((63 : Nat) : Int) from rfl, HT.sIx_nat, List.take_of_length_le]
    rw [List.length_map]
    omega
  have e := lc_intsC (ns.map D.int) [some (.rdl (ns.map D.int)), none] (Nat.lt_succ_self 1) ns [] (by simp; omega)
  unfold srcG runF startD
  have hi : iSeq [] (.lst (ns.map D.int)) = some ⟨ns.map D.int, none⟩ := rfl
  simp [fVar, fLc, fSl, fNo, fPt, dSl, lstOf, hc, hi, wipeD, e, bels_intsC, SrcV.o]
theorem src_start {ns : List Int} (hb : ∀ z ∈ ns, Builtin.Int.intBits z ≤ 1048576) : SrcV.Ok ⟨ns, 0, 0, 0, 7⟩ 0 := ⟨Int.le_refl 0, Int.le_refl 0, Int.le_refl 0, Int.le_refl 0, show (0 : Int) ≤ 7 by decide, show (7 : Int) < 2147483629 by decide, hb⟩
theorem src_bel (w : SrcV) (n : Nat) : O.bel n w.o = true := by
  unfold SrcV.o O.bel
  simp [D.bels, D.bel, bels_intsC]
end SI

/-! weakest preconditions at the data level -/
namespace SI
open PySem L2
class Cn (α : Sort u) where
  f : α
instance {α : Sort u} {β : Sort v} : CoeFun (Cn (α → β)) (fun _ => α → β) := ⟨fun c => c.f⟩
class Bs where
  nx : Lc → S → Prop
  rt : D → S → Prop
  bk : Lc → S → Prop
  ct : Lc → S → Prop
  ex : Addr → List Str → List D → Lc → S → Prop
def WR {α : Type} (r : R α) {Q : Cn (α → S → Prop)} {E : Cn (Addr → List Str → List D → S → Prop)} : Prop := match r with
  | .ok a s => Q a s
  | .ex C fs vs s => E C fs vs s
  | .bad => False
def WS (r : RS) {B : Bs} : Prop := match r with
  | .nx L s => B.nx L s
  | .rt d s => B.rt d s
  | .bk L s => B.bk L s
  | .ct L s => B.ct L s
  | .ex C fs vs L s => B.ex C fs vs L s
  | .bad => False
def WO {α : Type} (o : Option α) {Q : Cn (α → Prop)} : Prop := match o with
  | some a => Q a
  | none => False
def WV (o : Option (Option D)) {Q : Cn (D → Prop)} : Prop := match o with
  | some (some a) => Q a
  | _ => False
def WB (b : Bool) {P Q : Cn Prop} : Prop := match b with
  | true => P.f
  | false => Q.f
def WT (d : D) {Q : Cn (Bool → Prop)} : Prop := match d with
  | .bl b => Q b
  | _ => False
/-- the names stand as a list of cells -/
def WL (L : Lc) {Q : Cn (Lc → Prop)} : Prop := Q L
def WI (d : D) {Q : Cn (Int → Prop)} : Prop := match d with
  | .int b => Q b
  | _ => False
abbrev nE : Addr → List Str → List D → S → Prop := fun _ _ _ _ => False
section
variable {α β : Type} {L : Lc} {s : S} {B : Bs} {Q : Cn (D → S → Prop)} {E : Cn (Addr → List Str → List D → S → Prop)}
theorem cn_f {α : Sort u} (x : α) : Cn.f (self := ⟨x⟩) = x := rfl
theorem w_ok (a : α) (s : S) (Q : Cn (α → S → Prop)) (E) : @WR _ (.ok a s) Q E = Q a s := rfl
theorem w_ex (C fs vs) (s : S) (Q : Cn (α → S → Prop)) (E) : @WR _ (.ex C fs vs s) Q E = E C fs vs s := rfl
theorem w_nx (L : Lc) (s : S) (B : Bs) : @WS (.nx L s) B = B.nx L s := rfl
theorem w_rt (d : D) (s : S) (B : Bs) : @WS (.rt d s) B = B.rt d s := rfl
theorem w_bk (L : Lc) (s : S) (B : Bs) : @WS (.bk L s) B = B.bk L s := rfl
theorem w_ct (L : Lc) (s : S) (B : Bs) : @WS (.ct L s) B = B.ct L s := rfl
theorem w_exS (C fs vs) (L : Lc) (s : S) (B : Bs) : @WS (.ex C fs vs L s) B = B.ex C fs vs L s := rfl
theorem w_some (a : α) (Q : Cn (α → Prop)) : @WO _ (some a) Q = Q a := rfl
theorem w_v (a : D) (Q : Cn (D → Prop)) : @WV (some (some a)) Q = Q a := rfl
theorem w_tr (P Q : Cn Prop) : @WB true P Q = P.f := rfl
theorem w_fa (P Q : Cn Prop) : @WB false P Q = Q.f := rfl
theorem w_tb (b : Bool) (Q : Cn (Bool → Prop)) : @WT (.bl b) Q = Q b := rfl
theorem w_L (a : Option D) (L : Lc) (Q : Cn (Lc → Prop)) : @WL (a :: L) Q = Q (a :: L) := rfl
theorem w_L0 (Q : Cn (Lc → Prop)) : @WL [] Q = Q [] := rfl
theorem w_ti (b : Int) (Q : Cn (Int → Prop)) : @WI (.int b) Q = Q b := rfl
theorem w_bind (r : R α) (k : α → S → R β) (Q) (E) : @WR _ (r.bind k) Q E = @WR _ r ⟨fun a s => @WR _ (k a s) Q E⟩ E := by cases r <;> rfl
theorem w_bindS (L : Lc) (r : R α) (k : α → S → RS) (B) : @WS (r.bindS L k) B = @WR _ r ⟨fun a s => @WS (k a s) B⟩ ⟨fun C fs vs s => B.ex C fs vs L s⟩ := by cases r <;> rfl
theorem w_bindT (r : RS) (k : Lc → S → RS) (B : Bs) : @WS (r.bind k) B = @WS r { B with nx := fun L s => @WS (k L s) B } := by cases r <;> rfl
/-! statements -/
theorem w_seq (u v : FS) : @WS (sSeq u v L s) B = @WS (u L s) { B with nx := fun L s => @WS (v L s) B } := w_bindT ..
theorem wq_asg (i : Nat) (f : F D) (v : FS) : @WS (sSeq (sAsg i f) v L s) B = @WS (sAsg i f L s) { B with nx := fun L s => @WS (v L s) B } := w_seq ..
theorem wq_asgG (q : Tg) (f : F D) (v : FS) : @WS (sSeq (sAsgG q f) v L s) B = @WS (sAsgG q f L s) { B with nx := fun L s => @WS (v L s) B } := w_seq ..
theorem wq_expr (f : F D) (v : FS) : @WS (sSeq (sExpr f) v L s) B = @WS (sExpr f L s) { B with nx := fun L s => @WS (v L s) B } := w_seq ..
theorem wq_put (o fe fo fi) (v : FS) : @WS (sSeq (sPut o fe fo fi) v L s) B = @WS (sPut o fe fo fi L s) { B with nx := fun L s => @WS (v L s) B } := w_seq ..
theorem wq_aug (o i f) (v : FS) : @WS (sSeq (sAug o i f) v L s) B = @WS (sAug o i f L s) { B with nx := fun L s => @WS (v L s) B } := w_seq ..
theorem wq_augS (a b d e f g) (v : FS) : @WS (sSeq (sAugS a b d e f g) v L s) B = @WS (sAugS a b d e f g L s) { B with nx := fun L s => @WS (v L s) B } := w_seq ..
theorem wq_for (a b d) (v : FS) : @WS (sSeq (sFor a b d) v L s) B = @WS (sFor a b d L s) { B with nx := fun L s => @WS (v L s) B } := w_seq ..
theorem w_next : @WS (sNext L s) B = B.nx L s := rfl
theorem w_break : @WS (sBreak L s) B = B.bk L s := rfl
theorem w_cont : @WS (sCont L s) B = B.ct L s := rfl
theorem w_retN : @WS (sRetN L s) B = B.rt .non s := rfl
theorem w_asg (i : Nat) (f : F D) : @WS (sAsg i f L s) B = @WR _ (f L s) ⟨fun d s1 => @WL (L.set i (some d)) ⟨fun L' => B.nx L' s1⟩⟩ ⟨fun C fs vs s => B.ex C fs vs L s⟩ := w_bindS ..
theorem w_expr (f : F D) : @WS (sExpr f L s) B = @WR _ (f L s) ⟨fun d s1 => B.nx L s1⟩ ⟨fun C fs vs s => B.ex C fs vs L s⟩ := w_bindS ..
theorem w_ret (f : F D) : @WS (sRet f L s) B = @WR _ (f L s) ⟨fun d s1 => B.rt d s1⟩ ⟨fun C fs vs s => B.ex C fs vs L s⟩ := w_bindS ..
theorem w_if (t : F Bool) (u v : FS) : @WS (sIf t u v L s) B = @WR _ (t L s) ⟨fun b s1 => @WB b ⟨@WS (u L s1) B⟩ ⟨@WS (v L s1) B⟩⟩ ⟨fun C fs vs s => B.ex C fs vs L s⟩ := by
  refine (w_bindS ..).trans (congrArg (fun z => @WR _ (t L s) ⟨z⟩ _) ?_)
  funext b s1
  cases b <;> rfl
theorem w_asgG (q : Tg) (f : F D) : @WS (sAsgG q f L s) B = @WR _ (f L s) ⟨fun d s1 => @WO _ (q d L) ⟨fun L' => B.nx L' s1⟩⟩ ⟨fun C fs vs s => B.ex C fs vs L s⟩ := by
  refine (w_bindS ..).trans (congrArg (fun z => @WR _ (f L s) ⟨z⟩ _) ?_)
  funext d s1
  cases q d L <;> rfl
theorem w_for (f : F Src) (q : Tg) (body : FS) : @WS (sFor f q body L s) B = @WR _ (f L s) ⟨fun r s1 => @WS (forL q body r r.items L s1) B⟩ ⟨fun C fs vs s => B.ex C fs vs L s⟩ := w_bindS ..
theorem w_put (o : S → D → D → D → Option S) (fe fo fi : F D) : @WS (sPut o fe fo fi L s) B = @WR _ (fe L s) ⟨fun d s1 => @WR _ (fo L s1) ⟨fun a s2 => @WR _ (fi L s2) ⟨fun b s3 => @WO _ (o s3 a b d) ⟨fun s' => B.nx L s'⟩⟩ ⟨fun C fs vs s => B.ex C fs vs L s⟩⟩ ⟨fun C fs vs s => B.ex C fs vs L s⟩⟩ ⟨fun C fs vs s => B.ex C fs vs L s⟩ := by
  refine (w_bindS ..).trans (congrArg (fun z => @WR _ (fe L s) ⟨z⟩ _) ?_)
  funext d s1
  refine (w_bindS ..).trans (congrArg (fun z => @WR _ (fo L s1) ⟨z⟩ _) ?_)
  funext a s2
  refine (w_bindS ..).trans (congrArg (fun z => @WR _ (fi L s2) ⟨z⟩ _) ?_)
  funext b s3
  cases o s3 a b d <;> rfl
theorem w_aug (o : S → D → D → Option D) (i : Nat) (f : F D) : @WS (sAug o i f L s) B = @WV (L[i]?) ⟨fun d0 => @WR _ (f L s) ⟨fun d1 s1 => @WO _ (o s1 d0 d1) ⟨fun d => @WL (L.set i (some d)) ⟨fun L' => B.nx L' s1⟩⟩⟩ ⟨fun C fs vs s => B.ex C fs vs L s⟩⟩ := by
  unfold sAug
  cases L[i]? with
  | none => rfl
  | some z => cases z with
    | none => rfl
    | some d0 =>
      refine (w_bindS ..).trans (congrArg (fun z => @WR _ (f L s) ⟨z⟩ _) ?_)
      funext d s1
      cases o s1 d0 d <;> rfl
theorem w_augS (get op : S → D → D → Option D) (put : S → D → D → D → Option S) (fo fi fe : F D) : @WS (sAugS get op put fo fi fe L s) B = @WR _ (fo L s) ⟨fun a s1 => @WR _ (fi L s1) ⟨fun b s2 => @WO _ (get s2 a b) ⟨fun d0 => @WR _ (fe L s2) ⟨fun d1 s3 => @WO _ (op s3 d0 d1) ⟨fun d => @WO _ (put s3 a b d) ⟨fun s' => B.nx L s'⟩⟩⟩ ⟨fun C fs vs s => B.ex C fs vs L s⟩⟩⟩ ⟨fun C fs vs s => B.ex C fs vs L s⟩⟩ ⟨fun C fs vs s => B.ex C fs vs L s⟩ := by
  refine (w_bindS ..).trans (congrArg (fun z => @WR _ (fo L s) ⟨z⟩ _) ?_)
  funext a s1
  refine (w_bindS ..).trans (congrArg (fun z => @WR _ (fi L s1) ⟨z⟩ _) ?_)
  funext b s2
  cases get s2 a b with
  | none => rfl
  | some d0 =>
    refine (w_bindS ..).trans (congrArg (fun z => @WR _ (fe L s2) ⟨z⟩ _) ?_)
    funext d1 s3
    cases op s3 d0 d1 with
    | none => rfl
    | some d =>
      show @WS (match put s3 a b d with
        | some s' => RS.nx L s'
        | none => .bad) B = @WO _ (put s3 a b d) _
      cases put s3 a b d <;> rfl
theorem w_raise0 (C : Addr) : @WS (sRaise0 C L s) B = B.ex C [] [] L s := rfl
theorem w_raise1 (C : Addr) (f : Str) (x : F D) : @WS (sRaise1 C f (fCons x fNil) L s) B = @WR _ (x L s) ⟨fun d s1 => B.ex C [f] [d] L s1⟩ ⟨fun C fs vs s => B.ex C fs vs L s⟩ := by
  unfold sRaise1 fCons
  cases x L s <;> rfl
theorem w_raise2 (C : Addr) (f g : Str) (x y : F D) : @WS (sRaise2 C f g (fCons x (fCons y fNil)) L s) B = @WR _ (x L s) ⟨fun d s1 => @WR _ (y L s1) ⟨fun d' s2 => B.ex C [g, f] [d', d] L s2⟩ ⟨fun C fs vs s => B.ex C fs vs L s⟩⟩ ⟨fun C fs vs s => B.ex C fs vs L s⟩ := by
  unfold sRaise2 fCons
  cases x L s with
  | ok d s1 =>
    simp only [R_bind_ok, WR]
    cases y L s1 <;> rfl
  | ex => rfl
  | bad => rfl
theorem w_try (sel : List (Addr × Bool)) (b h : FS) : @WS (sTry sel b h L s) B = @WS (b L s) { B with ex := fun C fs vs L1 s1 => @WO _ (selOf sel C) ⟨fun z => @WB z ⟨@WS (h L1 s1) { B with ex := fun _ _ _ _ _ => False }⟩ ⟨B.ex C fs vs L1 s1⟩⟩ } := by
  unfold sTry
  cases b L s with
  | ex C fs vs L1 s1 =>
    show @WS (match selOf sel C with
      | some true => (h L1 s1).calm
      | some false => RS.ex C fs vs L1 s1
      | none => .bad) B = @WO _ (selOf sel C) _
    cases selOf sel C with
    | none => rfl
    | some z => cases z with
      | false => rfl
      | true =>
        show @WS ((h L1 s1).calm) B = @WS (h L1 s1) _
        cases h L1 s1 <;> rfl
  | nx => rfl
  | rt => rfl
  | bk => rfl
  | ct => rfl
  | bad => rfl
/-- a suite's end: the name is gone, and nothing is raised -/
theorem w_drop (i : Nat) (r : RS) : @WS (r.drop i) B = @WS r ⟨fun L s => B.nx (L.set i none) s, B.rt, fun L s => B.bk (L.set i none) s, fun L s => B.ct (L.set i none) s, fun _ _ _ _ _ => False⟩ := by
  cases r <;> rfl
theorem eq_rt {r : RS} {d : D} {s : S} (h : @WS r ⟨fun _ _ => False, fun d' s' => d' = d ∧ s' = s, fun _ _ => False, fun _ _ => False, fun _ _ _ _ _ => False⟩) : r = .rt d s := by
  cases r with
  | rt d' s' =>
    obtain ⟨rfl, rfl⟩ := h
    rfl
  | nx => exact h.elim
  | bk => exact h.elim
  | ct => exact h.elim
  | ex => exact h.elim
  | bad => exact h.elim
def xfOf (a0 C0 : Addr) (d0 : Option Addr) (cs : List Addr) (n : Str) (d : D) : Option D := match d with
  | .exc a C od fs vs => if a = a0 ∧ C = C0 ∧ od = d0 ∧ C ∈ cs then (fs.zip vs).lookup n else none
  | _ => none
theorem w_xf (a0 C0 : Addr) (d0 : Option Addr) (cs : List Addr) (n : Str) (f : F D) : @WR _ (fXf a0 C0 d0 cs n f L s) Q E = @WR _ (f L s) ⟨fun d s1 => @WO _ (xfOf a0 C0 d0 cs n d) ⟨fun r => Q r s1⟩⟩ E := by
  refine (w_bind ..).trans (congrArg (fun z => @WR _ (f L s) ⟨z⟩ _) ?_)
  funext d s1
  cases d <;> try rfl
  rename_i a C od fs vs
  unfold xfOf
  dsimp only
  by_cases h : a = a0 ∧ C = C0 ∧ od = d0 ∧ C ∈ cs
  · rw [if_pos h, if_pos h]
    cases List.lookup n (fs.zip vs) <;> rfl
  · rw [if_neg h, if_neg h]
    rfl
theorem w_tryAs (i : Nat) (sel : List (Addr × Bool)) (b : FS) (h : Addr → Addr → Option Addr → FS) : @WS (sTryAs i sel b h L s) B = @WS (b L s) { B with ex := fun C fs vs L1 s1 => @WO _ (selOf sel C) ⟨fun z => @WB z ⟨@WS (hAll fun a od => (h a C od (L1.set i (some (.exc a C od fs vs))) s1).drop i) B⟩ ⟨B.ex C fs vs L1 s1⟩⟩ } := by
  unfold sTryAs
  cases b L s with
  | ex C fs vs L1 s1 =>
    show @WS (match selOf sel C with
      | some true => hAll fun a od => (h a C od (L1.set i (some (.exc a C od fs vs))) s1).drop i
      | some false => RS.ex C fs vs L1 s1
      | none => .bad) B = @WO _ (selOf sel C) _
    cases selOf sel C with
    | none => rfl
    | some z => cases z <;> rfl
  | nx => rfl
  | rt => rfl
  | bk => rfl
  | ct => rfl
  | bad => rfl
/-! expressions -/
theorem w_var (i : Nat) : @WR _ (fVar i L s) Q E = @WV (L[i]?) ⟨fun d => Q d s⟩ := by
  unfold fVar
  cases L[i]? with
  | none => rfl
  | some z => cases z <;> rfl
theorem w_c (d : D) : @WR _ (fC d L s) Q E = Q d s := rfl
theorem w_op (o : S → D → D → Option D) (f g : F D) : @WR _ (fOp o f g L s) Q E = @WR _ (f L s) ⟨fun a s1 => @WR _ (g L s1) ⟨fun b s2 => @WO _ (o s2 a b) ⟨fun d => Q d s2⟩⟩ E⟩ E := by
  refine (w_bind ..).trans (congrArg (fun z => @WR _ (f L s) ⟨z⟩ _) ?_)
  funext a s1
  refine (w_bind ..).trans (congrArg (fun z => @WR _ (g L s1) ⟨z⟩ _) ?_)
  funext b s2
  cases o s2 a b <;> rfl
theorem w_chain (o o' : S → D → D → Option D) (f g h : F D) : @WR _ (fChain o o' f g h L s) Q E = @WR _ (f L s) ⟨fun a s1 => @WR _ (g L s1) ⟨fun b s2 => @WO _ (o s2 a b) ⟨fun d => @WT d ⟨fun z => @WB z ⟨@WR _ (h L s2) ⟨fun c s3 => @WO _ (o' s3 b c) ⟨fun d => Q d s3⟩⟩ E⟩ ⟨Q (.bl false) s2⟩⟩⟩⟩ E⟩ E := by
  refine (w_bind ..).trans (congrArg (fun z => @WR _ (f L s) ⟨z⟩ _) ?_)
  funext a s1
  refine (w_bind ..).trans (congrArg (fun z => @WR _ (g L s1) ⟨z⟩ _) ?_)
  funext b s2
  cases o s2 a b with
  | none => rfl
  | some d => cases d <;> try rfl
              rename_i z
              cases z with
              | false => rfl
              | true =>
                refine (w_bind ..).trans (congrArg (fun z => @WR _ (h L s2) ⟨z⟩ _) ?_)
                funext c s3
                cases o' s3 b c <;> rfl
theorem w_notV (f : F D) : @WR _ (fNotV f L s) Q E = @WR _ (f L s) ⟨fun a s1 => @WT a ⟨fun b => Q (.bl (!b)) s1⟩⟩ E := by
  refine (w_bind ..).trans (congrArg (fun z => @WR _ (f L s) ⟨z⟩ _) ?_)
  funext a s1
  cases a <;> rfl
theorem w_andV (f g : F D) : @WR _ (fAndV f g L s) Q E = @WR _ (f L s) ⟨fun a s1 => @WT a ⟨fun b => @WB b ⟨@WR _ (g L s1) Q E⟩ ⟨Q (.bl false) s1⟩⟩⟩ E := by
  refine (w_bind ..).trans (congrArg (fun z => @WR _ (f L s) ⟨z⟩ _) ?_)
  funext a s1
  cases a <;> try rfl
  rename_i b
  cases b <;> rfl
theorem w_orV (f g : F D) : @WR _ (fOrV f g L s) Q E = @WR _ (f L s) ⟨fun a s1 => @WT a ⟨fun b => @WB b ⟨Q (.bl true) s1⟩ ⟨@WR _ (g L s1) Q E⟩⟩⟩ E := by
  refine (w_bind ..).trans (congrArg (fun z => @WR _ (f L s) ⟨z⟩ _) ?_)
  funext a s1
  cases a <;> try rfl
  rename_i b
  cases b <;> rfl
theorem w_ifE (t : F Bool) (f g : F D) : @WR _ (fIf t f g L s) Q E = @WR _ (t L s) ⟨fun b s1 => @WB b ⟨@WR _ (f L s1) Q E⟩ ⟨@WR _ (g L s1) Q E⟩⟩ E := by
  refine (w_bind ..).trans (congrArg (fun z => @WR _ (t L s) ⟨z⟩ _) ?_)
  funext b s1
  cases b <;> rfl
theorem w_tst (f : F D) {Q : Cn (Bool → S → Prop)} : @WR _ (fTst f L s) Q E = @WR _ (f L s) ⟨fun a s1 => @WT a ⟨fun b => Q b s1⟩⟩ E := by
  refine (w_bind ..).trans (congrArg (fun z => @WR _ (f L s) ⟨z⟩ _) ?_)
  funext a s1
  cases a <;> rfl
theorem w_not (t : F Bool) {Q : Cn (Bool → S → Prop)} : @WR _ (fNot t L s) Q E = @WR _ (t L s) ⟨fun b s1 => Q (!b) s1⟩ E := w_bind ..
theorem w_and (t u : F Bool) {Q : Cn (Bool → S → Prop)} : @WR _ (fAnd t u L s) Q E = @WR _ (t L s) ⟨fun b s1 => @WB b ⟨@WR _ (u L s1) Q E⟩ ⟨Q false s1⟩⟩ E := by
  refine (w_bind ..).trans (congrArg (fun z => @WR _ (t L s) ⟨z⟩ _) ?_)
  funext b s1
  cases b <;> rfl
theorem w_or (t u : F Bool) {Q : Cn (Bool → S → Prop)} : @WR _ (fOr t u L s) Q E = @WR _ (t L s) ⟨fun b s1 => @WB b ⟨Q true s1⟩ ⟨@WR _ (u L s1) Q E⟩⟩ E := by
  refine (w_bind ..).trans (congrArg (fun z => @WR _ (t L s) ⟨z⟩ _) ?_)
  funext b s1
  cases b <;> rfl
theorem w_yes {Q : Cn (Bool → S → Prop)} : @WR _ (fYes L s) Q E = Q true s := rfl
theorem w_nil {Q : Cn (List D → S → Prop)} : @WR _ (fNil L s) Q E = Q [] s := rfl
theorem w_cons (f : F D) (r : F (List D)) {Q : Cn (List D → S → Prop)} : @WR _ (fCons f r L s) Q E = @WR _ (f L s) ⟨fun a s1 => @WR _ (r L s1) ⟨fun as s2 => Q (a :: as) s2⟩ E⟩ E := by
  refine (w_bind ..).trans (congrArg (fun z => @WR _ (f L s) ⟨z⟩ _) ?_)
  funext a s1
  exact w_bind ..
theorem w_tup (fa : F (List D)) : @WR _ (fTup fa L s) Q E = @WR _ (fa L s) ⟨fun ds s1 => ds.length ≤ big ∧ Q (.tup ds) s1⟩ E := by
  refine (w_bind ..).trans (congrArg (fun z => @WR _ (fa L s) ⟨z⟩ _) ?_)
  funext ds s1
  by_cases h : ds.length ≤ big
  · simp only [h, if_true, true_and]
    rfl
  · simp only [h, if_false, false_and]
    rfl
theorem w_lst (fa : F (List D)) : @WR _ (fLst fa L s) Q E = @WR _ (fa L s) ⟨fun ds s1 => ds.length ≤ big ∧ Q (.lst ds) s1⟩ E := by
  refine (w_bind ..).trans (congrArg (fun z => @WR _ (fa L s) ⟨z⟩ _) ?_)
  funext ds s1
  by_cases h : ds.length ≤ big
  · simp only [h, if_true, true_and]
    rfl
  · simp only [h, if_false, false_and]
    rfl
theorem w_lstT (fa : F (List D)) : @WR _ (fLstT fa L s) Q E = @WR _ (fa L s) ⟨fun ds s1 => ds.length ≤ big ∧ Q (.ref s1.length) (s1 ++ [.lst ds])⟩ E := by
  refine (w_bind ..).trans (congrArg (fun z => @WR _ (fa L s) ⟨z⟩ _) ?_)
  funext ds s1
  by_cases h : ds.length ≤ big
  · simp only [h, if_true, true_and]
    rfl
  · simp only [h, if_false, false_and]
    rfl
theorem w_cb (o : S → List D → Option D) (fa : F (List D)) : @WR _ (fCB o fa L s) Q E = @WR _ (fa L s) ⟨fun ds s1 => @WO _ (o s1 ds) ⟨fun d => Q d s1⟩⟩ E := by
  refine (w_bind ..).trans (congrArg (fun z => @WR _ (fa L s) ⟨z⟩ _) ?_)
  funext ds s1
  cases o s1 ds <;> rfl
theorem w_call (n : Nat) (G : List D → S → R D) (fa : F (List D)) : @WR _ (fCall n G fa L s) Q E = @WR _ (fa L s) ⟨fun ds s1 => ds.length = n ∧ @WR _ (G ds s1) Q E⟩ E := by
  refine (w_bind ..).trans (congrArg (fun z => @WR _ (fa L s) ⟨z⟩ _) ?_)
  funext ds s1
  by_cases h : ds.length = n
  · simp only [h, if_true, true_and]
  · simp only [h, if_false, false_and]
    rfl
theorem w_callK (n m : Nat) (pk : List Pk) (dds : List D) (G : List D → S → R D) (fa fk : F (List D)) : @WR _ (fCallK n m pk dds G fa fk L s) Q E = @WR _ (fa L s) ⟨fun ds s1 => @WR _ (fk L s1) ⟨fun zs s2 => (ds.length = n ∧ zs.length = m) ∧ @WR _ (G (arr pk ds zs dds) s2) Q E⟩ E⟩ E := by
  refine (w_bind ..).trans (congrArg (fun z => @WR _ (fa L s) ⟨z⟩ _) ?_)
  funext ds s1
  refine (w_bind ..).trans (congrArg (fun z => @WR _ (fk L s1) ⟨z⟩ _) ?_)
  funext zs s2
  by_cases h : ds.length = n ∧ zs.length = m
  · rw [if_pos h]
    simp only [h, and_self, true_and]
  · rw [if_neg h]
    simp only [h, false_and]
    rfl
theorem w_neg (f : F D) : @WR _ (fNeg f L s) Q E = @WR _ (f L s) ⟨fun d s1 => @WI d ⟨fun i => Q (.int (-i)) s1⟩⟩ E := by
  refine (w_bind ..).trans (congrArg (fun z => @WR _ (f L s) ⟨z⟩ _) ?_)
  funext a s1
  cases a <;> rfl
theorem w_no {Q : Cn (Option Int → S → Prop)} : @WR _ (fNo L s) Q E = Q none s := rfl
theorem w_pt (f : F D) {Q : Cn (Option Int → S → Prop)} : @WR _ (fPt f L s) Q E = @WR _ (f L s) ⟨fun d s1 => @WI d ⟨fun i => Q (some i) s1⟩⟩ E := by
  refine (w_bind ..).trans (congrArg (fun z => @WR _ (f L s) ⟨z⟩ _) ?_)
  funext a s1
  cases a <;> rfl
theorem w_sl (f : F D) (l h : F (Option Int)) : @WR _ (fSl f l h L s) Q E = @WR _ (f L s) ⟨fun d s1 => @WR _ (l L s1) ⟨fun lo s2 => @WR _ (h L s2) ⟨fun hi s3 => @WO _ (dSl s3 d lo hi) ⟨fun r => Q r s3⟩⟩ E⟩ E⟩ E := by
  refine (w_bind ..).trans (congrArg (fun z => @WR _ (f L s) ⟨z⟩ _) ?_)
  funext d s1
  refine (w_bind ..).trans (congrArg (fun z => @WR _ (l L s1) ⟨z⟩ _) ?_)
  funext lo s2
  refine (w_bind ..).trans (congrArg (fun z => @WR _ (h L s2) ⟨z⟩ _) ?_)
  funext hi s3
  cases dSl s3 d lo hi <;> rfl
def fldOf (s : S) (cs : List Addr) (n : Str) (d : D) : Option D := match insOf s d with
  | some (C, fs, vs) => if C ∈ cs then (fs.zip vs).lookup n else none
  | none => none
theorem w_fld (cs : List Addr) (n : Str) (f : F D) : @WR _ (fFld cs n f L s) Q E = @WR _ (f L s) ⟨fun d s1 => @WO _ (fldOf s1 cs n d) ⟨fun r => Q r s1⟩⟩ E := by
  refine (w_bind ..).trans (congrArg (fun z => @WR _ (f L s) ⟨z⟩ _) ?_)
  funext d s1
  unfold fldOf
  cases insOf s1 d with
  | none => rfl
  | some z =>
    obtain ⟨C, fs, vs⟩ := z
    dsimp only
    by_cases h : C ∈ cs
    · rw [if_pos h, if_pos h]
      cases List.lookup n (fs.zip vs) <;> rfl
    · rw [if_neg h, if_neg h]
      rfl
theorem w_src (f : F D) {Q : Cn (Src → S → Prop)} : @WR _ (fSrc f L s) Q E = @WR _ (f L s) ⟨fun d s1 => @WO _ (iSeq s1 d) ⟨fun r => Q r s1⟩⟩ E := by
  refine (w_bind ..).trans (congrArg (fun z => @WR _ (f L s) ⟨z⟩ _) ?_)
  funext d s1
  cases iSeq s1 d <;> rfl
theorem w_rng (o : List D → Option Src) (fa : F (List D)) {Q : Cn (Src → S → Prop)} : @WR _ (fRng o fa L s) Q E = @WR _ (fa L s) ⟨fun ds s1 => @WO _ (o ds) ⟨fun r => Q r s1⟩⟩ E := by
  refine (w_bind ..).trans (congrArg (fun z => @WR _ (fa L s) ⟨z⟩ _) ?_)
  funext ds s1
  cases o ds <;> rfl
theorem w_enu (f : F D) {Q : Cn (Src → S → Prop)} : @WR _ (fEnu (fCons f fNil) L s) Q E = @WR _ (f L s) ⟨fun d s1 => @WO _ (iEnu s1 d) ⟨fun r => Q r s1⟩⟩ E := by
  unfold fEnu fCons
  cases f L s with
  | ok d s1 =>
    show @WR _ (match iEnu s1 d with
      | some r => .ok r s1
      | none => .bad) Q E = @WO _ (_) _
    cases iEnu s1 d <;> rfl
  | ex => rfl
  | bad => rfl
theorem w_listT (f : F D) : @WR _ (fListT (fCons f fNil) L s) Q E = @WR _ (f L s) ⟨fun d s1 => @WO _ (seqOf s1 d) ⟨fun xs => Q (.ref s1.length) (s1 ++ [.lst xs])⟩⟩ E := by
  unfold fListT fCons
  cases f L s with
  | ok d s1 =>
    show @WR _ (match seqOf s1 d with
      | some xs => R.ok (.ref s1.length) (s1 ++ [.lst xs])
      | none => .bad) Q E = @WO _ (_) _
    cases seqOf s1 d <;> rfl
  | ex => rfl
  | bad => rfl
def appOf (n : Nat) (y : D) (s : S) : Option S := match s[n]? with
  | some (.lst xs) => if xs.length < big then some (s.set n (.lst (xs ++ [y]))) else none
  | _ => none
def isLst (n : Nat) (s : S) : Bool := match s[n]? with
  | some (.lst _) => true
  | _ => false
def WN (d : D) {Q : Cn (Nat → Prop)} : Prop := match d with
  | .ref n => Q n
  | _ => False
theorem w_tn (n : Nat) (Q : Cn (Nat → Prop)) : @WN (.ref n) Q = Q n := rfl
theorem w_app (fo f : F D) : @WR _ (fApp fo (fCons f fNil) L s) Q E = @WR _ (fo L s) ⟨fun d s1 => @WN d ⟨fun n => isLst n s1 = true ∧ @WR _ (f L s1) ⟨fun y s2 => @WO _ (appOf n y s2) ⟨fun s3 => Q .non s3⟩⟩ E⟩⟩ E := by
  refine (w_bind ..).trans (congrArg (fun z => @WR _ (fo L s) ⟨z⟩ _) ?_)
  funext d s1
  cases d <;> try rfl
  rename_i n
  show @WR _ (match s1[n]? with
    | some (.lst _) => _
    | _ => .bad) Q E = (isLst n s1 = true ∧ _)
  unfold isLst
  cases s1[n]? with
  | none => simp only [Bool.false_eq_true, false_and]; rfl
  | some o =>
    cases o <;> try (simp only [Bool.false_eq_true, false_and]; rfl)
    simp only [true_and]
    unfold fCons
    cases f L s1 with
    | ok y s2 =>
      show @WR _ (match s2[n]? with
        | some (.lst xs) => _
        | _ => .bad) Q E = @WO _ (appOf n y s2) _
      unfold appOf
      cases s2[n]? with
      | none => rfl
      | some o2 =>
        cases o2 <;> try rfl
        rename_i xs
        dsimp only
        by_cases h : xs.length < big
        · rw [if_pos h, if_pos h]
          rfl
        · rw [if_neg h, if_neg h]
          rfl
    | ex => rfl
    | bad => rfl
def fldPut (s : S) (cs : List Addr) (n : Str) (o d : D) : Option S := match o with
  | .ref k => match s[k]? with
    | some (.ins C fs vs) => if C ∈ cs ∧ fs.length < 1000 then some (s.set k (.ins C (putN n d fs vs).1 (putN n d fs vs).2)) else none
    | _ => none
  | _ => none
theorem w_fldT (cs : List Addr) (n : Str) (fo f : F D) : @WS (sFldT cs n fo f L s) B = @WR _ (f L s) ⟨fun d s1 => @WR _ (fo L s1) ⟨fun o s2 => @WO _ (fldPut s2 cs n o d) ⟨fun s' => B.nx L s'⟩⟩ ⟨fun C fs vs s => B.ex C fs vs L s⟩⟩ ⟨fun C fs vs s => B.ex C fs vs L s⟩ := by
  refine (w_bindS ..).trans (congrArg (fun z => @WR _ (f L s) ⟨z⟩ _) ?_)
  funext d s1
  refine (w_bindS ..).trans (congrArg (fun z => @WR _ (fo L s1) ⟨z⟩ _) ?_)
  funext o s2
  cases o <;> try rfl
  rename_i k
  unfold fldPut
  dsimp only
  cases s2[k]? with
  | none => rfl
  | some o =>
    cases o <;> try rfl
    rename_i C fs vs
    dsimp only
    by_cases h : C ∈ cs ∧ fs.length < 1000
    · rw [if_pos h, if_pos h]
      rfl
    · rw [if_neg h, if_neg h]
      rfl
theorem w_make (C : Addr) (n : Nat) (G : List D → S → R D) (fa : F (List D)) : @WR _ (fMake C n G fa L s) Q E = @WR _ (fa L s) ⟨fun ds s1 => @WR _ (mkD C n G ds s1) Q E⟩ E := w_bind ..
theorem w_makeL (i : Nat) (C : Addr) (n : Nat) (G : List D → S → R D) (fa : F (List D)) : @WR _ (fMakeL i C n G fa L s) Q E = @WV (L[i]?) ⟨fun d => d = .gl C ∧ @WR _ (fMake C n G fa L s) Q E⟩ := by
  unfold fMakeL
  cases L[i]? with
  | none => rfl
  | some z => cases z with
    | none => rfl
    | some d =>
      show _ = (d = .gl C ∧ _)
      cases d <;> try (simp only [reduceCtorEq, false_and]; rfl)
      rename_i C'
      by_cases h : C' = C
      · subst h
        simp only [if_true, true_and]
      · simp only [h, if_false, D.gl.injEq, false_and]
        rfl
theorem get_app (s : S) (o : O) : (s ++ [o])[s.length]? = some o := by simp
theorem set_app (s : S) (o o' : O) : (s ++ [o]).set s.length o' = s ++ [o'] := by simp
/-- a comprehension behind its source -/
def lcE (q : Tg) (t : F Bool) (f : F D) (vs : List Nat) (L : Lc) (r : Src) (s1 : S) : R D := match lcL q t f r (wipeD L vs) s1.length r.items (s1 ++ [.lst []]) with
  | .ok _ s2 => match s2[s1.length]? with
    | some (.lst ys) => if (s2.take s1.length).all (O.bel s1.length) = true ∧ D.bels s1.length ys = true then .ok (.lst ys) (s2.take s1.length) else .bad
    | _ => .bad
  | _ => .bad
theorem w_lc (fi : F Src) (q : Tg) (t : F Bool) (f : F D) (vs : List Nat) : @WR _ (fLc fi q t f vs L s) Q E = @WR _ (fi L s) ⟨fun r s1 => @WR _ (lcE q t f vs L r s1) Q E⟩ E := w_bind ..
theorem w_run (N : Nat) (body : FS) (ds : List D) (s : S) : @WR _ (runF N body ds s) Q E = @WL (startD N ds) ⟨fun L => @WS (body L s) ⟨fun _ s => Q .non s, Q, fun _ _ => False, fun _ _ => False, fun C fs vs _ s => E C fs vs s⟩⟩ := by
  show @WR _ ((body (startD N ds) s).fin) Q E = @WS (body (startD N ds) s) _
  cases body (startD N ds) s <;> rfl
theorem w_cut (G : List D → S → R D) (ds : List D) (s : S) : @WR _ (cutF G ds s) Q E = @WR _ (G ds s) ⟨fun d s' => (s'.take s.length).all (O.bel s.length) = true ∧ @WO _ (fin2 s.length s' d) ⟨fun d' => Q d' (s'.take s.length)⟩⟩ ⟨fun C fs vs s' => ((s'.take s.length).all (O.bel s.length) = true ∧ D.bels s.length vs = true) ∧ E C fs vs (s'.take s.length)⟩ := by
  unfold cutF
  cases G ds s with
  | ok d s' =>
    show @WR _ (if _ then _ else _) Q E = (_ ∧ _)
    by_cases h : (s'.take s.length).all (O.bel s.length) = true
    · rw [if_pos h]
      simp only [h, true_and]
      cases fin2 s.length s' d <;> rfl
    · rw [if_neg h]
      simp only [h, Bool.false_eq_true, false_and]
      rfl
  | ex C fs vs s' =>
    show @WR _ (if _ then _ else _) Q E = (_ ∧ _)
    by_cases h : (s'.take s.length).all (O.bel s.length) = true ∧ D.bels s.length vs = true
    · rw [if_pos h]
      simp only [h, true_and]
      rfl
    · rw [if_neg h]
      simp only [h, false_and]
      rfl
  | bad => rfl
theorem w_pure (G : List D → S → R D) (ds : List D) (s : S) : @WR _ (pureF G ds s) Q E = @WR _ (G ds s) ⟨fun d s' => s'.take s.length = s ∧ @WO _ (fin2 s.length s' d) ⟨fun d' => Q d' s⟩⟩ ⟨fun C fs vs s' => (s'.take s.length = s ∧ D.bels s.length vs = true) ∧ E C fs vs s⟩ := by
  unfold pureF
  cases G ds s with
  | ok d s' =>
    show @WR _ (if _ then _ else _) Q E = (_ ∧ _)
    by_cases h : s'.take s.length = s
    · rw [if_pos h]
      simp only [h, true_and]
      cases fin2 s.length s' d <;> rfl
    · rw [if_neg h]
      simp only [h, false_and]
      rfl
  | ex C fs vs s' =>
    show @WR _ (if _ then _ else _) Q E = (_ ∧ _)
    by_cases h : s'.take s.length = s ∧ D.bels s.length vs = true
    · rw [if_pos h]
      simp only [h, true_and]
      rfl
    · rw [if_neg h]
      simp only [h, false_and]
      rfl
  | bad => rfl
end
/-! ### weakening, results -/
theorem WR.mono {α : Type} {r : R α} {Q Q' : Cn (α → S → Prop)} {E E' : Cn (Addr → List Str → List D → S → Prop)} (h : @WR _ r Q E) (hq : ∀ a s, Q a s → Q' a s) (he : ∀ C fs vs s, E C fs vs s → E' C fs vs s) : @WR _ r Q' E' := by
  cases r with
  | ok a s => exact hq _ _ h
  | ex C fs vs s => exact he _ _ _ _ h
  | bad => exact h
theorem WS.mono {r : RS} {B B' : Bs} (h : @WS r B) (h1 : ∀ L s, B.nx L s → B'.nx L s) (h2 : ∀ d s, B.rt d s → B'.rt d s) (h3 : ∀ L s, B.bk L s → B'.bk L s) (h4 : ∀ L s, B.ct L s → B'.ct L s) (h5 : ∀ C fs vs L s, B.ex C fs vs L s → B'.ex C fs vs L s) : @WS r B' := by
  cases r with
  | nx L s => exact h1 _ _ h
  | rt L s => exact h2 _ _ h
  | bk L s => exact h3 _ _ h
  | ct L s => exact h4 _ _ h
  | ex C fs vs L s => exact h5 _ _ _ _ _ h
  | bad => exact h
/-- from a wp of just one result to the equation -/
theorem eq_ok {α : Type} {r : R α} {a : α} {s : S} (h : @WR _ r ⟨fun a' s' => a' = a ∧ s' = s⟩ ⟨nE⟩) : r = .ok a s := by
  cases r with
  | ok b t =>
    obtain ⟨rfl, rfl⟩ := h
    rfl
  | ex => exact h.elim
  | bad => exact h.elim
theorem ex_ok {α : Type} {r : R α} {P : α → S → Prop} (h : @WR _ r ⟨P⟩ ⟨nE⟩) : ∃ a s, r = .ok a s ∧ P a s := by
  cases r with
  | ok b t => exact ⟨b, t, rfl, h⟩
  | ex => exact h.elim
  | bad => exact h.elim
theorem wb_intro {b : Bool} {P Q : Cn Prop} (h1 : b = true → P.f) (h2 : b = false → Q.f) : @WB b P Q := by
  cases b with
  | true => exact h1 rfl
  | false => exact h2 rfl
theorem wb_dec {p : Prop} [Decidable p] {P Q : Cn Prop} (h1 : p → P.f) (h2 : ¬ p → Q.f) : @WB (decide p) P Q := wb_intro (fun h => h1 (of_decide_eq_true h)) (fun h => h2 (of_decide_eq_false h))
theorem wb_not {b : Bool} {P Q : Cn Prop} : @WB (!b) P Q = @WB b Q P := by cases b <;> rfl
theorem ws_cut {u v : FS} {L : Lc} {s : S} {B : Bs} (M : Lc → S → Prop) (h1 : @WS (u L s) { B with nx := M }) (h2 : ∀ L s, M L s → @WS (v L s) B) : @WS (sSeq u v L s) B := by
  rw [w_seq]
  exact h1.mono h2 (fun _ _ h => h) (fun _ _ h => h) (fun _ _ h => h) (fun _ _ _ _ _ h => h)
/-! ### loops -/
theorem ws_for {q : Tg} {body : FS} {r : Src} {B : Bs} (I : Nat → Lc → S → Prop) : ∀ (ds : List D) (k : Nat) {L : Lc} {s : S}, I k L s →
    (∀ i d L s, ds[i]? = some d → I (k + i) L s → chk r s = true ∧ @WO _ (q d L) ⟨fun L1 => @WS (body L1 s) ⟨I (k + i + 1), B.rt, B.nx, I (k + i + 1), B.ex⟩⟩) →
    (∀ L s, I (k + ds.length) L s → chk r s = true ∧ B.nx L s) → @WS (forL q body r ds L s) B
  | [], k, L, s, h0, _, he => by
    have := he L s h0
    unfold forL
    rw [if_pos this.1]
    exact this.2
  | d :: ds, k, L, s, h0, hs, he => by
    have h1 := hs 0 d L s rfl h0
    unfold forL
    rw [if_pos h1.1]
    have h2 := h1.2
    cases eq : q d L with
    | none =>
      rw [eq] at h2
      exact h2.elim
    | some L1 =>
      rw [eq] at h2
      have h3 : @WS (body L1 s) ⟨I (k + 0 + 1), B.rt, B.nx, I (k + 0 + 1), B.ex⟩ := h2
      dsimp only
      have go : ∀ L2 s2, I (k + 0 + 1) L2 s2 → @WS (forL q body r ds L2 s2) B := fun L2 s2 h4 =>
        ws_for I ds (k + 1) h4 (fun i d L s e hi => by
          have z := hs (i + 1) d L s e
          rw [show k + (i + 1) = k + 1 + i by omega] at z
          exact z hi) (fun L s hi => by
          refine he L s ?_
          rw [List.length_cons, show k + (ds.length + 1) = k + 1 + ds.length by omega]
          exact hi)
      cases eb : body L1 s with
      | nx L2 s2 =>
        rw [eb] at h3
        exact go L2 s2 h3
      | ct L2 s2 =>
        rw [eb] at h3
        exact go L2 s2 h3
      | bk L2 s2 =>
        rw [eb] at h3
        exact h3
      | rt d s2 =>
        rw [eb] at h3
        exact h3
      | ex C fs ds L2 s2 =>
        rw [eb] at h3
        exact h3
      | bad =>
        rw [eb] at h3
        exact h3.elim
/-- for i in range: lo, lo + 1, .. -/
theorem ws_rng {q : Tg} {body : FS} {lo : Int} {n : Nat} {B : Bs} {L : Lc} {s : S} (I : Nat → Lc → S → Prop) (h0 : I 0 L s)
    (hs : ∀ i L s, i < n → I i L s → @WO _ (q (.int (lo + i)) L) ⟨fun L1 => @WS (body L1 s) ⟨I (i + 1), B.rt, B.nx, I (i + 1), B.ex⟩⟩)
    (he : ∀ L s, I n L s → B.nx L s) : @WS (forL q body ⟨rgItems lo n, none⟩ (rgItems lo n) L s) B := by
  have hl : (rgItems lo n).length = n := by simp [rgItems]
  refine ws_for I (rgItems lo n) 0 h0 (fun i d L s e hi => ⟨rfl, ?_⟩) (fun L s hi => ⟨rfl, he L s ?_⟩)
  · rw [Nat.zero_add] at hi ⊢
    unfold rgItems at e
    rw [List.getElem?_map] at e
    obtain ⟨j, ej, rfl⟩ := Option.map_eq_some_iff.mp e
    obtain ⟨hj, ej⟩ := List.getElem?_eq_some_iff.mp ej
    rw [List.getElem_range] at ej
    subst ej
    rw [List.length_range] at hj
    exact hs i L s hj hi
  · rw [Nat.zero_add, hl] at hi
    exact hi
/-- for x in a list that is not tracked -/
theorem ws_lst {α : Type} {f : α → D} {q : Tg} {body : FS} {B : Bs} {xs : List α} {on : List D} {L : Lc} {s : S} (I : Nat → Lc → S → Prop) (h0 : I 0 L s)
    (hs : ∀ i (hi : i < xs.length) L s, I i L s → @WO _ (q (f xs[i]) L) ⟨fun L1 => @WS (body L1 s) ⟨I (i + 1), B.rt, B.nx, I (i + 1), B.ex⟩⟩)
    (he : ∀ L s, I xs.length L s → B.nx L s) : @WS (forL q body ⟨on, none⟩ (xs.map f) L s) B := by
  refine ws_for I (xs.map f) 0 h0 (fun i d L s e hi => ⟨rfl, ?_⟩) (fun L s hi => ⟨rfl, he L s ?_⟩)
  · rw [Nat.zero_add] at hi ⊢
    rw [List.getElem?_map] at e
    obtain ⟨x, ex, rfl⟩ := Option.map_eq_some_iff.mp e
    obtain ⟨hj, ej⟩ := List.getElem?_eq_some_iff.mp ex
    subst ej
    exact hs i hj L s hi
  · rw [Nat.zero_add, List.length_map] at hi
    exact hi
/-- while, by a measure -/
theorem ws_while {t : F Bool} {body : FS} {B : Bs} (I : Nat → Lc → S → Prop) : ∀ (n k : Nat) {L : Lc} {s : S}, I k L s → k < n →
    (∀ k L s, I k L s → @WR _ (t L s) ⟨fun b s1 => @WB b ⟨@WS (body L s1) ⟨fun L s => ∃ j, j < k ∧ I j L s, B.rt, B.nx, fun L s => ∃ j, j < k ∧ I j L s, B.ex⟩⟩ ⟨B.nx L s1⟩⟩ ⟨fun C fs vs s => B.ex C fs vs L s⟩) → @WS (sWhile n t body L s) B
  | 0, k, L, s, _, hk, _ => absurd hk (Nat.not_lt_zero _)
  | n + 1, k, L, s, h0, hk, hs => by
    have h1 := hs k L s h0
    unfold sWhile whileL
    rw [w_bindS]
    refine h1.mono (fun b s1 h2 => ?_) (fun _ _ _ _ h => h)
    cases b with
    | false => exact h2
    | true =>
      have h3 : @WS (body L s1) ⟨fun L s => ∃ j, j < k ∧ I j L s, B.rt, B.nx, fun L s => ∃ j, j < k ∧ I j L s, B.ex⟩ := h2
      simp only [if_true]
      have go : ∀ L2 s2, (∃ j, j < k ∧ I j L2 s2) → @WS (whileL t body n L2 s2) B := fun L2 s2 ⟨j, hj, h4⟩ => ws_while I n j h4 (by omega) hs
      cases eb : body L s1 with
      | nx L2 s2 =>
        rw [eb] at h3
        exact go L2 s2 h3
      | ct L2 s2 =>
        rw [eb] at h3
        exact go L2 s2 h3
      | bk L2 s2 =>
        rw [eb] at h3
        exact h3
      | rt d s2 =>
        rw [eb] at h3
        exact h3
      | ex C fs ds L2 s2 =>
        rw [eb] at h3
        exact h3
      | bad =>
        rw [eb] at h3
        exact h3.elim
end SI

/-! keyword-only parameters with defaults -/
namespace SI
open PySem PySem.Spec PyProof.Rows L2
end SI

/-! comprehensions whose list is changed later -/
namespace SI
open PySem PySem.Spec PyProof.Rows L2
section
variable {X : Cx} {W : WX} {a b c e : Expr} {f g h : F D} {t : F Bool} {fa : F (List D)} {es : List Expr} {pos : Pos} {st : Stmt} {sts : List Stmt} {u v : FS}
/-- a comprehension's list, tracked -/
def fLcT (fi : F Src) (q : Tg) (t : F Bool) (f : F D) (vs : List Nat) : F D := fun L s => (fi L s).bind fun r s1 => match lcL q t f r (wipeD L vs) s1.length r.items (s1 ++ [.lst []]) with
  | .ok _ s2 => match s2[s1.length]? with
    | some (.lst _) => .ok (.ref s1.length) s2
    | _ => .bad
  | _ => .bad
theorem weak_lcT {fi : F Src} {q : Tg} {gt : TG} {tt : TT} {te : TE} {vs : List Nat} {σ : L2.St} {H : Hp} {Q : VK}
    (hg : ∀ v σ H (Q : L2.St → Hp → Prop), tG X.K q v (wipe σ vs) H Q → gt v (wipe σ vs) H fun σ2 H2 => wipe σ2 vs = wipe σ vs ∧ Q σ2 H2)
    (ht : ∀ σ H Q, tT X.K noW t σ H Q → tt σ H Q) (he : ∀ σ H Q, tE X.K noW f σ H Q → te σ H Q)
    (hq : tE X.K W (fLcT fi q t f vs) σ H Q) : tLc (tI X.K W fi) gt tt te vs σ H Q := by
  obtain ⟨mu, s, L, m, l, p⟩ := hq
  refine ⟨mu, s, L, m, l, Post.step p fun r s1 mu1 H1 J g1 m1 ir p1 => ?_⟩
  intro Dl hD
  have l1 := l.mono g1
  cases eL : lcL q t f r (wipeD L vs) s1.length r.items (s1 ++ [.lst []]) with
  | ex C fs ds s2 =>
    rw [eL] at p1
    exact p1.elim
  | bad =>
    rw [eL] at p1
    exact p1.elim
  | ok uu sF =>
    rw [eL] at p1
    dsimp only at p1
    cases eY : sF[s1.length]? with
    | none =>
      rw [eY] at p1
      exact p1.elim
    | some ob =>
      rw [eY] at p1
      cases ob <;> try exact p1.elim
      rename_i ysF
      dsimp only at p1
      have gT := Ge.track (u := .lst []) m1 hD
      have mT : Sim X.K (mu1 ++ [some Dl]) (s1 ++ [.lst []]) (upd H1 Dl (.lst [])) := m1.track hD ⟨[], upd_same, .nil⟩
      have hlast : (mu1 ++ [some Dl])[s1.length]? = some (some Dl) := by
        rw [← m1.len, List.getElem?_append_right (Nat.le_refl _), Nat.sub_self]
        rfl
      refine ⟨fun i n H' => n = r.items.length - i ∧ i ≤ r.items.length ∧ ∃ mu' s', Ge (mu1 ++ [some Dl]) (upd H1 Dl (.lst [])) mu' H' ∧ Sim X.K mu' s' H' ∧ lcL q t f r (wipeD L vs) s1.length (r.items.drop i) s' = .ok uu sF,
        ⟨_, rfl, Nat.zero_le _, _, _, Ge.refl _ _, mT, eL⟩, ?_⟩
      rintro i n H' ⟨rfl, hi, mu', s', g', m', p'⟩
      by_cases hlt : i < r.items.length
      · have hd : r.items.drop i = r.items[i] :: r.items.drop (i + 1) := List.drop_eq_getElem_cons hlt
        rw [hd] at p'
        unfold lcL at p'
        by_cases hk : chk r s' = true
        · rw [if_pos hk] at p'
          have hir := (ir mu' s' H' (gT.trans g') m' hk i).1 _ (List.getElem?_eq_getElem hlt)
          refine .inr ⟨hir.1, fun H2 => ∃ mu2 s2, Ge (mu1 ++ [some Dl]) (upd H1 Dl (.lst [])) mu2 H2 ∧ Sim X.K mu2 s2 H2 ∧ lcL q t f r (wipeD L vs) s1.length (r.items.drop (i + 1)) s2 = .ok uu sF,
            fun H2 n2 => ⟨_, ?_, rfl, hlt, n2⟩, fun x H2 hy => ?_⟩
          · omega
          · obtain ⟨g2, m2, r2⟩ := hir.2 x H2 hy
            cases eq : q r.items[i] (wipeD L vs) with
            | none =>
              rw [eq] at p'
              cases p'
            | some L1 =>
              rw [eq] at p'
              dsimp only at p'
              refine hg x σ H2 _ ⟨mu', s', wipeD L vs, _, L1, m2, wipe_lr (((l1.mono gT).mono g').mono g2) vs, r2, eq, fun σ2 l2 => ?_⟩
              refine ht σ2 H2 _ ⟨mu', s', L1, m2, l2, ?_⟩
              cases et : t L1 s' with
              | bad =>
                rw [et] at p'
                cases p'
              | ex C fs ds s3 =>
                rw [et] at p'
                cases p'
              | ok bb s3 =>
                rw [et] at p'
                simp only [R.bind] at p'
                intro mu3 H3 b3 g3 m3 e3
                subst e3
                cases bb with
                | false =>
                  rw [if_neg Bool.false_ne_true]
                  rw [if_neg Bool.false_ne_true] at p'
                  exact ⟨mu3, s3, (g'.trans g2).trans g3, m3, p'⟩
                | true =>
                  rw [if_pos rfl]
                  rw [if_pos rfl] at p'
                  refine he σ2 H3 _ ⟨mu3, s3, L1, m3, l2.mono g3, ?_⟩
                  cases ef : f L1 s3 with
                  | bad =>
                    rw [ef] at p'
                    cases p'
                  | ex C fs ds s4 =>
                    rw [ef] at p'
                    cases p'
                  | ok y s4 =>
                    rw [ef] at p'
                    simp only [R.bind] at p'
                    intro mu4 H4 vy g4 m4 ry
                    cases e4 : s4[s1.length]? with
                    | none =>
                      rw [e4] at p'
                      cases p'
                    | some ob =>
                      rw [e4] at p'
                      cases ob <;> try cases p'
                      rename_i acc
                      dsimp only at p'
                      split at p'
                      · rename_i hbig
                        have gA := ((g'.trans g2).trans g3).trans g4
                        have hDl := gA.rf s1.length Dl hlast
                        obtain ⟨b, vacc, e1, e2, e3, rs⟩ := sq_ref (v := .ref Dl) m4 (by simp only [RelD]; exact ⟨Dl, hDl, rfl⟩) e4
                        cases e1
                        refine ⟨vacc, e3, ?_, mu4, _, gA.trans (Ge.put hDl), m4.put (o := .lst (acc ++ [y])) hDl ⟨_, upd_same, (rs.append (.cons ry .nil)).mono (Ge.put hDl)⟩, p'⟩
                        rw [← rs.length, sizeLine_eq]
                        unfold big at hbig
                        omega
                      · cases p'
        · rw [if_neg hk] at p'
          cases p'
      · have hd : r.items.drop i = [] := List.drop_eq_nil_of_le (by omega)
        rw [hd] at p'
        unfold lcL at p'
        by_cases hk : chk r s' = true
        · rw [if_pos hk] at p'
          cases p'
          refine .inl ⟨(ir mu' _ H' (gT.trans g') m' hk i).2 (List.getElem?_eq_none (by omega)), ?_⟩
          have hDl := g'.rf s1.length Dl hlast
          obtain ⟨b, vacc, e1, e2, e3, rs⟩ := sq_ref (v := .ref Dl) m' (by simp only [RelD]; exact ⟨Dl, hDl, rfl⟩) eY
          cases e1
          refine p1 mu' H' _ (gT.trans g') m' ?_
          simp only [RelD]
          exact ⟨Dl, hDl, rfl⟩
        · rw [if_neg hk] at p'
          cases p'
/-- y = [elt for ..] -/
theorem pS_setLcT {i : Nat} {y : Str} {py spos : Pos} {elt tg iter : Expr} {ifs : List Expr} {scope : Scope} {own : List (Str × Nat)} {fi : F Src} {q : Tg} {gt : TG} {vs : List Nat} (hc : X.calm = true) (hN : X.N.Nodup)
    (hsw : swapsWith (.ListComp elt [⟨tg, iter, ifs, 0⟩] scope pos) (some (.Name y py)) spos.line X.env = pure true) (hi : PI X tg iter (tI X.K W fi)) (ok : BlkOk X.N X.env.scope scope own)
    (hk : KG X.K q gt vs) (mon : ∀ v σ H (Q Q' : L2.St → Hp → Prop), (∀ σ H, Q σ H → Q' σ H) → gt v σ H Q → gt v σ H Q')
    (hg : ∀ (s : Shared) (H : Hp) (C : Addr) (cl : List (Str × Addr)) (fp : List Addr), PG (X.blk s H scope (compEnvC scope cl C X.env) fp) tg gt) (ht : ∀ (s : Shared) (H : Hp) (C : Addr) (cl : List (Str × Addr)) (fp : List Addr), PTs (X.blk s H scope (compEnvC scope cl C X.env) fp) ifs (tT X.K noW t))
    (he : ∀ (s : Shared) (H : Hp) (C : Addr) (cl : List (Str × Addr)) (fp : List Addr), PE (X.blk s H scope (compEnvC scope cl C X.env) fp) elt (tE X.K noW f)) (hy : X.N[i]? = some y := by rfl) (hyl : X.env.scope.names.lookup y = some .local := by rfl) (hs : ∀ x, foldedSetIterable iter X.env x = pure x := by intro _; rfl) (hvs : own.map (·.2) = vs := by rfl) :
    PS X (.Assign [.Name y py] (.ListComp elt [⟨tg, iter, ifs, 0⟩] scope pos) spos) (tS X.K W (sAsg i (fLcT fi q t f vs))) := by
  refine PS.weak (ps_setLc hc hN hy hyl hsw hi ok hg ht he hs) fun D σ H ⟨mu, s, L, m, l, p⟩ => ?_
  show tLc _ _ _ _ (own.map (·.2)) σ H _
  rw [hvs]
  refine weak_lcT (kg_wipe hk mon) (fun _ _ _ z => z) (fun _ _ _ z => z) ⟨mu, s, L, m, l, Post.stepS l p fun d s1 mu1 H1 v1 g1 m1 r1 p1 => ?_⟩
  exact p1 mu1 _ H1 (Ge.refl _ _) m1 ((l.mono g1).set i r1)
end
end SI

/-! methods of lists -/
namespace SI
open PySem PySem.Spec PyProof.Rows L2
section
variable {X : Cx} {W : WX} {o e : Expr} {es : List Expr} {fo : F D} {fa : F (List D)} {pos : Pos}
def fMth (m : S → D → List D → Option (D × S)) (fo : F D) (fa : F (List D)) : F D := fun L s => (fo L s).bind fun d s1 => match lstOf s1 d with
  | some _ => (fa L s1).bind fun ds s2 => match m s2 d ds with
    | some z => .ok z.1 z.2
    | none => .bad
  | none => .bad
def MthL (K : PySem.W.Frag) (r : V → List V → Hp → VK → Prop) (m : S → D → List D → Option (D × S)) : Prop :=
  ∀ (mu : Mu) (s : S) (H : Hp) (d : D) (ds : List D) (v : V) (vs : List V) (Q : VK) (z : D × S), Sim K mu s H → RelD K mu H d v → RelDs K mu H ds vs → m s d ds = some z → (∀ mu' H' u, Ge mu H mu' H' → Sim K mu' z.2 H' → RelD K mu' H' z.1 u → Q u H') → r v vs H Q
theorem pE_mth {name : Str} {id : String} {r : V → List V → Hp → VK → Prop} {m : S → D → List D → Option (D × S)} {apos : Pos} (slot : Slot "list" name id) (hty : typeOf (.builtin id) = pure (.type "method_descriptor")) (hm : MtR X id r) (hl : MthL X.K r m)
    (ho : PE X o (tE X.K W fo)) (ha : PA X (e :: es) (tA X.K W fa)) (hbase : attributeBase o name X.env (eval o X.env) = eval o X.env := by rfl)
    (hfew : ((backTo pos (starEach (e :: es) X.env)).all (fun x => !x.1) && (backToKw pos (keywordEach [] X.env)).all (fun x => x.1.isSome)
      && decide ((e :: es).length + ([] : List Keyword).length + (if ([] : List Keyword).isEmpty then 0 else 1) < 30)) = true := by rfl)
    (hline : (apos.endLine == pos.line) = true := by rfl) (hs : starEach (e :: es) X.env = (false, eval e X.env) :: starEach es X.env := by rfl) (hplain : (backTo pos (starEach es X.env)).any (·.1) = false := by rfl) :
    PE X (.Call (.Attribute o name apos) (e :: es) [] pos) (tE X.K W (fMth m fo fa)) := by
  refine PE.weak (pe_bm PySem.F.plainAttrs_list slot hty hm ho ha hbase hfew hline hs hplain) fun σ H Q ⟨mu, s, L, m0, l, q⟩ => ?_
  refine ⟨mu, s, L, m0, l, Post.step q fun d s1 mu1 H1 v1 g1 m1 r1 p1 => ?_⟩
  cases en : lstOf s1 d with
  | none =>
    rw [en] at p1
    exact p1.elim
  | some ys =>
    rw [en] at p1
    obtain ⟨a, vs, rfl, sq, rs⟩ := sq_lstOf m1 r1 en
    refine ⟨.inl ⟨rfl, _, sq⟩, mu1, s1, L, m1, l.mono g1, Post.step p1 fun ds s2 mu2 H2 ws g2 m2 r2 p2 => ?_⟩
    cases em : m s2 d ds with
    | none =>
      rw [em] at p2
      exact p2.elim
    | some z =>
      rw [em] at p2
      exact hl mu2 s2 H2 d ds _ ws Q z m2 (r1.mono g2) r2 em fun mu' H' u g3 m3 r3 => p2 mu' H' u g3 m3 r3
def mInsert (s : S) (d : D) : List D → Option (D × S)
  | [.int i, y] => match d with
    | .ref n => match s[n]? with
      | some (.lst xs) => if xs.length < big ∧ 0 ≤ i ∧ i < 2 ^ 60 then some (.non, s.set n (.lst (xs.take i.toNat ++ [y] ++ xs.drop i.toNat))) else none
      | _ => none
    | _ => none
  | _ => none
theorem ml_insert {K : PySem.W.Frag} : MthL K (fun x vs H Q => ∃ (l : Addr) (xs : List V) (i : Int) (y : V), x = .ref l ∧ vs = [.int i, y] ∧ H l = some (.lst xs) ∧ xs.length < sizeLine ∧ 0 ≤ i ∧ i < 2 ^ 63 ∧ Q .non (upd H l (.lst (xs.take i.toNat ++ [y] ++ xs.drop i.toNat)))) mInsert := by
  intro mu s H d ds v vs Q z m r rs e q
  unfold mInsert at e
  split at e
  · rename_i i y
    split at e
    · rename_i n
      split at e
      · rename_i xs en
        split at e
        · rename_i hc
          cases e
          obtain ⟨a, us, rfl, ea, eh, rr⟩ := sq_ref m r en
          simp only [RelDs] at rs
          obtain ⟨w1, rs1, rfl, h1, w2, rs2, rfl, h2, rfl⟩ := rs
          have ew := rel_int.mp h1
          subst ew
          refine ⟨a, us, i, w2, rfl, rfl, eh, ?_, hc.2.1, Int.lt_trans hc.2.2 (by decide +kernel), ?_⟩
          · rw [← rr.length]
            exact Nat.lt_of_lt_of_le hc.1 (big_le (Nat.le_refl _))
          · refine q mu _ _ (Ge.put ea) (m.put ea ?_) (rel_non.mpr rfl)
            have rr2 := rr.mono (Ge.put (u := .lst (us.take i.toNat ++ [w2] ++ us.drop i.toNat)) ea)
            exact ⟨_, upd_same, ((rr2.take _).append (.cons (h2.mono (Ge.put ea)) .nil)).append (rr2.drop _)⟩
        · cases e
      · cases e
    · cases e
  · cases e
theorem pE_insert {e' : Expr} {apos : Pos} (ho : PE X o (tE X.K W fo)) (ha : PA X [e, e'] (tA X.K W fa)) (hbase : attributeBase o "insert" X.env (eval o X.env) = eval o X.env := by rfl)
    (hfew : ((backTo pos (starEach [e, e'] X.env)).all (fun x => !x.1) && (backToKw pos (keywordEach [] X.env)).all (fun x => x.1.isSome)
      && decide ([e, e'].length + ([] : List Keyword).length + (if ([] : List Keyword).isEmpty then 0 else 1) < 30)) = true := by rfl)
    (hline : (apos.endLine == pos.line) = true := by rfl) (hs : starEach [e, e'] X.env = (false, eval e X.env) :: starEach [e'] X.env := by rfl) (hplain : (backTo pos (starEach [e'] X.env)).any (·.1) = false := by rfl) :
    PE X (.Call (.Attribute o "insert" apos) [e, e'] [] pos) (tE X.K W (fMth mInsert fo fa)) := pE_mth PySem.F.slot_list_insert PySem.F.type_list_insert mt_insert ml_insert ho ha hbase hfew hline hs hplain
theorem RelDs.eraseIdx {K : PySem.W.Frag} {mu : Mu} {H : Hp} : ∀ {ds : List D} {vs : List V} (i : Nat), RelDs K mu H ds vs → RelDs K mu H (ds.eraseIdx i) (vs.eraseIdx i)
  | [], vs, i, h => by
    simp only [RelDs] at h
    subst h
    exact .nil
  | x :: xs, vs, 0, h => by
    simp only [RelDs] at h
    obtain ⟨w, r, rfl, h1, h2⟩ := h
    exact h2
  | x :: xs, vs, i + 1, h => by
    simp only [RelDs] at h
    obtain ⟨w, r, rfl, h1, h2⟩ := h
    exact .cons h1 (RelDs.eraseIdx i h2)
end
end SI

/-! sorted(xs, key=lambda at: rows[at][2]): a lambda that captures a name of the def -/
namespace SI
open PySem PySem.Spec PyProof.Rows L2
/-- the written part's code objects of the names tabNs: their tables are among the tables ts -/
def tabsIn (K : PySem.W.Frag) (ts : List Addr) : Bool := K.all fun p => match p.2.data with
  | .fields vs => (match (vs[1]? : Option Value) with
    | some (.str q _) => if q ∈ tabNs then (match (vs[11]? : Option Value) with
        | some (.ref P) => decide (P ∈ ts)
        | _ => true) else true
    | _ => true)
  | _ => true
/-- no two code objects of other names share the table P -/
def tabU (K : PySem.W.Frag) (P : Addr) (q : Str) : Bool := K.all fun p => match p.2.data with
  | .fields vs => (match (vs[11]? : Option Value) with
    | some (.ref P') => if P' = P then (match (vs[1]? : Option Value) with
        | some (.str q' _) => decide (q' = q)
        | _ => true) else true
    | _ => true)
  | _ => true
theorem tabK_start {K : PySem.W.Frag} {ts : List Addr} {mu : Mu} {H : Hp} (h : tabsIn K ts = true) (hP : ∀ P ∈ ts, H P = some (.tbl #[]) ∧ ¬ Live mu P) : TabK K mu H := by
  intro c oc vs q t P h1 h2 h3 h4 h5
  have z := List.all_eq_true.mp h _ (PySem.W.mem_of_lookupK h1)
  dsimp only at z
  rw [h2] at z
  dsimp only at z
  rw [h3] at z
  dsimp only at z
  rw [if_pos h5, h4] at z
  obtain ⟨e, n⟩ := hP P (of_decide_eq_true z)
  refine ⟨n, #[], e, True.intro, fun pos cv hc => ?_⟩
  have hc : codeAmong pos [] = some cv := hc
  simp [codeAmong] at hc
theorem tabU_ok {K : PySem.W.Frag} {P : Addr} {q : Str} (h : tabU K P q = true) {c : Addr} {oc : Obj} {vs : Array Value} {q' : Str} {t : Tok} (h1 : K.lookup c = some oc) (h2 : oc.data = .fields vs) (h3 : vs[1]? = some (.str q' t)) (h4 : vs[11]? = some (.ref P)) : q' = q := by
  have z := List.all_eq_true.mp h _ (PySem.W.mem_of_lookupK h1)
  dsimp only at z
  rw [h2] at z
  dsimp only at z
  rw [h4] at z
  dsimp only at z
  rw [if_pos rfl, h3] at z
  exact of_decide_eq_true z
/-- what the text says of a def that makes a lambda: c its code object, P the table -/
structure LamT (K : PySem.W.Frag) (base : Heap) (mg : Str → Option Value) (q : Str) (c P : Addr) : Prop where
  tb : LamX.TabB base mg c P
  at_ : ∃ (oc : Obj) (vs : Array Value) (t : Tok), K.lookup c = some oc ∧ oc.data = .fields vs ∧ vs[1]? = some (.str q t) ∧ vs[11]? = some (.ref P)
  nm : q ∈ tabNs
  un : tabU K P q = true
section
variable {X : Cx} {pins : List (Addr × Obj)} {σ : L2.St} {H : Hp} {s : Shared}
/-- the lambda's object stands at f, all that is not a table stays -/
theorem lam_new {mu : Mu} {sD : S} {c P : Addr} {q : Str} {params : Arguments} {body : Expr} {scope : Scope} {pos : Pos} {E Q : Value → Shared → Prop} (I : Inv X pins σ H s) (m : Sim X.K mu sD H) (T : LamT X.K X.base X.mg q c P) (hcode : X.env.code = .ref c) (hqual : X.env.qual = q ++ ".<locals>.")
    (hdef : defaultsOf params X.env = ([], [])) (hfree : ∀ y ∈ scope.names, y.2 = .free → ∃ c, X.env.cells.lookup y.1 = some c)
    (k : ∀ (f c' : Addr) (pm ctv : Value) (H1 : Hp) (s' : Shared), Inv X pins σ H1 s' → Ge mu H mu H1 → Sim X.K mu sD H1 →
      s'.heap.get? f = some (PySem.W.kla_obj "<lambda>" (X.env.qual ++ "<lambda>") params body scope (cloFrom X.env.cells scope.names []) pm c' ctv) → H1 c' = some (LamX.CodeO c' (X.env.qual ++ "<lambda>")) → Q (.ref f) s') :
    wpAny (model X.prog X.w) X.A (eval (.Lambda params body scope pos) X.env) Q E s := by
  obtain ⟨oc, ovs, ot, hk, hd, h1, h11⟩ := T.at_
  obtain ⟨nl, ps, hP, ht, ha⟩ := m.tab c oc ovs q ot P hk hd h1 h11 T.nm
  rw [← hqual] at ha
  have hob : s.heap.get? P = some (PySem.W.tabObj ps) := I.hok P _ hP
  have hbt : s.heap.BuiltinsAt X.mg P := T.tb.bm.keeps I.bk
  refine PySem.W.kla_eval hdef ?_
  cases hc : codeAmong pos ps.toList with
  | some cv =>
    obtain ⟨c', rfl, h4, h5⟩ := ha pos cv hc
    refine PySem.W.kla_makeFunctionHit (closure_ok hfree) I.ok.glob (I.mod.glob.keeps I.bk) hcode (T.tb.code.keeps I.bk) hob ht hc hbt fun ctv h' tk hx hsz => ?_
    refine k h'.objs.size c' ((X.mg "__name__").getD .none) ctv H _ (I.kept (t' := tk) (h' := h'.push (PySem.W.kla_obj "<lambda>" (X.env.qual ++ "<lambda>") params body scope (cloFrom X.env.cells scope.names []) ((X.mg "__name__").getD .none) c' ctv)) fun b o e => Heap.get?_push_of_some _ (hx b o e)) (Ge.refl _ _) m (Heap.get?_push_size _ rfl) h4
  | none =>
    refine PySem.W.kla_makeFunction (closure_ok hfree) I.ok.glob (I.mod.glob.keeps I.bk) hcode (T.tb.code.keeps I.bk) hob ht hc T.tb.gP hbt fun c' ctv h' tk hx hge hlt hrec htb => ?_
    obtain ⟨c2, oc2, vs2, t2, e2, ho2, hd2, hv2⟩ := hrec
    cases e2
    obtain ⟨lo, elo⟩ : ∃ z, z = PySem.W.kla_obj "<lambda>" (X.env.qual ++ "<lambda>") params body scope (cloFrom X.env.cells scope.names []) ((X.mg "__name__").getD .none) c' ctv := ⟨_, rfl⟩
    have fresh : H c' = none := I.hok.fresh hge
    have nlc : ¬ Live mu c' := m.fresh fresh
    obtain ⟨more, em⟩ : ∃ z, z = (#[rawInt pos.line, rawInt pos.col, Value.ref c'] : Array Value) := ⟨_, rfl⟩
    have J := LamX.inv_table (t' := tk) (more := more) (h' := h'.push lo) (q := X.env.qual ++ "<lambda>") I hP (fun b o hb e => Heap.get?_push_of_some _ (hx b o hb e)) (by rw [em]; exact Heap.get?_push_of_some _ htb) hge ⟨oc2, vs2, t2, Heap.get?_push_of_some _ ho2, hd2, hv2⟩
    have nPc : P ≠ c' := ne_of_none hP fresh
    have stay : ∀ b o, H b = some o → b ≠ P → upd (upd H P (.tbl (ps ++ more))) c' (LamX.CodeO c' (X.env.qual ++ "<lambda>")) b = some o := fun b o e n => by
      rw [upd_ne (ne_of_none e fresh), upd_ne n]
      exact e
    have ge : Ge mu H mu (upd (upd H P (.tbl (ps ++ more))) c' (LamX.CodeO c' (X.env.qual ++ "<lambda>"))) := ⟨fun b o e n nt => ⟨stay b o e fun z => by
      rw [z, hP] at e
      exact nt ps (Option.some.inj e).symm, n⟩, fun _ _ h => h⟩
    have atP : upd (upd H P (.tbl (ps ++ more))) c' (LamX.CodeO c' (X.env.qual ++ "<lambda>")) P = some (.tbl (ps ++ more)) := by rw [upd_ne nPc, upd_same]
    have ncode : ∀ (d : Addr) (r : Str) (z : Array Value), LamX.CodeO d r ≠ HO.tbl z := fun d r z e => by
      unfold LamX.CodeO at e
      cases e
    have codes : ∀ d r, H d = some (LamX.CodeO d r) → upd (upd H P (.tbl (ps ++ more))) c' (LamX.CodeO c' (X.env.qual ++ "<lambda>")) d = some (LamX.CodeO d r) := fun d r e => stay d _ e fun z => by
      rw [z, hP] at e
      exact ncode _ _ _ (Option.some.inj e).symm
    have sim : Sim X.K mu sD (upd (upd H P (.tbl (ps ++ more))) c' (LamX.CodeO c' (X.env.qual ++ "<lambda>"))) := by
      refine ⟨fun d od vs q2 t2 P2 k1 k2 k3 k4 k5 => ?_, m.len, m.inj, fun b l => ?_, fun n o e => ?_⟩
      · obtain ⟨n2, ps2, hP2, ht2, ha2⟩ := m.tab d od vs q2 t2 P2 k1 k2 k3 k4 k5
        by_cases e : P2 = P
        · subst e
          have eq := tabU_ok T.un k1 k2 k3 k4
          subst eq
          refine ⟨n2, ps ++ more, atP, ?_, fun pos2 cv2 hc2 => ?_⟩
          · rw [Array.toList_append, em]
            exact PySem.TriplesOk_snoc _ _ _ _ ht
          · rw [Array.toList_append, em] at hc2
            rw [← hqual]
            rcases LamX.among_app _ ht hc2 with z | z
            · obtain ⟨d2, e1, e3, e4⟩ := ha pos2 cv2 z
              exact ⟨d2, e1, codes _ _ e3, e4⟩
            · exact ⟨c', z, upd_same, nlc⟩
        · refine ⟨n2, ps2, stay _ _ hP2 e, ht2, fun pos2 cv2 hc2 => ?_⟩
          obtain ⟨d2, e1, e3, e4⟩ := ha2 pos2 cv2 hc2
          exact ⟨d2, e1, codes _ _ e3, e4⟩
      · obtain ⟨o, e⟩ := m.dom b l
        exact ⟨o, stay b o e fun z => nl (by rw [← z]; exact l)⟩
      · rcases m.obj n o e with z | ⟨b, e1, r⟩
        · exact .inl z
        · refine .inr ⟨b, e1, r.mono ge ?_⟩
          obtain ⟨u, e2⟩ := m.dom b (live_at e1)
          rw [stay b u e2 fun z => nl (by rw [← z]; exact live_at e1), e2]
    rw [← elo]
    refine k h'.objs.size c' ((X.mg "__name__").getD .none) ctv _ ⟨h'.push lo, s.gens, s.drawn, tk, s.os⟩ J ge sim ?_ upd_same
    rw [elo]
    exact Heap.get?_push_size _ rfl
end
/-! ### its call -/
/-- one parameter, no name of its own but that -/
structure LamS1 (sc scope : Scope) (x : Str) : Prop where
  kind : scope.kind = .function
  co : scope.isCoroutine = false
  gen : scope.isGenerator = false
  cell : ∀ y ∈ scope.names, y.2 ≠ .cell
  own : scope.names.lookup x = some .local
  free : ∀ y ∈ scope.names, y.2 = .free → sc.names.lookup y.1 = some .cell ∨ sc.names.lookup y.1 = some .free
def lamS1B (sc scope : Scope) (x : Str) : Bool :=
  decide (scope.kind = .function) && (!scope.isCoroutine && (!scope.isGenerator && ((scope.names.all fun y => !decide (y.2 = .cell)) && (decide (scope.names.lookup x = some .local) && scope.names.all fun y => !decide (y.2 = .free) || (decide (sc.names.lookup y.1 = some .cell) || decide (sc.names.lookup y.1 = some .free))))))
theorem lamS1_by {sc scope : Scope} {x : Str} (h : lamS1B sc scope x = true) : LamS1 sc scope x := by
  unfold lamS1B at h
  simp only [Bool.and_eq_true, Bool.or_eq_true, Bool.not_eq_true', decide_eq_true_eq, decide_eq_false_iff_not, List.all_eq_true] at h
  obtain ⟨h1, h2, h3, h4, h5, h6⟩ := h
  refine ⟨h1, h2, h3, h4, h5, fun y hy e => ?_⟩
  rcases h6 y hy with z | z
  · exact absurd e z
  · exact z
theorem LamS1.has {X : Cx} {scope : Scope} {x : Str} (L : LamS1 X.env.scope scope x) (ok : X.Ok) : ∀ y ∈ scope.names, y.2 = .free → ∃ c, X.env.cells.lookup y.1 = some c := fun y hy e => ok.has _ (L.free y hy e)
section
variable {prog : Program} {w : World} {A : Around} {s : Shared} {f c' : Addr} {qual x : Str} {params : Arguments} {body : Expr} {scope sc : Scope} {cl : List (Str × Addr)} {pm ctv v : Value} {Q : Value → Shared → Prop}
theorem lam_call1 (hroom : A.depth < recursionLimit) (hf : s.heap.get? f = some (PySem.W.kla_obj "<lambda>" qual params body scope cl pm c' ctv)) (hcd : s.heap.CodeRec (.ref c') qual) (lim : s.heap.NoLimit)
    (hbind : bindArgs (PySem.W.kla_fn "<lambda>" qual params body scope cl pm (.ref c') ctv) ⟨[v], []⟩ = pure [(x, v)]) (L : LamS1 sc scope x)
    (h : ∀ (h₁ : Heap) (tk : Nat) (F : Addr), (∀ b o, s.heap.get? b = some o → h₁.get? b = some o) → h₁.Ns F (fun y => [(x, v)].reverse.lookup y) →
      wpAny (model prog w) (A.deeper (PySem.W.envX qual scope F f (.ref c') cl)) (eval body (PySem.W.envX qual scope F f (.ref c') cl)) Q (fun _ _ => False) { s with heap := h₁, toks := tk }) :
    wpAny (model prog w) A (call (.ref f) [v]) Q (fun _ _ => False) s := by
  refine wpAny_call ?_
  refine PySem.W.kla_callFunE hroom hf rfl L.co L.gen rfl hcd ?_
  rw [hbind]
  refine wpAny_pure ?_
  refine wpAny_newFunctionEnv L.cell (fun y hy => ?_) (fun h₁ hns hsb => ⟨lim.fresh _ hsb, ?_⟩) L.kind
  · rw [List.mem_singleton.mp hy]
    exact L.own
  refine PySem.W.kla_codeExpr ?_
  exact wpAny_mono (h h₁ _ _ (fun b o e => hsb.extBut b o (Nat.ne_of_lt (Heap.lt_size e)) (Heap.get?_push_of_some _ e)) hns) (fun _ _ q => q) fun _ _ q => q.elim
end
/-! ### rows[at][p] -/
section
variable {prog : Program} {w : World} {A : Around} {E : Value → Shared → Prop} {s : Shared}
theorem item_at {value slice : Expr} {a : Addr} {its : List Value} {n : Nat} {i : Int} {t : Tok} {x : Value} {Q : Value → Shared → Prop} (h : s.heap.IsList a its.toArray ∨ IsTup s.heap a its.toArray) (hi : i = (n : Int)) (hl : its.length ≤ sizeLine) (hx : its[n]? = some x) (q : Q x s)
    (hs : subscripted slice false (.ref a) (.int i t) = operate [.ref a, .int i t] (getItem (.ref a) (.int i t)) := by with_unfolding_all rfl) : wpAny (model prog w) A (subscriptTail value slice (.ref a) (.int i t)) Q E s := by
  have hn : n < its.length := (List.getElem?_eq_some_iff.mp hx).1
  have h63 := line63
  subst hi
  rcases h with h | h
  · exact item_listR h (by omega) (by omega) (by simpa using hx) q hs
  · exact subscriptTail_builtinR (x := x) h.typeIs slot_tuple_getitem.lookup
      (getItem_tuple (k := n) (Q := fun r s' => r = x ∧ Q r s') h (by omega) (by omega) (by rw [List.size_toArray, seqIndex_of (by omega) (by omega)]) (by simpa using hx) ⟨rfl, q⟩) hs
end
theorem tup_keep {h h' : Heap} {a : Addr} {its : Array Value} (k : ∀ b o, h.get? b = some o → h'.get? b = some o) (x : IsTup h a its) : IsTup h' a its := by
  obtain ⟨o, e, r⟩ := x
  exact ⟨o, k _ _ e, r⟩
/-- a def whose code object is known -/
theorem ok_fnC {P : Program} {w : World} {K : PySem.W.Frag} {mg : Str → Option Value} {base : Heap} {x qual : Str} {st : Stmt} {f : Addr} {fd : FuncData} {N ps : List Str} {k : Nat} {fb : FS} {c : Addr} (Fu : Fun K x qual st f fd) (hcd : fd.code = .ref c) (Sc : FnScope N ps (defScope st))
    (hbody : ∀ (A : Around) (outer : List Env) (s : Shared) (H : Hp) (E : XK), Room k (A.deeper (envOfC qual (defScope st) s.heap.objs.size f (.ref c))) →
      Takes (cxOf (L2.CX P w) P w K mg base N qual (defScope st) f (.ref c) A outer s H E) (fun cls d _ H => E cls d H) → PassesOwn (model P w) (A.deeper (envOfC qual (defScope st) s.heap.objs.size f (.ref c))) (cxOf (L2.CX P w) P w K mg base N qual (defScope st) f (.ref c) A outer s H E).env (cxOf (L2.CX P w) P w K mg base N qual (defScope st) f (.ref c) A outer s H E).xe →
      PSs (cxOf (L2.CX P w) P w K mg base N qual (defScope st) f (.ref c) A outer s H E) (defBody st) (tS K (fun cls d _ H => E cls d H) fb)) :
    FnOk P w K mg base (L2.CX P w) (k + 1) f fd ps (spI K ps.length (runF N.length fb)) := by
  obtain ⟨oc, od, kV, doc, pm, an, cv, ct, osl, rfl, lk, hcode⟩ := Fu.ex
  obtain rfl : cv = .ref c := hcd
  refine fn_of lk hcode Sc (fun vs H Q E h => ?_) fun A outer s H vs Q E hr h => ?_
  · obtain ⟨mu, s, ds, m, r, hl, _⟩ := h
    rw [← r.length, hl]
  · refine ⟨_, hbody A outer s H E hr (takes_of rfl rfl rfl rfl) (passes_of rfl), ?_⟩
    obtain ⟨mu, s', ds, m, r, hl, p⟩ := h
    refine ⟨mu, s', startD N.length ds, m, startD_lr r, ?_⟩
    unfold runF at p
    cases eb : fb (startD N.length ds) s' with
    | nx L2 s2 =>
      rw [eb] at p
      exact fun mu4 σ4 H4 g4 m4 l4 => p mu4 H4 _ g4 m4 (rel_non.mpr rfl)
    | rt d s2 =>
      rw [eb] at p
      exact p
    | ex C fs ds L2 s2 =>
      rw [eb] at p
      exact fun mu4 σ4 H4 od g4 m4 l4 x4 => p mu4 H4 od g4 m4 x4
    | bk L2 s2 =>
      rw [eb] at p
      exact p.elim
    | ct L2 s2 =>
      rw [eb] at p
      exact p.elim
    | bad =>
      rw [eb] at p
      exact p.elim
end SI

/-! the head by one kernel run: the facts of the written part, read off the heap behind the top -/
namespace Hd
open PySem PySem.Spec PyProof.Rows L2
/-- tables of code objects and the code objects of the names ex are left out -/
def kpO (ex : List Str) (o : Obj) : Bool := match o.cls, o.data with
  | .none, .fields _ => false
  | _, .fields vs => (match (vs.toList[1]? : Option Value) with
    | some (.str q _) => (match ex with
      | [] => true
      | _ => !decide (q ∈ ex))
    | _ => true)
  | _, _ => true
/-- the objects at these addresses, without tables of code objects -/
def frK (ex : List Str) (g : Addr → Option Obj) : List Addr → PySem.W.Frag
  | [] => []
  | a :: r => match g a with
    | some o => (match kpO ex o with
      | true => (a, o) :: frK ex g r
      | false => frK ex g r)
    | none => frK ex g r
theorem frK_at {ex : List Str} {g : Addr → Option Obj} {a : Addr} {o : Obj} : ∀ as : List Addr, (frK ex g as).lookup a = some o → g a = some o
  | [], e => nomatch (show (none : Option Obj) = some o from e)
  | b :: r, e => by
    unfold frK at e
    cases hb : g b with
    | none =>
      rw [hb] at e
      exact frK_at r e
    | some ob =>
      rw [hb] at e
      dsimp only at e
      cases hk : kpO ex ob with
      | false =>
        rw [hk] at e
        exact frK_at r e
      | true =>
        rw [hk] at e
        have e2 : (match a == b with | true => some ob | false => (frK ex g r).lookup a) = some o := e
        cases q : (a == b) with
        | true =>
          rw [q] at e2
          have eo : ob = o := Option.some.inj e2
          rw [beq_iff_eq.mp q, hb, eo]
        | false =>
          rw [q] at e2
          exact frK_at r e2
def rgA (lo : Nat) : Nat → List Addr
  | 0 => []
  | n + 1 => lo :: rgA (lo + 1) n
def asR (lo cnt : Nat) : List Addr := rgA lo cnt
/-! ### addresses by names -/
def ga (K : PySem.W.Frag) (x : Str) : Addr := match PySem.W.nsIn K mainGlobals x with
  | some (some (.ref a)) => a
  | _ => 0
def tkA (K : PySem.W.Frag) (x : Str) : Tok := match PySem.W.nsIn K mainGlobals x with
  | some (some (.int _ t)) => t
  | some (some (.str _ t)) => t
  | _ => 0
def fnA (K : PySem.W.Frag) (f : Addr) : Option FuncData := match K.lookup f with
  | some ⟨_, _, .func fd, _⟩ => some fd
  | _ => none
def kwV (K : PySem.W.Frag) (f : Addr) : Value := match fnA K f with
  | some fd => fd.kwdefaults
  | none => .none
def cdV (K : PySem.W.Frag) (f : Addr) : Value := match fnA K f with
  | some fd => fd.code
  | none => .none
def rfV : Value → Addr
  | .ref a => a
  | _ => 0
def fdsA (K : PySem.W.Frag) (c : Addr) : Array Value := match K.lookup c with
  | some ⟨_, _, .fields vs, _⟩ => vs
  | _ => #[]
/-! ### facts -/
/-- a code object with its name and its table -/
def isCd (K : PySem.W.Frag) (c P : Addr) (q : Str) : Bool := match K.lookup c with
  | some ⟨_, _, .fields vs, _⟩ => (match (vs[1]? : Option Value) with
    | some (.str q' _) => decide (q' = q)
    | _ => false) && (match (vs[11]? : Option Value) with
    | some (.ref P') => decide (P' = P)
    | _ => false)
  | _ => false
theorem isCd_ok {K : PySem.W.Frag} {c P : Addr} {q : Str} (h : isCd K c P q = true) : ∃ lo ld lv ls lt, K.lookup c = some ⟨lo, ld, .fields lv, ls⟩ ∧ lv[1]? = some (.str q lt) ∧ lv[11]? = some (.ref P) := by
  unfold isCd at h
  split at h
  · rename_i lo ld lv ls e
    simp only [Bool.and_eq_true] at h
    obtain ⟨h1, h2⟩ := h
    split at h1
    · rename_i q' lt e1
      have : q' = q := of_decide_eq_true h1
      subst this
      split at h2
      · rename_i P' e2
        have : P' = P := of_decide_eq_true h2
        subst this
        exact ⟨lo, ld, lv, ls, lt, e, e1, e2⟩
      · cases h2
    · cases h1
  · cases h
/-! ### functions -/
abbrev FnV : Type := Option (Str × Str × Arguments × FuncBody × Scope × Addr × List (Str × Addr) × Value × Addr)
def fnOb (K : PySem.W.Frag) (f : Addr) : FnV := match fnA K f with
  | some fd => some (fd.name, fd.qualname, fd.params, fd.body, fd.scope, fd.globals, fd.closure, fd.defaults, fd.builtins)
  | none => none
structure FnD where
  at_ : PySem.W.Frag → Addr
  name : Str
  qual : Str
  params : Arguments
  body : List Stmt
  scope : Scope
def FnD.val (d : FnD) : FnV := some (d.name, d.qual, d.params, .stmts d.body, d.scope, mainGlobals, [], .none, builtinsNs)
theorem fn_ok {K : PySem.W.Frag} {d : FnD} (e : fnOb K (d.at_ K) = d.val) :
    ∃ oc od osl doc pm an ct, K.lookup (d.at_ K) = some ⟨oc, od, .func (PySem.W.fnOf d.name d.qual d.params d.body d.scope .none (kwV K (d.at_ K)) doc pm an (cdV K (d.at_ K)) ct), osl⟩ := by
  obtain ⟨kV, ek⟩ : ∃ k, kwV K (d.at_ K) = k := ⟨_, rfl⟩
  obtain ⟨cV, ec⟩ : ∃ k, cdV K (d.at_ K) = k := ⟨_, rfl⟩
  rw [ek, ec]
  unfold fnOb at e
  unfold kwV at ek
  unfold cdV at ec
  unfold fnA at e ek ec
  generalize K.lookup (d.at_ K) = o at *
  cases o with
  | none => cases e
  | some o =>
    obtain ⟨oc, od, dt, osl⟩ := o
    cases dt with
    | func fd =>
      obtain ⟨n1, n2, n3, n4, n5, n6, n7, n8, n9, n10, n11, n12, n13, n14, n15⟩ := fd
      dsimp only at e ek ec
      simp only [FnD.val, Option.some.injEq, Prod.mk.injEq] at e
      obtain ⟨h1, h2, h3, h4, h5, h6, h7, h8, h9⟩ := e
      subst h1 h2 h3 h4 h5 h6 h7 h8 h9 ek ec
      exact ⟨oc, od, osl, n10, n11, n12, n14, rfl⟩
    | _ => cases e
/-! ### the Hook -/
structure Dat where
  fns : List FnD
  chk : PySem.W.Frag → List Bool
  tab : PySem.W.Frag → List Addr
  ex : List Str
def isTab (o : Option Obj) : Bool := match o with
  | some ⟨.none, none, .fields vs, sl⟩ => vs.toList.isEmpty && sl.toList.isEmpty
  | _ => false
theorem isTab_ok {o : Option Obj} (h : isTab o = true) : o = some { cls := .none, data := .fields #[] } := by
  unfold isTab at h
  split at h
  · rename_i vs sl
    simp only [Bool.and_eq_true, List.isEmpty_iff] at h
    obtain ⟨h1, h2⟩ := h
    obtain ⟨v⟩ := vs
    obtain ⟨l⟩ := sl
    dsimp only at h1 h2
    subst h1 h2
    rfl
  · cases h
abbrev Al : Type := Bool × List FnV
def allB : List Bool → Bool
  | [] => true
  | b :: r => match b with
    | true => allB r
    | false => false
theorem allB_get : ∀ {l : List Bool} {i : Nat} {b : Bool}, allB l = true → l[i]? = some b → b = true
  | [], i, b, _, e => by simp at e
  | a :: r, 0, b, h, e => by
    cases a with
    | true => simpa using e.symm
    | false => cases h
  | a :: r, i + 1, b, h, e => by
    cases a with
    | true => exact allB_get (l := r) (i := i) h (by simpa using e)
    | false => cases h
def tabB (g : Addr → Option Obj) : List Addr → Bool
  | [] => true
  | P :: r => isTab (g P) && tabB g r
theorem tabB_mem {g : Addr → Option Obj} : ∀ {l : List Addr}, tabB g l = true → ∀ P ∈ l, g P = some { cls := .none, data := .fields #[] }
  | [], _, P, h => by cases h
  | Q :: r, h, P, hP => by
    obtain ⟨h1, h2⟩ := Bool.and_eq_true_iff.mp (show (isTab (g Q) && tabB g r) = true from h)
    rcases List.mem_cons.mp hP with rfl | hP
    · exact isTab_ok h1
    · exact tabB_mem h2 P hP
def obsK (D : Dat) (g : Addr → Option Obj) (K : PySem.W.Frag) : Al := (allB (D.chk K) && tabB g (D.tab K), D.fns.map fun d => fnOb K (d.at_ K))
def obsG (lo cnt : Nat) (D : Dat) (g : Addr → Option Obj) : Al := obsK D g (frK D.ex g (asR lo cnt))
def valD (D : Dat) : Al := (true, D.fns.map FnD.val)
/-- what the end leans on -/
structure Says (D : Dat) (K : PySem.W.Frag) (h : Heap) : Prop where
  inn : K.In h
  chk : allB (D.chk K) = true
  fns : D.fns.map (fun d => fnOb K (d.at_ K)) = D.fns.map FnD.val
  tab : ∀ P ∈ D.tab K, h.get? P = some { cls := .none, data := .fields #[] }
def hook (lo cnt : Nat) (D : Dat) : PySem.W.Hook where
  α := Al
  obs := fun s => obsG lo cnt D s.heap.get?
  val := fun _ => valD D
  says := fun _ h => ∃ K : PySem.W.Frag, Says D K h
  of := fun w s e => by
    have e1 := Prod.mk.inj e
    have e2 := Bool.and_eq_true_iff.mp e1.1
    exact ⟨frK D.ex s.heap.get? (asR lo cnt), fun a o h => frK_at _ h, e2.1, e1.2, tabB_mem e2.2⟩
  keeps := fun _ _ _ ⟨K, hK⟩ k => ⟨K, PySem.W.Frag.In.keeps hK.inn k, hK.chk, hK.fns, fun P hP => k _ _ (hK.tab P hP)⟩
def ob (lo cnt : Nat) (D : Dat) (s : PySem.W.SharedT) : Al := obsG lo cnt D (HandSHeadRun.getT s)
theorem ob_eq {lo cnt : Nat} {D : Dat} (s : PySem.W.SharedT) : ob lo cnt D s = (hook lo cnt D).obs s.abs := by
  have e : HandSHeadRun.getT s = s.abs.heap.get? := funext fun a => HandSHeadRun.getT_eq s a
  show obsG lo cnt D (HandSHeadRun.getT s) = obsG lo cnt D s.abs.heap.get?
  rw [e]
section
variable {D : Dat} {K : PySem.W.Frag} {h : Heap}
theorem Says.b (c : Says D K h) (i : Nat) {b : Bool} (e : (D.chk K)[i]? = some b := by rfl) : b = true := allB_get c.chk e
theorem Says.e {α : Type} [DecidableEq α] {x y : α} (c : Says D K h) (i : Nat) (e : (D.chk K)[i]? = some (decide (x = y)) := by rfl) : x = y := of_decide_eq_true (allB_get c.chk e)
theorem Says.f (c : Says D K h) (i : Nat) {d : FnD} (e : D.fns[i]? = some d := by rfl) :
    ∃ oc od osl doc pm an ct, K.lookup (d.at_ K) = some ⟨oc, od, .func (PySem.W.fnOf d.name d.qual d.params d.body d.scope .none (kwV K (d.at_ K)) doc pm an (cdV K (d.at_ K)) ct), osl⟩ := by
  have e2 : (D.fns.map fun d => fnOb K (d.at_ K))[i]? = (D.fns.map FnD.val)[i]? := by rw [c.fns]
  rw [List.getElem?_map, List.getElem?_map, e] at e2
  exact fn_ok (Option.some.inj e2)
end
end Hd
namespace Hd
open PySem
structure SaysL (l : List Bool) : Prop where
  all : allB l = true
theorem SaysL.b {l : List Bool} (c : SaysL l) (i : Nat) {b : Bool} (e : l[i]? = some b := by rfl) : b = true := allB_get c.all e
theorem SaysL.e {α : Type} [DecidableEq α] {x y : α} {l : List Bool} (c : SaysL l) (i : Nat) (e : l[i]? = some (decide (x = y)) := by rfl) : x = y := of_decide_eq_true (allB_get c.all e)
end Hd

/-! min, max, sorted of one list of ints; index; in -/
namespace SI
open PySem PySem.Spec PyProof.Rows L2
section
variable {X : Cx} {W : WX} {o e : Expr} {es : List Expr} {fo : F D} {fa : F (List D)} {pos : Pos}
/-- the least -/
def lsI : List Int → Option Int
  | [] => none
  | n :: ns => some (ns.foldl min n)
def gsI : List Int → Option Int
  | [] => none
  | n :: ns => some (ns.foldl max n)
/-! index -/
/-! sorted -/
def srI (ns : List Int) : List Int := ns.mergeSort (fun a b => decide (a ≤ b))
end
end SI

/-! tracked dicts whose keys are ints or texts -/
namespace SI
open PySem PySem.Spec PyProof.Rows L2
def keyD : D → Option Key
  | .int i => some (.inl i)
  | .str x => some (.inr x)
  | _ => none
def lkD : List Key → List D → Key → Option D
  | k :: ks, v :: vs, k' => if k = k' then some v else lkD ks vs k'
  | _, _, _ => none
def ptD : List Key → List D → Key → D → List Key × List D
  | k :: ks, v :: vs, k', d => if k = k' then (k :: ks, d :: vs) else ((k :: (ptD ks vs k' d).1), (v :: (ptD ks vs k' d).2))
  | _, _, k', d => ([k'], [d])
def dicOf (s : S) (d : D) : Option (List Key × List D) := match d with
  | .dk ks vs => some (ks, vs)
  | .ref n => match s[n]? with
    | some (.dk ks vs) => some (ks, vs)
    | _ => none
  | _ => none
section
variable {K : PySem.W.Frag} {mu : Mu} {s : S} {H : Hp}
end
def dIn (neg : Bool) (s : S) (a b : D) : Option D := match keyD a, dicOf s b with
  | some k, some (ks, vs) => some (.bl (if neg = true then !(lkD ks vs k).isSome else (lkD ks vs k).isSome))
  | _, _ => none
def dIxD (s : S) (a b : D) : Option D := match dicOf s a, keyD b with
  | some (ks, vs), some k => lkD ks vs k
  | _, _ => none
def dPutD (s : S) (a b d : D) : Option S := match a, keyD b with
  | .ref n, some k => match s[n]? with
    | some (.dk ks vs) => if ks.Nodup ∧ ks.length < big then some (s.set n (.dk (ptD ks vs k d).1 (ptD ks vs k d).2)) else none
    | _ => none
  | _, _ => none
section
variable {X : Cx} {W : WX} {o i e e2 : Expr} {fo fi f g fx : F D} {pos : Pos} {k : Nat}
/-- {} that will be changed -/
def fDictT : F D := fun _ s => .ok (.ref s.length) (s ++ [.dk [] []])
/-- {i: j} that will be changed -/
def fDictI (i j : Int) : F D := fun _ s => .ok (.ref s.length) (s ++ [.dk [.inl i] [.int j]])
/-- d.get(k, x) -/
def fGet (fo fk fx : F D) : F D := fun L s => (fo L s).bind fun d s1 => match dicOf s1 d with
  | some _ => (fk L s1).bind fun a s2 => (fx L s2).bind fun x s3 => match dicOf s3 d, keyD a with
    | some (ks, vs), some k => .ok ((lkD ks vs k).getD x) s3
    | _, _ => .bad
  | none => .bad
/-! list(range(..)) -/
def rg2 (lo b : Int) : Bool := decide (0 ≤ lo ∧ lo ≤ 1000000 ∧ 0 ≤ b ∧ b ≤ 1000000)
def fLrg1 (f : F D) : F D := fun L s => (f L s).bind fun d s1 => match d with
  | .int n => if rg2 0 n = true then .ok (.lst (rgItems 0 n.toNat)) s1 else .bad
  | _ => .bad
def fLrg1T (f : F D) : F D := fun L s => (f L s).bind fun d s1 => match d with
  | .int n => if rg2 0 n = true then .ok (.ref s1.length) (s1 ++ [.lst (rgItems 0 n.toNat)]) else .bad
  | _ => .bad
def fLrg2 (f g : F D) : F D := fun L s => (f L s).bind fun d s1 => (g L s1).bind fun e s2 => match d, e with
  | .int m, .int n => if rg2 m n = true then .ok (.lst (rgItems m (n - m).toNat)) s2 else .bad
  | _, _ => .bad
def fLrg2T (f g : F D) : F D := fun L s => (f L s).bind fun d s1 => (g L s1).bind fun e s2 => match d, e with
  | .int m, .int n => if rg2 m n = true then .ok (.ref s2.length) (s2 ++ [.lst (rgItems m (n - m).toNat)]) else .bad
  | _, _ => .bad
section
variable {a b : Expr} {p p2 : Pos} {pos2 : Pos}
end
/-! pop() -/
def fPop0 (fo : F D) : F D := fun L s => (fo L s).bind fun d s1 => match d with
  | .ref n => match s1[n]? with
    | some (.lst xs) => match xs[xs.length - 1]? with
      | some y => .ok y (s1.set n (.lst xs.dropLast))
      | none => .bad
    | _ => .bad
  | _ => .bad
theorem RelDs.dropLast {K : PySem.W.Frag} {mu : Mu} {H : Hp} {ds : List D} {vs : List V} (r : RelDs K mu H ds vs) : RelDs K mu H ds.dropLast vs.dropLast := by
  rw [List.dropLast_eq_take, List.dropLast_eq_take, r.length]
  exact r.take _
/-! in: a list or tuple of ints -/
end
end SI

/-! list.reverse of a tracked list -/
namespace SI
open PySem PySem.Spec PyProof.Rows L2
section
variable {X : Cx} {W : WX} {o : Expr} {fo : F D} {pos : Pos}
def fRev (fo : F D) : F D := fun L s => (fo L s).bind fun d s1 => match d with
  | .ref n => match s1[n]? with
    | some (.lst xs) => .ok .non (s1.set n (.lst xs.reverse))
    | _ => .bad
  | _ => .bad
theorem RelDs.reverse {K : PySem.W.Frag} {mu : Mu} {H : Hp} : ∀ {ds : List D} {vs : List V}, RelDs K mu H ds vs → RelDs K mu H ds.reverse vs.reverse
  | [], vs, h => by
    simp only [RelDs] at h
    subst h
    exact .nil
  | x :: xs, vs, h => by
    simp only [RelDs] at h
    obtain ⟨w, r, rfl, h1, h2⟩ := h
    rw [List.reverse_cons, List.reverse_cons]
    exact (RelDs.reverse h2).append (.cons h1 .nil)
theorem pE_reverse {apos : Pos} (ho : PE X o (tE X.K W fo)) (hbase : attributeBase o "reverse" X.env (eval o X.env) = eval o X.env := by rfl) (hline : (apos.endLine == pos.line) = true := by rfl) : PE X (.Call (.Attribute o "reverse" apos) [] [] pos) (tE X.K W (fRev fo)) := by
  refine PE.weak (pe_bm0 PySem.F.plainAttrs_list PySem.F.slot_list_reverse PySem.F.type_list_reverse mt_reverse ho hbase hline) fun σ H Q ⟨mu, s, L, m0, l, q⟩ => ?_
  refine ⟨mu, s, L, m0, l, Post.step q fun d s1 mu1 H1 v1 g1 m1 r1 p1 => ?_⟩
  cases d <;> try exact p1.elim
  rename_i n
  dsimp only at p1
  split at p1
  · rename_i xs en
    obtain ⟨a, vs, rfl, ea, eh, rr⟩ := sq_ref m1 r1 en
    refine ⟨.inl ⟨rfl, _, .inl (.inl eh)⟩, a, vs, rfl, rfl, eh, ?_⟩
    exact p1 mu1 _ _ (Ge.put ea) (m1.put ea ⟨_, upd_same, (RelDs.reverse rr).mono (Ge.put ea)⟩) (rel_non.mpr rfl)
  · exact p1.elim
end
end SI

/-! sorted(a list of tuples of data) -/
namespace SI
open PySem PySem.Spec PyProof.Rows L2
def tupNe : PyData → Bool
  | .tuple (_ :: _) => true
  | _ => false
def srtOk (ys : List PyData) : Bool := (ys.all fun y => ys.all fun z => PySem.W.alike y z) && (ys.all tupNe && ys.all fun y => decide (y.depth ≤ 60))
def leD (y z : PyData) : Bool := !PySem.W.dataLt z y
def bSortD (s : S) : List D → Option D
  | [d] => (lstOf s d).bind fun xs => (toPys s xs).bind fun ys => if srtOk ys = true then some (.lst (((xs.zip ys).mergeSort fun p q => leD p.2 q.2).map (·.1))) else none
  | _ => none
def rSortD (K : PySem.W.Frag) : List V → Hp → VK → Prop := fun vs H Q => ∃ (a : Addr) (bs : List (V × PyData)), vs = [.ref a] ∧ SqL K H a (bs.map (·.1)) ∧ (∀ b ∈ bs, Dp K H b.1 b.2) ∧ srtOk (bs.map (·.2)) = true ∧
  ∀ p, H p = none → Q (.ref p) (upd H p (.lst ((bs.mergeSort fun p q => leD p.2 q.2).map (·.1))))
section
variable {X : Cx}
theorem vals_each : ∀ {bs : List (V × PyData)} {us : List Value}, Vals (bs.map (·.1)) us → PySem.W.EachIs (fun u (b : V × PyData) => RelV b.1 u) us bs
  | [], us, r => by
    cases r
    exact .nil
  | b :: bs, us, r => by
    cases r with
    | cons h t => exact .cons h (vals_each t)
theorem each_vals : ∀ {bs : List (V × PyData)} {us : List Value}, PySem.W.EachIs (fun u (b : V × PyData) => RelV b.1 u) us bs → Vals (bs.map (·.1)) us
  | _, _, .nil => .nil
  | _, _, .cons h t => .cons h (each_vals t)
theorem each_reads {pins : List (Addr × Obj)} {σ : L2.St} {H : Hp} {s : Shared} (I : Inv X pins σ H s) : ∀ {bs : List (V × PyData)} {us : List Value}, (∀ b ∈ bs, Dp X.K H b.1 b.2) → PySem.W.EachIs (fun u (b : V × PyData) => RelV b.1 u) us bs → PySem.W.EachIs (fun u (b : V × PyData) => ∃ as, Reads s.heap u b.2 as) us bs
  | _, _, _, .nil => .nil
  | b :: bs, _, h, .cons r t => .cons (Dp.reads I b.2 b.1 _ (h b List.mem_cons_self) r) (each_reads I (fun x hx => h x (List.mem_cons_of_mem _ hx)) t)
theorem call_sortD {k : Nat} (hr : Room k X.A) : CallR X (.builtin "sorted") (rSortD X.K) := by
  intro pins s σ H vs us Q I r h
  obtain ⟨a, bs, rfl, sq, hd, hk, q⟩ := h
  obtain rfl := Vals.ref1 r
  obtain ⟨its, rits, pl, hz⟩ := I.list sq
  unfold srtOk at hk
  rw [Bool.and_eq_true, Bool.and_eq_true] at hk
  obtain ⟨h1, h2, h3⟩ := hk
  have e := vals_each rits
  have un := hr.un
  refine PySem.W.sorted_data (enc := fun b : V × PyData => b.2) pl.isList e (each_reads I hd e) ?_ ?_ ?_ ?_ ?_
  · intro d hd d' hd'
    exact List.all_eq_true.mp (List.all_eq_true.mp h1 d hd) d' hd'
  · refine .inl fun d hd => ?_
    have := List.all_eq_true.mp h2 d hd
    unfold tupNe at this
    split at this
    · exact ⟨_, _, rfl⟩
    · cases this
  · rw [List.length_map] at hz
    exact hz
  · intro b hb
    have := List.all_eq_true.mp h3 b.2 (List.mem_map.mpr ⟨b, hb, rfl⟩)
    have := of_decide_eq_true this
    show X.A.units + 2 + b.2.depth < cLine
    omega
  · intro out hl he
    have hn : H (s.heap.objs.size + 1) = none := I.hok.fresh (Nat.le_succ _)
    have hv := each_vals he
    obtain ⟨ep, he'⟩ := PyProof.Rows.sortedAll_at s.heap its out.toArray
    have hl2 : ((bs.mergeSort (PySem.W.dataLe false fun b : V × PyData => b.2)).map (·.1)).length ≤ sizeLine := by
      rw [hv.length, hl]
      rw [List.length_map] at hz
      exact hz
    exact ⟨.ref _, upd H (s.heap.objs.size + 1) (.lst ((bs.mergeSort (PySem.W.dataLe false fun b : V × PyData => b.2)).map (·.1))), I.laid (t' := s.toks) (fun _ _ => PyProof.Rows.sortedAll_old) (Nat.le_succ _) ⟨hl2, out, ep, hv, he'⟩, rfl, q _ hn⟩
end
theorem rel_maps {K : PySem.W.Frag} {mu : Mu} {H : Hp} {α : Type} {f : α → D} {g : α → V} : ∀ {ts : List α}, (∀ t ∈ ts, RelD K mu H (f t) (g t)) → RelDs K mu H (ts.map f) (ts.map g)
  | [], _ => .nil
  | t :: ts, h => .cons (h t List.mem_cons_self) (rel_maps fun x hx => h x (List.mem_cons_of_mem _ hx))
/-- data, values, readings side by side -/
theorem three_of {K : PySem.W.Frag} {mu : Mu} {H : Hp} : ∀ {xs : List D} {vs : List V} {ys : List PyData}, RelDs K mu H xs vs → DpAll K H vs ys → ∃ ts : List (D × V × PyData), xs = ts.map (·.1) ∧ vs = ts.map (·.2.1) ∧ ys = ts.map (·.2.2) ∧ ∀ t ∈ ts, RelD K mu H t.1 t.2.1 ∧ Dp K H t.2.1 t.2.2
  | [], vs, ys, r, h => by
    simp only [RelDs] at r
    subst r
    cases h
    exact ⟨[], rfl, rfl, rfl, fun t ht => nomatch ht⟩
  | x :: xs, vs, ys, r, h => by
    simp only [RelDs] at r
    obtain ⟨v, vr, rfl, r1, r2⟩ := r
    cases h with
    | cons h1 h2 =>
      obtain ⟨ts, e1, e2, e3, e4⟩ := three_of r2 h2
      refine ⟨(x, v, _) :: ts, by rw [e1]; rfl, by rw [e2]; rfl, by rw [e3]; rfl, fun t ht => ?_⟩
      rcases List.mem_cons.mp ht with rfl | ht
      · exact ⟨r1, h1⟩
      · exact e4 t ht
theorem zip_maps {α β γ : Type} (f : α → β) (g : α → γ) : ∀ ts : List α, (ts.map f).zip (ts.map g) = ts.map fun t => (f t, g t)
  | [] => rfl
  | t :: ts => by
    show (f t, g t) :: (ts.map f).zip (ts.map g) = _
    rw [zip_maps f g ts]
    rfl
theorem cbl_sortD {K : PySem.W.Frag} : CbL K (rSortD K) bSortD := by
  intro mu s H ds d vs Q m r e q
  rcases ds with _ | ⟨d1, _ | ⟨d2, ds⟩⟩
  · cases e
  · obtain ⟨v, rfl, r1⟩ := rel1 r
    obtain ⟨xs, e2, e3⟩ := Option.bind_eq_some_iff.mp e
    obtain ⟨ys, e4, e5⟩ := Option.bind_eq_some_iff.mp e3
    split at e5
    · rename_i hk
      cases e5
      obtain ⟨a, ws, rfl, h2, h3⟩ := sq_lstOf m r1 e2
      obtain ⟨ts, t1, t2, t3, t4⟩ := three_of h3 (dps_of xs ws ys h3 e4)
      refine ⟨a, ts.map fun t => (t.2.1, t.2.2), rfl, ?_, fun b hb => ?_, ?_, fun p hn => ?_⟩
      · rw [List.map_map]
        rw [t2] at h2
        exact h2
      · obtain ⟨t, ht, rfl⟩ := List.mem_map.mp hb
        exact (t4 t ht).2
      · rw [List.map_map]
        rw [t3] at hk
        exact hk
      · have e6 : ((xs.zip ys).mergeSort fun p q => leD p.2 q.2).map (·.1) = (ts.mergeSort fun p q => leD p.2.2 q.2.2).map (·.1) := by
          rw [t1, t3, zip_maps, ← List.map_mergeSort (r := fun p q : D × V × PyData => leD p.2.2 q.2.2) (f := fun t : D × V × PyData => (t.1, t.2.2)) (fun a _ b _ => rfl), List.map_map]
          rfl
        have e7 : ((ts.map fun t => (t.2.1, t.2.2)).mergeSort fun p q => leD p.2 q.2).map (·.1) = (ts.mergeSort fun p q => leD p.2.2 q.2.2).map (·.2.1) := by
          rw [← List.map_mergeSort (r := fun p q : D × V × PyData => leD p.2.2 q.2.2) (f := fun t : D × V × PyData => (t.2.1, t.2.2)) (fun a _ b _ => rfl), List.map_map]
          rfl
        rw [e7]
        refine q mu _ _ (Ge.pure m hn) (m.pure hn) ?_
        rw [e6]
        exact rel_lst m hn (rel_maps fun t ht => (t4 t ((List.mergeSort_perm ts _).mem_iff.mp ht)).1)
    · cases e5
  · cases e
theorem pE_sortD {X : Cx} {W : WX} {e : Expr} {fa : F (List D)} {k : Nat} {p pos : Pos} (hr : Room k X.A) (hm : X.mg "sorted" = none) (ha : PA X [e] (tA X.K W fa)) (hg : Gl X "sorted" := by rfl) (he : starEach [e] X.env = (false, eval e X.env) :: starEach [] X.env := by rfl) :
    PE X (.Call (.Name "sorted" p) [e] [] pos) (tE X.K W (fCB bSortD fa)) := pE_cb (call_sortD hr) cbl_sortD hm (by decide +kernel) ha hg (by decide) (by decide) he rfl
/-! tuples of ints -/
theorem leD_ints (xs ys : List Int) : leD (.tuple (xs.map .int)) (.tuple (ys.map .int)) = decide (xs ≤ ys) := by
  unfold leD
  rw [PySem.W.dataLt_tuple]
  have := PySem.W.dataLt_ints ys xs
  unfold PySem.W.rowLt at this
  rw [this]
  by_cases h : ys < xs
  · have h2 : ¬ xs ≤ ys := List.not_le.mpr h
    simp [h, h2]
  · have h2 : xs ≤ ys := List.not_lt.mp h
    simp [h, h2]
theorem toPys_ints (s : S) : ∀ xs : List Int, toPys s (xs.map D.int) = some (xs.map PyData.int)
  | [] => rfl
  | x :: xs => by
    show (match toPy s (.int x), toPys s (xs.map D.int) with
      | some y, some ys => some (y :: ys)
      | _, _ => none) = _
    rw [toPys_ints s xs]
    rfl
theorem toPys_tups {α : Type} (s : S) (k : α → List Int) : ∀ bs : List α, toPys s (bs.map fun b => D.tup ((k b).map D.int)) = some (bs.map fun b => PyData.tuple ((k b).map PyData.int))
  | [] => rfl
  | b :: bs => by
    show (match toPy s (.tup ((k b).map D.int)), toPys s (bs.map fun b => D.tup ((k b).map D.int)) with
      | some y, some ys => some (y :: ys)
      | _, _ => none) = _
    rw [toPys_tups s k bs, show toPy s (.tup ((k b).map D.int)) = some (.tuple ((k b).map .int)) by
      show (toPys s ((k b).map D.int)).map PyData.tuple = _
      rw [toPys_ints]
      rfl]
    rfl
theorem srt_ints {α : Type} {k : α → List Int} {bs : List α} (h : ∀ b ∈ bs, k b ≠ []) : srtOk (bs.map fun b => PyData.tuple ((k b).map PyData.int)) = true := by
  unfold srtOk
  rw [Bool.and_eq_true, Bool.and_eq_true]
  refine ⟨?_, ?_, ?_⟩
  · rw [List.all_eq_true]
    intro y hy
    rw [List.all_eq_true]
    intro z hz
    obtain ⟨b, _, rfl⟩ := List.mem_map.mp hy
    obtain ⟨b', _, rfl⟩ := List.mem_map.mp hz
    show PySem.W.alikeAll _ _ = true
    exact PySem.W.alike_ints _ _
  · rw [List.all_eq_true]
    intro y hy
    obtain ⟨b, hb, rfl⟩ := List.mem_map.mp hy
    cases e : k b with
    | nil => exact absurd e (h b hb)
    | cons x xs => rfl
  · rw [List.all_eq_true]
    intro y hy
    obtain ⟨b, hb, rfl⟩ := List.mem_map.mp hy
    have := PySem.W.depth_ints (k b)
    rw [decide_eq_true_eq]
    simp only [PyData.depth, this]
    omega
theorem sortD_ints {α : Type} {s : S} {d : D} {k : α → List Int} {bs : List α} (hd : lstOf s d = some (bs.map fun b => D.tup ((k b).map D.int))) (h : ∀ b ∈ bs, k b ≠ []) :
    bSortD s [d] = some (.lst ((bs.mergeSort fun a b => decide (k a ≤ k b)).map fun b => D.tup ((k b).map D.int))) := by
  show ((lstOf s d).bind fun xs => (toPys s xs).bind fun ys => if srtOk ys = true then some (D.lst (((xs.zip ys).mergeSort fun p q => leD p.2 q.2).map (·.1))) else none) = _
  rw [hd, Option.bind_some, toPys_tups, Option.bind_some, if_pos (srt_ints h), zip_maps]
  rw [← List.map_mergeSort (r := fun a b => decide (k a ≤ k b)) (f := fun b : α => (D.tup ((k b).map D.int), PyData.tuple ((k b).map PyData.int))) (fun a _ b _ => (leD_ints (k a) (k b)).symm), List.map_map]
  rfl
end SI

namespace Lw
open PySem PySem.Spec PyProof.Rows L2 SI
def topS (i : Nat) : Stmt := PySem.Challenge.pw_tellontree_k61_bands_by_all_crossings.main.body.getD i (.Pass ⟨0, 0, 0, 0⟩)
abbrev s_is_integer : Stmt := (topS 4)
abbrev s_between : Stmt := (topS 5)
abbrev s_checked_count : Stmt := (topS 6)
abbrev s_names_of_pair : Stmt := (topS 10)
abbrev s_pair_at : Stmt := (topS 11)
abbrev s_common_divisor : Stmt := (topS 12)
abbrev s_crossings : Stmt := (topS 13)
abbrev s_between_ratios : Stmt := (topS 14)
abbrev s_checked_bands : Stmt := (topS 15)
abbrev s_bands : Stmt := (topS 16)
abbrev s__law_source : Stmt := (topS 18)
abbrev s__law_draw : Stmt := (topS 19)
abbrev s__law_integer : Stmt := (topS 20)
abbrev s__law_same : Stmt := (topS 21)
abbrev s__law_divisor : Stmt := (topS 22)
abbrev s__law_ways : Stmt := (topS 23)
abbrev s__law_pair : Stmt := (topS 24)
abbrev s__law_ends : Stmt := (topS 25)
abbrev s__law_bands : Stmt := (topS 26)
abbrev s_law : Stmt := (topS 27)
def zCInvalidCount (K : PySem.W.Frag) : Addr := Hd.ga K "InvalidCount"
def zCTellError (K : PySem.W.Frag) : Addr := Hd.ga K "TellError"
def zf0 (K : PySem.W.Frag) : Addr := Hd.ga K "is_integer"
def zf1 (K : PySem.W.Frag) : Addr := Hd.ga K "between"
def zf10 (K : PySem.W.Frag) : Addr := Hd.ga K "_law_source"
def zf11 (K : PySem.W.Frag) : Addr := Hd.ga K "_law_draw"
def zf12 (K : PySem.W.Frag) : Addr := Hd.ga K "_law_integer"
def zf13 (K : PySem.W.Frag) : Addr := Hd.ga K "_law_same"
def zf14 (K : PySem.W.Frag) : Addr := Hd.ga K "_law_divisor"
def zf15 (K : PySem.W.Frag) : Addr := Hd.ga K "_law_ways"
def zf16 (K : PySem.W.Frag) : Addr := Hd.ga K "_law_pair"
def zf17 (K : PySem.W.Frag) : Addr := Hd.ga K "_law_ends"
def zf18 (K : PySem.W.Frag) : Addr := Hd.ga K "_law_bands"
def zf19 (K : PySem.W.Frag) : Addr := Hd.ga K "law"
def zf2 (K : PySem.W.Frag) : Addr := Hd.ga K "checked_count"
def zf3 (K : PySem.W.Frag) : Addr := Hd.ga K "names_of_pair"
def zf4 (K : PySem.W.Frag) : Addr := Hd.ga K "pair_at"
def zf5 (K : PySem.W.Frag) : Addr := Hd.ga K "common_divisor"
def zf6 (K : PySem.W.Frag) : Addr := Hd.ga K "crossings"
def zf7 (K : PySem.W.Frag) : Addr := Hd.ga K "between_ratios"
def zf8 (K : PySem.W.Frag) : Addr := Hd.ga K "checked_bands"
def zf9 (K : PySem.W.Frag) : Addr := Hd.ga K "bands"
def zlc_crossings (K : PySem.W.Frag) : Addr := Hd.rfV (Hd.cdV K (zf6 K))
def zcd0 (K : PySem.W.Frag) : Value := Hd.cdV K (zf0 K)
def zcd1 (K : PySem.W.Frag) : Value := Hd.cdV K (zf1 K)
def zcd10 (K : PySem.W.Frag) : Value := Hd.cdV K (zf10 K)
def zcd11 (K : PySem.W.Frag) : Value := Hd.cdV K (zf11 K)
def zcd12 (K : PySem.W.Frag) : Value := Hd.cdV K (zf12 K)
def zcd13 (K : PySem.W.Frag) : Value := Hd.cdV K (zf13 K)
def zcd14 (K : PySem.W.Frag) : Value := Hd.cdV K (zf14 K)
def zcd15 (K : PySem.W.Frag) : Value := Hd.cdV K (zf15 K)
def zcd16 (K : PySem.W.Frag) : Value := Hd.cdV K (zf16 K)
def zcd17 (K : PySem.W.Frag) : Value := Hd.cdV K (zf17 K)
def zcd18 (K : PySem.W.Frag) : Value := Hd.cdV K (zf18 K)
def zcd19 (K : PySem.W.Frag) : Value := Hd.cdV K (zf19 K)
def zcd2 (K : PySem.W.Frag) : Value := Hd.cdV K (zf2 K)
def zcd3 (K : PySem.W.Frag) : Value := Hd.cdV K (zf3 K)
def zcd4 (K : PySem.W.Frag) : Value := Hd.cdV K (zf4 K)
def zcd5 (K : PySem.W.Frag) : Value := Hd.cdV K (zf5 K)
def zcd6 (K : PySem.W.Frag) : Value := Hd.cdV K (zf6 K)
def zcd7 (K : PySem.W.Frag) : Value := Hd.cdV K (zf7 K)
def zcd8 (K : PySem.W.Frag) : Value := Hd.cdV K (zf8 K)
def zcd9 (K : PySem.W.Frag) : Value := Hd.cdV K (zf9 K)
def zlp_crossings (K : PySem.W.Frag) : Addr := Hd.rfV ((Hd.fdsA K (zlc_crossings K)).toList.getD 11 .none)
def ztk_FINE (K : PySem.W.Frag) : Tok := Hd.tkA K "FINE"
def ztk_MOST_HANDS (K : PySem.W.Frag) : Tok := Hd.tkA K "MOST_HANDS"
abbrev R0 : PySem.W.OpenRow := PySem.W.OpenLaw.row PySem.Challenge.rw_tellontree_k61_bands_by_all_crossings
def dk0 : Hd.FnD := ⟨zf0, "is_integer", "is_integer", defArgs s_is_integer, defBody s_is_integer, defScope s_is_integer⟩
def dk1 : Hd.FnD := ⟨zf1, "between", "between", defArgs s_between, defBody s_between, defScope s_between⟩
def dk2 : Hd.FnD := ⟨zf2, "checked_count", "checked_count", defArgs s_checked_count, defBody s_checked_count, defScope s_checked_count⟩
def dk3 : Hd.FnD := ⟨zf3, "names_of_pair", "names_of_pair", defArgs s_names_of_pair, defBody s_names_of_pair, defScope s_names_of_pair⟩
def dk4 : Hd.FnD := ⟨zf4, "pair_at", "pair_at", defArgs s_pair_at, defBody s_pair_at, defScope s_pair_at⟩
def dk5 : Hd.FnD := ⟨zf5, "common_divisor", "common_divisor", defArgs s_common_divisor, defBody s_common_divisor, defScope s_common_divisor⟩
def dk6 : Hd.FnD := ⟨zf6, "crossings", "crossings", defArgs s_crossings, defBody s_crossings, defScope s_crossings⟩
def dk7 : Hd.FnD := ⟨zf7, "between_ratios", "between_ratios", defArgs s_between_ratios, defBody s_between_ratios, defScope s_between_ratios⟩
def dk8 : Hd.FnD := ⟨zf8, "checked_bands", "checked_bands", defArgs s_checked_bands, defBody s_checked_bands, defScope s_checked_bands⟩
def dk9 : Hd.FnD := ⟨zf9, "bands", "bands", defArgs s_bands, defBody s_bands, defScope s_bands⟩
def dk10 : Hd.FnD := ⟨zf10, "_law_source", "_law_source", defArgs s__law_source, defBody s__law_source, defScope s__law_source⟩
def dk11 : Hd.FnD := ⟨zf11, "_law_draw", "_law_draw", defArgs s__law_draw, defBody s__law_draw, defScope s__law_draw⟩
def dk12 : Hd.FnD := ⟨zf12, "_law_integer", "_law_integer", defArgs s__law_integer, defBody s__law_integer, defScope s__law_integer⟩
def dk13 : Hd.FnD := ⟨zf13, "_law_same", "_law_same", defArgs s__law_same, defBody s__law_same, defScope s__law_same⟩
def dk14 : Hd.FnD := ⟨zf14, "_law_divisor", "_law_divisor", defArgs s__law_divisor, defBody s__law_divisor, defScope s__law_divisor⟩
def dk15 : Hd.FnD := ⟨zf15, "_law_ways", "_law_ways", defArgs s__law_ways, defBody s__law_ways, defScope s__law_ways⟩
def dk16 : Hd.FnD := ⟨zf16, "_law_pair", "_law_pair", defArgs s__law_pair, defBody s__law_pair, defScope s__law_pair⟩
def dk17 : Hd.FnD := ⟨zf17, "_law_ends", "_law_ends", defArgs s__law_ends, defBody s__law_ends, defScope s__law_ends⟩
def dk18 : Hd.FnD := ⟨zf18, "_law_bands", "_law_bands", defArgs s__law_bands, defBody s__law_bands, defScope s__law_bands⟩
def dk19 : Hd.FnD := ⟨zf19, "law", "law", defArgs s_law, defBody s_law, defScope s_law⟩
def chk0 (K : PySem.W.Frag) : List Bool := [decide (PySem.W.nsIn K mainGlobals "InvalidCount" = some (some (.ref (zCInvalidCount K)))),
  decide (PySem.W.nsIn K mainGlobals "TellError" = some (some (.ref (zCTellError K)))),
  decide (PySem.W.nsIn K mainGlobals "is_integer" = some (some (.ref (zf0 K)))),
  PySem.W.codeIn K (zcd0 K) "is_integer",
  PySem.W.keepIn K (.ref (zf0 K)),
  decide (PySem.W.nsIn K mainGlobals "between" = some (some (.ref (zf1 K)))),
  PySem.W.codeIn K (zcd1 K) "between",
  PySem.W.keepIn K (.ref (zf1 K)),
  decide (PySem.W.nsIn K mainGlobals "checked_count" = some (some (.ref (zf2 K)))),
  PySem.W.codeIn K (zcd2 K) "checked_count",
  PySem.W.keepIn K (.ref (zf2 K)),
  decide (PySem.W.nsIn K mainGlobals "names_of_pair" = some (some (.ref (zf3 K)))),
  PySem.W.codeIn K (zcd3 K) "names_of_pair",
  PySem.W.keepIn K (.ref (zf3 K)),
  decide (PySem.W.nsIn K mainGlobals "pair_at" = some (some (.ref (zf4 K)))),
  PySem.W.codeIn K (zcd4 K) "pair_at",
  PySem.W.keepIn K (.ref (zf4 K)),
  decide (PySem.W.nsIn K mainGlobals "common_divisor" = some (some (.ref (zf5 K)))),
  PySem.W.codeIn K (zcd5 K) "common_divisor",
  PySem.W.keepIn K (.ref (zf5 K)),
  decide (PySem.W.nsIn K mainGlobals "crossings" = some (some (.ref (zf6 K)))),
  decide (Hd.cdV K (zf6 K) = .ref (zlc_crossings K)),
  PySem.W.codeIn K (.ref (zlc_crossings K)) "crossings",
  Hd.isCd K (zlc_crossings K) (zlp_crossings K) "crossings",
  PySem.W.codeHdIn K (zlc_crossings K) (zlp_crossings K)]
def chk1 (K : PySem.W.Frag) : List Bool := [tabU K (zlp_crossings K) "crossings",
  (K.lookup (zlp_crossings K)).isNone,
  PySem.W.keepIn K (.ref (zf6 K)),
  decide (PySem.W.nsIn K mainGlobals "between_ratios" = some (some (.ref (zf7 K)))),
  PySem.W.codeIn K (zcd7 K) "between_ratios",
  PySem.W.keepIn K (.ref (zf7 K)),
  decide (PySem.W.nsIn K mainGlobals "checked_bands" = some (some (.ref (zf8 K)))),
  PySem.W.codeIn K (zcd8 K) "checked_bands",
  PySem.W.keepIn K (.ref (zf8 K)),
  decide (PySem.W.nsIn K mainGlobals "bands" = some (some (.ref (zf9 K)))),
  PySem.W.codeIn K (zcd9 K) "bands",
  PySem.W.keepIn K (.ref (zf9 K)),
  decide (PySem.W.nsIn K mainGlobals "_law_source" = some (some (.ref (zf10 K)))),
  PySem.W.codeIn K (zcd10 K) "_law_source",
  PySem.W.keepIn K (.ref (zf10 K)),
  decide (PySem.W.nsIn K mainGlobals "_law_draw" = some (some (.ref (zf11 K)))),
  PySem.W.codeIn K (zcd11 K) "_law_draw",
  PySem.W.keepIn K (.ref (zf11 K)),
  decide (PySem.W.nsIn K mainGlobals "_law_integer" = some (some (.ref (zf12 K)))),
  PySem.W.codeIn K (zcd12 K) "_law_integer",
  PySem.W.keepIn K (.ref (zf12 K)),
  decide (PySem.W.nsIn K mainGlobals "_law_same" = some (some (.ref (zf13 K)))),
  PySem.W.codeIn K (zcd13 K) "_law_same",
  PySem.W.keepIn K (.ref (zf13 K)),
  decide (PySem.W.nsIn K mainGlobals "_law_divisor" = some (some (.ref (zf14 K))))]
def chk2 (K : PySem.W.Frag) : List Bool := [PySem.W.codeIn K (zcd14 K) "_law_divisor",
  PySem.W.keepIn K (.ref (zf14 K)),
  decide (PySem.W.nsIn K mainGlobals "_law_ways" = some (some (.ref (zf15 K)))),
  PySem.W.codeIn K (zcd15 K) "_law_ways",
  PySem.W.keepIn K (.ref (zf15 K)),
  decide (PySem.W.nsIn K mainGlobals "_law_pair" = some (some (.ref (zf16 K)))),
  PySem.W.codeIn K (zcd16 K) "_law_pair",
  PySem.W.keepIn K (.ref (zf16 K)),
  decide (PySem.W.nsIn K mainGlobals "_law_ends" = some (some (.ref (zf17 K)))),
  PySem.W.codeIn K (zcd17 K) "_law_ends",
  PySem.W.keepIn K (.ref (zf17 K)),
  decide (PySem.W.nsIn K mainGlobals "_law_bands" = some (some (.ref (zf18 K)))),
  PySem.W.codeIn K (zcd18 K) "_law_bands",
  PySem.W.keepIn K (.ref (zf18 K)),
  decide (PySem.W.nsIn K mainGlobals "law" = some (some (.ref (zf19 K)))),
  PySem.W.codeIn K (zcd19 K) "law",
  PySem.W.keepIn K (.ref (zf19 K)),
  decide (PySem.W.nsIn K mainGlobals "abs" = some none),
  decide (PySem.W.nsIn K mainGlobals "bool" = some none),
  decide (PySem.W.nsIn K mainGlobals "int" = some none),
  decide (PySem.W.nsIn K mainGlobals "isinstance" = some none),
  decide (PySem.W.nsIn K mainGlobals "len" = some none),
  decide (PySem.W.nsIn K mainGlobals "list" = some none),
  decide (PySem.W.nsIn K mainGlobals "min" = some none),
  decide (PySem.W.nsIn K mainGlobals "range" = some none)]
def chk3 (K : PySem.W.Frag) : List Bool := [decide (PySem.W.nsIn K mainGlobals "sorted" = some none),
  decide (PySem.W.nsIn K mainGlobals "str" = some none),
  decide (PySem.W.nsIn K mainGlobals "tuple" = some none),
  decide (PySem.W.nsIn K mainGlobals "FINE" = some (some (.int 10000 (ztk_FINE K)))),
  decide (PySem.W.nsIn K mainGlobals "MOST_HANDS" = some (some (.int 20 (ztk_MOST_HANDS K)))),
  PySem.W.hasDictIn K (zCInvalidCount K),
  decide (PySem.W.subIn K (.ref (zCInvalidCount K)) (.type "BaseException") = some true),
  decide (PySem.W.typeIn K (.ref (zCInvalidCount K)) = some (.type "type")),
  PySem.W.keepIn K (.ref (zCInvalidCount K)),
  PySem.W.excIn K (zCInvalidCount K) exTail "Exception.__new__",
  tabsIn K [(zlp_crossings K)]]
def dat : Hd.Dat := ⟨[dk0, dk1, dk2, dk3, dk4, dk5, dk6, dk7, dk8, dk9, dk10, dk11, dk12, dk13, dk14, dk15, dk16, dk17, dk18, dk19], fun K => [Hd.allB (chk0 K), Hd.allB (chk1 K), Hd.allB (chk2 K), Hd.allB (chk3 K)], fun K => [zlp_crossings K], ["by_start"]⟩
def nmL0 : List PySem.Str := ["__name__", "TellError", "InvalidCount", "is_integer", "between", "checked_count", "MOST_HANDS", "FINE", "names_of_pair", "pair_at", "common_divisor", "crossings", "between_ratios", "checked_bands", "bands", "_law_source", "_law_draw", "_law_integer", "_law_same", "_law_divisor"]
def nmL1 : List PySem.Str := ["_law_ways", "_law_pair", "_law_ends", "_law_bands"]
def nmL : List PySem.Str := nmL0 ++ nmL1
set_option maxHeartbeats 0 in
theorem head_run (w : World) : HandSHeadRun.RunEq R0 (PySem.W.view R0.prog [27]) (Hd.hook 0 4000 dat) (Hd.ob 0 4000 dat) 40000 nmL w := by
  intro os
  kernel_rfl
end Lw

/-! several except clauses, with and without a name -/
namespace SI
open PySem PySem.Spec PyProof.Rows L2
/-- a clause: the class, the place of its name, its suite -/
abbrev Cla := Value × Option Nat × (Addr → Value → Option Addr → TS)
inductive HdX (X : Cx) : List ExceptHandler → List Cla → Prop
  | nil : HdX X [] []
  | cons {x : Str} {c : Value} {ts : Addr → Value → Option Addr → TS} {b0 : Stmt} {su : List Stmt} {q1 q2 : Pos} {hs : List ExceptHandler} {l : List Cla} (nm : Names X x c)
      (go : ∀ (a : Addr) (oe : Obj) (k : Value) (d : Option Addr) (pn : List (Addr × Obj)), Zc k d oe → (∃ vs, oe.data = .fields vs) → PSs (X.suite a ((a, oe) :: pn)) (b0 :: su) (ts a k d)) (r : HdX X hs l) :
      HdX X (.ExceptHandler (some (.Name x q1)) none (b0 :: su) q2 :: hs) ((c, none, ts) :: l)
  | consAs {x n : Str} {i : Nat} {c : Value} {ts : Addr → Value → Option Addr → TS} {b0 : Stmt} {su : List Stmt} {q1 q2 : Pos} {hs : List ExceptHandler} {l : List Cla} (nm : Names X x c) (nd : X.N.Nodup) (hi : X.N[i]? = some n) (hk : X.env.kindOf n = some .local)
      (go : ∀ (a : Addr) (oe : Obj) (k : Value) (d : Option Addr) (pn : List (Addr × Obj)), Zc k d oe → (∃ vs, oe.data = .fields vs) → PSs (X.suite a ((a, oe) :: pn)) (b0 :: su) (ts a k d)) (r : HdX X hs l) :
      HdX X (.ExceptHandler (some (.Name x q1)) (some n) (b0 :: su) q2 :: hs) ((c, some i, ts) :: l)
section
variable {X : Cx} {body : List Stmt} {hd0 : ExceptHandler} {hds : List ExceptHandler} {l : List Cla} {pos : Pos} {tb : WX → TS} {Wo : WX}
end
/-! ### at the data level -/
abbrev Cld := List (Addr × Bool) × Option Nat × (Addr → Addr → Option Addr → FS)
noncomputable def tryM : List Cld → Addr → List Str → List D → Lc → S → RS
  | [], C, fs, vs, L, s => .ex C fs vs L s
  | (sel, none, h) :: r, C, fs, vs, L, s => match selOf sel C with
    | some true => hAll fun a od => (h a C od L s).calm
    | some false => tryM r C fs vs L s
    | none => .bad
  | (sel, some i, h) :: r, C, fs, vs, L, s => match selOf sel C with
    | some true => hAll fun a od => (h a C od (L.set i (some (.exc a C od fs vs))) s).drop i
    | some false => tryM r C fs vs L s
    | none => .bad
noncomputable def sTryM (hs : List Cld) (b : FS) : FS := fun L s => match b L s with
  | .ex C fs vs L1 s1 => tryM hs C fs vs L1 s1
  | r => r
section
variable {X : Cx} {W : WX} {pos : Pos}
inductive HdD (X : Cx) : List ExceptHandler → List Cld → Prop
  | nil : HdD X [] []
  | cons {x : Str} {Ca : Addr} {sel : List (Addr × Bool)} {fh : Addr → Addr → Option Addr → FS} {b0 : Stmt} {su : List Stmt} {q1 q2 : Pos} {hs : List ExceptHandler} {l : List Cld} (hm : X.mg x = some (.ref Ca)) (hsel : ∀ p ∈ sel, PySem.W.exmOne X.K (.ref p.1) (.ref Ca) = some p.2)
      (go : ∀ (a : Addr) (oe : Obj) (C : Addr) (d : Option Addr) (pn : List (Addr × Obj)), Zc (.ref C) d oe → (∃ vs, oe.data = .fields vs) → PSs (X.suite a ((a, oe) :: pn)) (b0 :: su) (tS X.K (fun _ _ _ _ => False) (fh a C d))) (r : HdD X hs l)
      (hg : Gl X x := by rfl) (hdb : (x == ("__debug__" : Str)) = false := by decide) :
      HdD X (.ExceptHandler (some (.Name x q1)) none (b0 :: su) q2 :: hs) ((sel, none, fh) :: l)
  | consAs {x n : Str} {i : Nat} {Ca : Addr} {sel : List (Addr × Bool)} {fh : Addr → Addr → Option Addr → FS} {b0 : Stmt} {su : List Stmt} {q1 q2 : Pos} {hs : List ExceptHandler} {l : List Cld} (nd : X.N.Nodup) (hm : X.mg x = some (.ref Ca)) (hsel : ∀ p ∈ sel, PySem.W.exmOne X.K (.ref p.1) (.ref Ca) = some p.2)
      (go : ∀ (a : Addr) (oe : Obj) (C : Addr) (d : Option Addr) (pn : List (Addr × Obj)), Zc (.ref C) d oe → (∃ vs, oe.data = .fields vs) → PSs (X.suite a ((a, oe) :: pn)) (b0 :: su) (tS X.K (fun _ _ _ _ => False) (fh a C d))) (r : HdD X hs l)
      (hi : X.N[i]? = some n := by rfl) (hk : X.env.kindOf n = some .local := by rfl) (hg : Gl X x := by rfl) (hdb : (x == ("__debug__" : Str)) = false := by decide) :
      HdD X (.ExceptHandler (some (.Name x q1)) (some n) (b0 :: su) q2 :: hs) ((sel, some i, fh) :: l)
end
end SI

/-! range(i, j, -1) -/
namespace SI
open PySem PySem.Spec PyProof.Rows L2
section
variable {X : Cx} {W : WX} {fa : F (List D)} {pos : Pos}
end
end SI

/-! tuples (int, int, tuple of ints) by their order -/
namespace SI
open PySem PySem.Spec PyProof.Rows L2
section
variable {A : Around} {s : Shared}
end
section
variable {X : Cx} {W : WX} {a b : Expr} {f g : F D} {pos : Pos} {k : Nat}
end
end SI

/-! slices and sums of lists that will be changed -/
namespace SI
open PySem PySem.Spec PyProof.Rows L2
section
variable {X : Cx} {W : WX} {a b e : Expr} {f g : F D} {pos : Pos}
def fSlT (f : F D) (l h : F (Option Int)) : F D := fun L s => (f L s).bind fun d s1 => (l L s1).bind fun lo s2 => (h L s2).bind fun hi s3 => match lstOf s3 d with
  | some xs => .ok (.ref s3.length) (s3 ++ [.lst (cutD xs lo hi)])
  | none => .bad
/-- a list that is no constant of the text -/
def lsO (s : S) : D → Option (List D)
  | .lst xs => some xs
  | .ref n => match s[n]? with
    | some (.lst xs) => some xs
    | _ => none
  | _ => none
def fAddT (f g : F D) : F D := fun L s => (f L s).bind fun a s1 => (g L s1).bind fun b s2 => match lsO s2 a, lsO s2 b with
  | some xs, some ys => if xs.length + ys.length ≤ big then .ok (.ref s2.length) (s2 ++ [.lst (xs ++ ys)]) else .bad
  | _, _ => .bad
end
end SI

/-! names set side by side; setdefault; a dict of one entry -/
namespace SI
open PySem PySem.Spec PyProof.Rows L2
def sPar2 (i j : Nat) (fa : F (List D)) : FS := fun L s => (fa L s).bindS L fun ds s1 => match ds with
  | [v, w] => .nx ((L.set i (some v)).set j (some w)) s1
  | _ => .bad
def sPar3 (i j k : Nat) (fa : F (List D)) : FS := fun L s => (fa L s).bindS L fun ds s1 => match ds with
  | [u, v, w] => .nx (((L.set i (some u)).set j (some v)).set k (some w)) s1
  | _ => .bad
section
variable {X : Cx} {W : WX} {a b d o e e2 : Expr} {fa : F (List D)} {fo fk fx f : F D} {pos : Pos} {k : Nat}
theorem two_rel {K : PySem.W.Frag} {mu : Mu} {H : Hp} {d1 d2 : D} {vs : List V} (h : RelDs K mu H [d1, d2] vs) : ∃ v w, vs = [v, w] ∧ RelD K mu H d1 v ∧ RelD K mu H d2 w := by
  simp only [RelDs] at h
  obtain ⟨v, r, rfl, h1, w, r2, rfl, h2, rfl⟩ := h
  exact ⟨v, w, rfl, h1, h2⟩
theorem pS_par2 {i j : Nat} {x y : Str} {px py pt : Pos} {kt k2 pt2} (hc : X.calm = true) (hN : X.N.Nodup) (ha : PA X [a, b] (tA X.K W fa)) (hij : i ≠ j := by decide) (hi : X.N[i]? = some x := by rfl) (hj : X.N[j]? = some y := by rfl)
    (hx : X.env.scope.names.lookup x = some .local := by rfl) (hy : X.env.scope.names.lookup y = some .local := by rfl)
    (hw : swappedStores [.Tuple [.Name x px, .Name y py] kt pt] (.Tuple [a, b] k2 pt2) X.env = pure (some [x, y]) := by rfl)
    (hs : swapsWithSole [.Tuple [.Name x px, .Name y py] kt pt] (.Tuple [a, b] k2 pt2) pos.line X.env = pure false := by rfl) :
    PS X (.Assign [.Tuple [.Name x px, .Name y py] kt pt] (.Tuple [a, b] k2 pt2) pos) (tS X.K W (sPar2 i j fa)) := by
  refine PS.weak (ps_par hc hN hi hj hij hx hy ha hw hs) fun D σ H ⟨mu, s, L, m, l, p⟩ => ⟨mu, s, L, m, l, ?_⟩
  refine Post.stepS l p fun ds s1 mu1 H1 vs g1 m1 r1 p1 => ?_
  split at p1
  · obtain ⟨v, w, rfl, h1, h2⟩ := two_rel r1
    exact ⟨v, w, rfl, p1 mu1 _ H1 (Ge.refl _ _) m1 (((l.mono g1).set i h1).set j h2)⟩
  · exact p1.elim
/-- d.setdefault(k, x) of a tracked dict -/
def fSetd (fo fk fx : F D) : F D := fun L s => (fo L s).bind fun d s1 => match d with
  | .ref n => match s1[n]? with
    | some (.dk _ _) => (fk L s1).bind fun a s2 => (fx L s2).bind fun x s3 => match s3[n]?, keyD a with
      | some (.dk ks vs), some k => if ks.Nodup ∧ ks.length < big then match lkD ks vs k with
          | some v => .ok v s3
          | none => .ok x (s3.set n (.dk (ptD ks vs k x).1 (ptD ks vs k x).2))
        else .bad
      | _, _ => .bad
    | _ => .bad
  | _ => .bad
/-- {i: x} that will be changed -/
def fDict1 (i : Int) (f : F D) : F D := fun L s => (f L (s ++ [.dk [] []])).bind fun d s2 => match s2[s.length]? with
  | some (.dk [] []) => .ok (.ref s.length) (s2.set s.length (.dk [.inl i] [d]))
  | _ => .bad
end
end SI

/-! max(xs, default=x) of ints -/
namespace SI
open PySem PySem.Spec PyProof.Rows L2
section
variable {prog : Program} {w : World} {A : Around} {J : Addr} {fp wr : List Addr} {n : Nat} {P : Nat → Value → Prop} {St : Nat → Heap → Prop}
variable {s : Shared} {E : Value → Shared → Prop} {l : Addr}
end
def mxOf (s : S) (ds xs : List D) : Option D := match ds, xs with
  | [d], [x] => match (lstOf s d).bind intsOf with
    | some [] => some x
    | some ns => (gsI ns).map .int
    | none => none
  | _, _ => none
def fMaxDf (fa fk : F (List D)) : F D := fun L s => (fa L s).bind fun ds s1 => (fk L s1).bind fun xs s2 => match mxOf s2 ds xs with
  | some d => .ok d s2
  | none => .bad
/-! sorted(..) whose list will be changed -/
def srtOf (s : S) : List D → Option (List D)
  | [d] => ((lstOf s d).bind intsOf).map fun ns => (srI ns).map .int
  | _ => none
def fSrtT (fa : F (List D)) : F D := fun L s => (fa L s).bind fun ds s1 => match srtOf s1 ds with
  | some xs => .ok (.ref s1.length) (s1 ++ [.lst xs])
  | none => .bad
end SI

/-! min of a list of tuples (int, int, tuple of ints); list.remove of data -/
namespace SI
open PySem PySem.Spec PyProof.Rows L2
abbrev K3 := Int × Int × List Int
section
variable {A : Around} {s : Shared}
/-- at a stands the tuple k -/
def At3 (h : Heap) (v : Value) (k : K3) : Prop := ∃ (a t : Addr) (t1 t2 : Tok) (it : List Value), v = .ref a ∧ h.IsTuple a #[.int k.1 t1, .int k.2.1 t2, .ref t] ∧ h.IsTuple t it.toArray ∧ IntsAre it k.2.2
theorem At3.keep {h h' : Heap} {v : Value} {k : K3} (x : At3 h v k) (kp : ∀ b o, h.get? b = some o → h'.get? b = some o) : At3 h' v k := by
  obtain ⟨a, t, t1, t2, it, e, ⟨o, h1, r1⟩, ⟨o2, h2, r2⟩, i⟩ := x
  exact ⟨a, t, t1, t2, it, e, ⟨o, kp _ _ h1, r1⟩, ⟨o2, kp _ _ h2, r2⟩, i⟩
end
section
variable {X : Cx} {W : WX} {o e : Expr} {es : List Expr} {fo : F D} {fa : F (List D)} {pos : Pos} {k : Nat}
/-! list.remove -/
end
end SI

/-! generators that sleep while other code runs: code that succeeds where a sleeper cannot be woken leaves the sleeper as it is -/
namespace SI
open PySem PyProof.Rows L2
open Sem (wp)
/-- frames of calls only -/
def CallFs (fs : List Frame) : Prop := splitAtGen fs = none
/-- an entry of the table whose frames are calls -/
def CallGen : GenState → Prop
  | .suspended _ _ _ _ fs _ => CallFs fs
  | _ => True
/-- it sleeps -/
def Sleeps : GenState → Prop
  | .suspended .. => True
  | _ => False
/-- the same, but it cannot be woken -/
def lame : GenState → GenState
  | .suspended _ l c p fs cl => .suspended (fun _ => .unsupported "") l c p fs cl
  | x => x
theorem lame_seen (x : GenState) : (lame x).seen = x.seen := by cases x <;> rfl
theorem lame_bare (x : GenState) : (lame x).bare = x.bare := by cases x <;> rfl
/-- T: what sleeps; G: the table; L: the table where the sleepers are lame -/
structure Lamed (T : Nat → Option GenState) (G L : Array GenState) : Prop where
  size : G.size = L.size
  sl : ∀ i x, T i = some x → Sleeps x ∧ G[i]? = some x ∧ L[i]? = some (lame x)
  eq : ∀ i, T i = none → G[i]? = L[i]?
  cl : ∀ i x, T i = none → L[i]? = some x → CallGen x
variable {T : Nat → Option GenState} {G L : Array GenState}
theorem Lamed.seen (h : Lamed T G L) {i : Nat} {x : GenState} (e : L[i]? = some x) : ∃ y, G[i]? = some y ∧ y.seen = x.seen := by
  cases ht : T i with
  | none => exact ⟨x, (h.eq i ht).trans e, rfl⟩
  | some y =>
    obtain ⟨_, h1, h2⟩ := h.sl i y ht
    rw [e] at h2
    cases h2
    exact ⟨y, h1, (lame_seen y).symm⟩
theorem Lamed.set (h : Lamed T G L) {i : Nat} (ht : T i = none) {x : GenState} (hx : CallGen x) : Lamed T (G.setIfInBounds i x) (L.setIfInBounds i x) where
  size := by rw [Array.size_setIfInBounds, Array.size_setIfInBounds, h.size]
  sl j y e := by
    have hj : i ≠ j := fun z => by subst z; rw [ht] at e; cases e
    obtain ⟨a, b, d⟩ := h.sl j y e
    exact ⟨a, by rw [Array.getElem?_setIfInBounds_ne hj]; exact b, by rw [Array.getElem?_setIfInBounds_ne hj]; exact d⟩
  eq j e := by
    rw [Array.getElem?_setIfInBounds, Array.getElem?_setIfInBounds, h.size, h.eq j e]
  cl j y e q := by
    by_cases hj : i = j
    · subst hj
      rw [Array.getElem?_setIfInBounds, if_pos rfl] at q
      split at q
      · cases q
        exact hx
      · cases q
    · rw [Array.getElem?_setIfInBounds_ne hj] at q
      exact h.cl j y e q
theorem Lamed.push (h : Lamed T G L) {x : GenState} (hx : CallGen x) : Lamed T (G.push x) (L.push x) where
  size := by rw [Array.size_push, Array.size_push, h.size]
  sl j y e := by
    obtain ⟨a, b, d⟩ := h.sl j y e
    have h1 := (Array.getElem?_eq_some_iff.mp b).1
    have h2 := (Array.getElem?_eq_some_iff.mp d).1
    exact ⟨a, by rw [Array.getElem?_push, if_neg (by omega)]; exact b, by rw [Array.getElem?_push, if_neg (by omega)]; exact d⟩
  eq j e := by rw [Array.getElem?_push, Array.getElem?_push, h.size, h.eq j e]
  cl j y e q := by
    rw [Array.getElem?_push] at q
    split at q
    · cases q
      exact hx
    · exact h.cl j y e q
section
variable {M : Model} {T : Nat → Option GenState}
end
def sleepers (G : Array GenState) (i : Nat) : Option GenState := match G[i]? with
  | some (.suspended k l c p fs cl) => some (.suspended k l c p fs cl)
  | _ => none
end SI

/-! a generator def: its code from one sleep to the next -/
namespace SI
open PySem PySem.Spec PyProof.Rows L2 GenW
open Sem (wp)
/-- woken, it runs to an end that Φ describes -/
def Sg (M : Model) (A : Around) (c : Code) (t : Sem PySem.Fin) (fs : List Frame) (s : Shared) (Φ : End → Shared → Prop) : Prop :=
  ∀ Γ p, Γ.code = c → Γ.Woken A → ∃ e s', Runs M Γ p t fs s e s' ∧ Φ e s'
section
variable {M : Model} {A : Around} {c c' : Code} {fs : List Frame} {s : Shared} {Φ : End → Shared → Prop}
end
section
variable {P : Program} {w : World} {A : Around} {fs : List Frame} {s : Shared} {Φ : End → Shared → Prop} {env : Env}
/-- how a sleeper goes on -/
def GoG (M : Model) (A : Around) (gs : GenState) (s : Shared) (Φ : End → Shared → Prop) : Prop := match gs with
  | .fresh c => Sg M A c (M.den c) [] s Φ
  | .suspended k _ c _ fs _ => Sg M A c (k (.send .none)) fs s Φ
  | _ => False
end
end SI

/-! a generator def that hands out for ever: pre; while True: u; yield e; v -/
namespace SI
open PySem PySem.Spec PyProof.Rows L2 GenW
open Sem (wp)
/-- the heap's first n objects -/
def cutH (h : Heap) (n : Nat) : Heap := ⟨h.objs.extract 0 n, h.life⟩
def cutS (s : Shared) (n : Nat) : Shared := { s with heap := cutH s.heap n }
/-- a generator that a call has made: n0: the heap's size at the call; a, oa: its object -/
structure GCx where
  P : Program
  w : World
  K : PySem.W.Frag
  mg : Str → Option Value
  base : Heap
  N : List Str
  ps : List Str
  qual : Str
  scope : Scope
  f : Addr
  cdv : Value
  outer : List Env
  n0 : Nat
  a : Addr
  oa : Obj
  lv : Nat
abbrev gXE (P : Program) (w : World) (K : PySem.W.Frag) (mg : Str → Option Value) (base : Heap) (N : List Str) (qual : Str) (scope : Scope) (f : Addr) (cdv : Value) (A : Around) (outer : List Env) (s : Shared) (H : Hp) : Cx :=
  { cxOf (L2.CX P w) P w K mg base N qual scope f cdv A outer s H (fun _ _ _ => False) with xe := fun _ _ => False }
/-- its context, where it is woken at s, H -/
abbrev GCx.X (G : GCx) (A : Around) (s : Shared) (H : Hp) : Cx := gXE G.P G.w G.K G.mg G.base G.N G.qual G.scope G.f G.cdv A G.outer (cutS s G.n0) H
abbrev GCx.env (G : GCx) : Env := envOfC G.qual G.scope G.n0 G.f G.cdv
abbrev GCx.pin (G : GCx) : List (Addr × Obj) := [(G.a, G.oa)]
/-- what is always so -/
structure GCx.Ok (G : GCx) : Prop where
  sc : GScope G.N G.ps G.scope
  nc : ∀ y ∈ G.scope.names, y.2 ≠ .cell
  bs : G.base.objs.size ≤ G.n0
  fr : ∀ b ∈ frs G.outer, b < G.n0
  an : G.n0 < G.a
  oc : ∀ v, G.oa.data ≠ .cell v
def GLoc (G : GCx) (σ : L2.St) (h : Heap) : Prop := ∃ m, h.Ns G.n0 m ∧ ∀ (i : Nat) (x : Str) (v : V), G.N[i]? = some x → σ[i]? = some (some v) → Vis G.scope x → ∃ u, RelV v u ∧ G.scope.names.lookup x = some .local ∧ m x = some u
section
variable {G : GCx} {A : Around} {s s1 : Shared} {H H1 : Hp} {σ : L2.St}
theorem GLoc.keep {h h' : Heap} (l : GLoc G σ h) (k : ∀ o, h.get? G.n0 = some o → h'.get? G.n0 = some o) : GLoc G σ h' := by
  obtain ⟨m, ⟨o, es, ep, ho, r⟩, q⟩ := l
  exact ⟨m, ⟨o, es, ep, k o ho, r⟩, q⟩
end
/-- a generator at the data level: where it stands, its names, the store; what it hands out -/
abbrev GT := Nat → Lc → S → Option (D × Nat × Lc × S)
def TPost (G : GCx) (rec : Nat → Lc → L2.St → GenState → Prop) (A : Around) (s0 : Shared) (H0 : Hp) (mu0 : Mu) (r : Option (D × Nat × Lc × S)) (e : End) (s1 : Shared) : Prop := match r with
  | some (d, ph, L, sD) => ∃ v gd l k c p fs, e = .susp v gd l k c p fs ∧ e.quiet = true ∧ ∃ mu H σ x, Ge mu0 H0 mu H ∧ Sim G.K mu sD H ∧ LR G.K mu H L σ ∧ RelD G.K mu H d x ∧ RelV x v ∧ Inv (G.X A s0 H0) G.pin σ H s1 ∧ rec ph L σ e.genState
  | none => False
/-- it sleeps (or has not begun): woken n times it does as tn says -/
def Slp (G : GCx) (tn : GT) : Nat → Nat → Lc → L2.St → GenState → Prop
  | 0, _, _, _, _ => True
  | n + 1, ph, L, σ, gs => gs.bare = true ∧ ∀ (A : Around) (s s' : Shared) (H : Hp) (mu : Mu) (sD : S), Room (G.lv + 1) A → G.n0 ≤ s.heap.objs.size → Inv (G.X A s H) G.pin σ H s → s'.heap = s.heap → s'.os = s.os → AllBare s'.gens → Sim G.K mu sD H → LR G.K mu H L σ → tn ph L sD ≠ none →
      GoG (model G.P G.w) A gs s' (TPost G (Slp G tn n) A s H mu (tn ph L sD))
/-! ### for ever -/
abbrev W0 : WX := fun _ _ _ _ => False
structure GBody (G : GCx) (pre : List Stmt) (test : Expr) (u : List Stmt) (e : Expr) (v : List Stmt) (dp du : FS) (de : F D) (dv : FS) : Prop where
  pre : ∀ A s H, Room G.lv (A.deeper (G.X A s H).env) → PSs (G.X A s H) pre (tS G.K W0 dp)
  tst : ∀ A s H, Room G.lv (A.deeper (G.X A s H).env) → PT (G.X A s H) test (tT G.K W0 fun _ s => .ok true s)
  u : ∀ A s H, Room G.lv (A.deeper (G.X A s H).env) → PSs (G.X A s H) u (tS G.K W0 du)
  e : ∀ A s H, Room G.lv (A.deeper (G.X A s H).env) → PE (G.X A s H) e (tE G.K W0 de)
  v : ∀ A s H, Room G.lv (A.deeper (G.X A s H).env) → PSs (G.X A s H) v (tS G.K W0 dv)
section
variable {G : GCx} {A : Around} {s0 : Shared} {H0 : Hp}
end
end SI

namespace SI
open PySem PySem.Spec PyProof.Rows L2 GenW
open Sem (wp)
section
variable {G : GCx} {pre u v : List Stmt} {test e : Expr} {yp p1 p2 : Pos} {dp du dv : FS} {de : F D}
end
end SI

/-! for .. in f(..): where f is a generator def -/
namespace SI
open PySem PySem.Spec PyProof.Rows L2 GenW
open Sem (wp)
theorem Lamed.bare {T : Nat → Option GenState} {G L : Array GenState} (h : Lamed T G L) (hb : AllBare L) : AllBare G := fun y hy => by
  obtain ⟨i, hi, e⟩ := Array.mem_iff_getElem.mp hy
  have e' : G[i]? = some y := by rw [Array.getElem?_eq_getElem hi, e]
  cases ht : T i with
  | none =>
    rw [h.eq i ht] at e'
    exact hb y (Array.mem_of_getElem? e')
  | some x =>
    obtain ⟨_, h1, h2⟩ := h.sl i x ht
    rw [e'] at h1
    cases h1
    have := hb _ (Array.mem_of_getElem? h2)
    rwa [lame_bare] at this
/-! ### the data level -/
/-- a generator def -/
structure GenOk (P : Program) (w : World) (K : PySem.W.Frag) (mg : Str → Option Value) (base : Heap) (lv : Nat) (f : Addr) (fd : FuncData) (N ps : List Str) (tn : GT) : Prop where
  ex : ∃ (oc : Value) (od : Option Addr) (name qual : Str) (params : Arguments) (body : List Stmt) (scope : Scope) (dV kV doc pm : Value) (an : Option Addr) (cdv ct : Value) (osl : Array (Option Value)),
    fd = PySem.W.fnOf name qual params body scope dV kV doc pm an cdv ct ∧ K.lookup f = some ⟨oc, od, .func fd, osl⟩ ∧ PySem.W.codeIn K cdv qual = true ∧ GScope N ps scope ∧ (∀ y ∈ scope.names, y.2 ≠ .cell) ∧
    ∀ (outer : List Env) (n0 : Nat) (a : Addr) (oa : Obj) (n : Nat) (L : Lc) (σ : L2.St), Slp ⟨P, w, K, mg, base, N, ps, qual, scope, f, cdv, outer, n0, a, oa, lv⟩ tn n 0 L σ (.fresh (.func body (envOfC qual scope n0 f cdv)))
theorem GoG.up {M : Model} {A : Around} {gs : GenState} {s : Shared} {Φ Φ' : End → Shared → Prop} (h : GoG M A gs s Φ) (w : ∀ e s1, s.gens.size ≤ s1.gens.size → Φ e s1 → Φ' e s1) : GoG M A gs s Φ' := by
  cases gs with
  | fresh c =>
    intro Γ p hc hΓ
    obtain ⟨e, s1, hr, hf⟩ := h Γ p hc hΓ
    exact ⟨e, s1, hr, w e s1 (runs_gsz hr) hf⟩
  | suspended k l c p fs cl =>
    intro Γ p hc hΓ
    obtain ⟨e, s1, hr, hf⟩ := h Γ p hc hΓ
    exact ⟨e, s1, hr, w e s1 (runs_gsz hr) hf⟩
  | running => exact h
  | finished => exact h
section
variable {X : Cx} {pins : List (Addr × Obj)} {σ : L2.St} {H H4 : Hp} {s s1 : Shared} {G : GCx} {A : Around} {σg : L2.St}
/-- older than the generator -/
structure Older (X : Cx) (pins : List (Addr × Obj)) (n0 : Nat) : Prop where
  pn : ∀ p ∈ X.pn ++ pins, p.1 < n0
  cl : ∀ x c, X.env.cells.lookup x = some c → c < n0
  lo : X.env.locals < n0
  s0 : X.s_0.heap.objs.size ≤ n0
end
end SI

namespace SI
open PySem PySem.Spec PyProof.Rows L2 GenW
open Sem (wp)
section
variable {X : Cx} {W : WX} {pins : List (Addr × Obj)} {tg : Expr} {body : List Stmt} {q : Tg} {ub : FS} {G : GCx} {g : Nat} {tn : GT} {D0 : Ends}
end
end SI
namespace SI
open PySem PySem.Spec PyProof.Rows L2 GenW
section
variable {X : Cx} {W : WX} {tg e : Expr} {es : List Expr} {body : List Stmt} {q : Tg} {ub : FS} {tn : GT} {fa : F (List D)} {x : Str} {fA : Addr} {fd : FuncData} {N ps : List Str} {k : Nat} {p pos pos' : Pos}
end
end SI

/-! a generator def from the parts of its text -/
namespace SI
open PySem PySem.Spec PyProof.Rows L2 GenW
end SI

/-! tracked dicts whose keys are tuples of ints -/
namespace SI
open PySem PySem.Spec PyProof.Rows L2
section
variable {α : Type}
def lkL : List (List Int) → List α → List Int → Option α
  | k :: ks, v :: vs, k' => if k = k' then some v else lkL ks vs k'
  | _, _, _ => none
end
section
variable {α β : Type}
end
/-! the heap -/
theorem at_xs (k : List Int) : ∀ {ks : List (List Int)} {bs : List Addr} {us : List Value}, ks.length = bs.length → ks.length = us.length → (atKey (xsOf ks bs us) k).map (·.2) = lkL ks us k
  | [], _, _, _, _ => by simp [xsOf, atKey, lkL]
  | _ :: _, [], _, h, _ => by simp at h
  | _ :: _, _ :: _, [], _, h => by simp at h
  | k1 :: ks, b :: bs, u :: us, h1, h2 => by
    have ih := at_xs k (ks := ks) (bs := bs) (us := us) (by simpa using h1) (by simpa using h2)
    unfold xsOf atKey at ih ⊢
    rw [List.zip_cons_cons, List.zip_cons_cons, lkL]
    by_cases e : k1 = k
    · rw [if_pos e, List.find?_cons_of_pos (by simp [e])]
      rfl
    · rw [if_neg e, List.find?_cons_of_neg (by simp [e])]
      exact ih
/-- the tuple of ints k stands at b -/
def KeyB (K : PySem.W.Frag) (H : Hp) (k : List Int) (b : Addr) : Prop := KTup K b (k.map V.int) ∨ H b = some (.tup (k.map V.int))
section
variable {X : Cx} {pins : List (Addr × Obj)} {σ : List (Option V)} {H : Hp} {s : Shared} {a b : Addr} {ks : List (List Int)} {k : List Int} {bs : List Addr} {vs : List V} {v : V} {r : Value} {A : Around} {E : Value → Shared → Prop}
theorem vals_lk {k : List Int} : ∀ {ks : List (List Int)} {vs : List V} {us : List Value}, Vals vs us → RelO (lkL ks vs k) (lkL ks us k)
  | [], _, _, _ => by simp only [lkL]; exact True.intro
  | _ :: _, _, _, .nil => by simp only [lkL]; exact True.intro
  | k1 :: ks, _, _, .cons h t => by
    simp only [lkL]
    split
    · exact h
    · exact vals_lk t
theorem lk_some (I : Inv X pins σ H s) {us : List Value} (h1 : Vals vs us) (h2 : ks.length = bs.length) (h3 : ks.length = us.length) : (atKey (xsOf ks bs us) k).isSome = (lkL ks vs k).isSome := by
  have z := (vals_lk (k := k) (ks := ks) h1).isSome_eq
  rw [← at_xs k h2 h3, Option.isSome_map] at z
  exact z.symm
end
section
variable {X : Cx} {o i e value : Expr} {pos pos' : Pos} {td ty tv : TE}
end
/-! the data -/
section
variable {K : PySem.W.Frag} {mu : Mu} {s : S} {H : Hp}
theorem KeyA.b {k : List Int} {b : Addr} (h : KeyA K mu H k b) : KeyB K H k b := h.imp id fun z => z.1
theorem Keys.b {ks : List (List Int)} {bs : List Addr} (h : Keys K mu H ks bs) : Paired (KeyB K H) ks bs := Paired.mapP h fun _ _ z => z.b
theorem Keys.mono {mu' : Mu} {H' : Hp} (g : Ge mu H mu' H') {ks : List (List Int)} {bs : List Addr} (h : Keys K mu H ks bs) : Keys K mu' H' ks bs := Paired.mapP h fun _ _ z => z.imp id g.fix
end
section
variable {X : Cx} {W : WX} {o i e e2 : Expr} {fo fi f g fx : F D} {pos : Pos} {k : Nat}
end
end SI

/-! max of three ints -/
namespace SI
open PySem PySem.Spec PyProof.Rows L2
section
variable {X : Cx} {W : WX} {e e2 e3 : Expr} {fa : F (List D)} {pos : Pos}
end
end SI

/-! max of six ints -/
namespace SI
open PySem PySem.Spec PyProof.Rows L2
open Sem (wp)
section
variable {prog : Program} {w : World} {A : Around} {E : Value → Shared → Prop} {s : Shared}
end
section
variable {X : Cx} {W : WX} {e e2 e3 e4 e5 e6 : Expr} {fa : F (List D)} {pos : Pos}
end
end SI

/-! in, not in, list.index for data (tuples in a list) -/
namespace SI
open PySem PySem.Spec PyProof.Rows L2
section
variable {X : Cx} {W : WX} {o i e : Expr} {fo f g : F D} {fa : F (List D)} {pos : Pos} {k : Nat}
end
end SI

/-! sorted(xs, key=lambda r: r[0] * FINE // r[1]) of a list of pairs of ints -/
namespace SI
open PySem PySem.Spec PyProof.Rows L2
def ratE (fine ratio : Str) (j0 j1 : Nat) (p1 p2 p3 p4 p5 p6 p7 p8 p9 : Pos) : Expr := .BinOp (.BinOp (.Subscript (.Name ratio p1) (.Constant (.int 0) j0 p2) p3) .Mult (.Name fine p4) p5) .FloorDiv (.Subscript (.Name ratio p6) (.Constant (.int 1) j1 p7) p8) p9
def ratD (z : Int × Int) : D := .tup [.int z.1, .int z.2]
def ratK (Fi : Int) (z : Int × Int) : Int := z.1 * Fi / z.2
def rat2 : D → Option (Int × Int)
  | .tup [.int a, .int b] => if 0 ≤ a ∧ a ≤ 1000000 ∧ 1 ≤ b ∧ b ≤ 1000000 then some (a, b) else none
  | _ => none
def ratAll : List D → Option (List (Int × Int))
  | [] => some []
  | x :: r => match rat2 x with
    | some z => (ratAll r).map (z :: ·)
    | none => none
def srtRat (Fi : Int) (zs : List (Int × Int)) : List (Int × Int) := zs.mergeSort fun a b => decide (ratK Fi a ≤ ratK Fi b)
def fSortR (Fi : Int) (fa : F (List D)) : SI.F D := fun L s => (fa L s).bind fun ds s1 => match ds with
  | [d] => (match (lstOf s1 d).bind ratAll with
    | some zs => .ok (.lst ((srtRat Fi zs).map ratD)) s1
    | none => .bad)
  | _ => .bad
theorem rat2_ok {d : D} {z : Int × Int} (h : rat2 d = some z) : d = ratD z ∧ 0 ≤ z.1 ∧ z.1 ≤ 1000000 ∧ 1 ≤ z.2 ∧ z.2 ≤ 1000000 := by
  unfold rat2 at h
  split at h
  · split at h
    · rename_i hc
      cases h
      exact ⟨rfl, hc⟩
    · cases h
  · cases h
/-- the values of the list with what they are -/
theorem rat_rel {K : PySem.W.Frag} {mu : Mu} {H : Hp} : ∀ {ds : List D} {vs : List V} {zs : List (Int × Int)}, RelDs K mu H ds vs → ratAll ds = some zs → ∃ ws : List (V × Int × Int), vs = ws.map (·.1) ∧ zs = ws.map (·.2) ∧ ∀ w ∈ ws, RelD K mu H (ratD w.2) w.1 ∧ 0 ≤ w.2.1 ∧ w.2.1 ≤ 1000000 ∧ 1 ≤ w.2.2 ∧ w.2.2 ≤ 1000000
  | [], vs, zs, r, h => by
    cases h
    simp only [RelDs] at r
    subst r
    exact ⟨[], rfl, rfl, fun w hw => nomatch hw⟩
  | d :: ds, vs, zs, r, h => by
    simp only [RelDs] at r
    obtain ⟨v, r', rfl, h1, h2⟩ := r
    unfold ratAll at h
    split at h
    · rename_i z ez
      obtain ⟨zs', e, rfl⟩ := Option.map_eq_some_iff.mp h
      obtain ⟨ws, e1, e2, e3⟩ := rat_rel h2 e
      obtain ⟨ed, hz⟩ := rat2_ok ez
      refine ⟨(v, z) :: ws, by rw [e1]; rfl, by rw [e2]; rfl, fun w hw => ?_⟩
      rcases List.mem_cons.mp hw with rfl | hw
      · exact ⟨ed ▸ h1, hz⟩
      · exact e3 w hw
    · cases h
theorem each_rat : ∀ {ws : List (V × Int × Int)} {its : List Value}, Vals (ws.map (·.1)) its → PySem.W.EachIs (fun u (w : V × Int × Int) => RelV w.1 u) its ws
  | [], its, r => by
    cases r
    exact .nil
  | z :: zs, its, r => by
    cases r with
    | cons h t => exact .cons h (each_rat t)
theorem rat_vals : ∀ {ws : List (V × Int × Int)} {its : List Value}, PySem.W.EachIs (fun u (w : V × Int × Int) => RelV w.1 u) its ws → Vals (ws.map (·.1)) its
  | _, _, .nil => .nil
  | _, _, .cons h t => .cons h (rat_vals t)
theorem relds_map {α : Type} {K : PySem.W.Frag} {mu : Mu} {H : Hp} {f : α → D} {g : α → V} : ∀ {xs : List α}, (∀ x ∈ xs, RelD K mu H (f x) (g x)) → RelDs K mu H (xs.map f) (xs.map g)
  | [], _ => .nil
  | x :: xs, h => .cons (h x (List.mem_cons_self ..)) (relds_map fun y hy => h y (List.mem_cons_of_mem _ hy))
theorem pE_sortR {X : Cx} {W : WX} {e : Expr} {fa : F (List D)} {q fine ratio : Str} {c P : Addr} {k j0 j1 : Nat} {Fi : Int} {tf : Tok} {params : Arguments} {scope : Scope} {p0 p1 p2 p3 p4 p5 p6 p7 p8 p9 lpos kpos pos : Pos} (T : LamT X.K X.base X.mg q c P) (hcode : X.env.code = .ref c) (hr : Room (k + 2) X.A) (hm : X.mg "sorted" = none)
    (hF : X.mg fine = some (.int Fi tf)) (hFb : 0 ≤ Fi ∧ Fi ≤ 1000000) (ha : PA X [e] (tA X.K W fa)) (hL : LamS1 X.env.scope scope ratio) (hf : scope.names.lookup fine = some .globalImplicit)
    (hbind : ∀ (q : Str) (cl : List (Str × Addr)) (pm cv ctv v : Value), bindArgs (PySem.W.kla_fn "<lambda>" q params (ratE fine ratio j0 j1 p1 p2 p3 p4 p5 p6 p7 p8 p9) scope cl pm cv ctv) ⟨[v], []⟩ = pure [(ratio, v)])
    (hqual : X.env.qual = q ++ ".<locals>." := by rfl) (hdef : defaultsOf params X.env = ([], []) := by rfl) (hg : Gl X "sorted" := by rfl) (hd1 : (fine == ("__debug__" : Str)) = false := by decide) (hd2 : (ratio == ("__debug__" : Str)) = false := by decide)
    (he : backTo pos (starEach [e] X.env) = (false, eval e X.env) :: backTo pos (starEach [] X.env) := by rfl) (hpl : (backTo pos (starEach [e] X.env)).any (·.1) = false := by rfl) :
    PE X (.Call (.Name "sorted" p0) [e] [⟨some "key", .Lambda params (ratE fine ratio j0 j1 p1 p2 p3 p4 p5 p6 p7 p8 p9) scope lpos, kpos⟩] pos) (tE X.K W (fSortR Fi fa)) := by
  refine ⟨fun pins s σ H Q I h => ?_⟩
  obtain ⟨mu, sD, L, m, hLR, hp⟩ := h
  have hA := ha.run pos pins s σ H (fun vs H1 => ∃ mu1 s1 ds, Ge mu H mu1 H1 ∧ Sim X.K mu1 s1 H1 ∧ RelDs X.K mu1 H1 ds vs ∧ Post X.K W (RelD X.K) σ mu1 H1 Q (match ds with
    | [d] => (match (lstOf s1 d).bind ratAll with
      | some zs => .ok (.lst ((srtRat Fi zs).map ratD)) s1
      | none => .bad)
    | _ => .bad)) I ⟨mu, sD, L, m, hLR, Post.step hp fun ds s1 mu1 H1 v1 g1 m1 r1 hq1 => ⟨mu1, s1, ds, g1, m1, r1, hq1⟩⟩
  refine wpAny_Call_Name_kw (ld_blt I hg hm (u := .builtin "sorted") (by decide +kernel) ?_ (by decide) (by decide))
  refine PyProof.Rows.callWith_kw (thn hA fun us s1 hu => ?_) he hpl rfl rfl
  obtain ⟨vs, H1, I1, rv, mu1, sD1, ds, g1, m1, r1, hq1⟩ := hu
  rcases ds with _ | ⟨d, _ | ⟨d2, ds⟩⟩
  · exact hq1.elim
  rotate_left
  · exact hq1.elim
  obtain ⟨v, rfl, rd⟩ := rel1 r1
  dsimp only at hq1
  split at hq1
  rotate_left
  · exact hq1.elim
  rename_i zs ezs
  show wpAny _ _ (evalAll ((do let v ← eval (.Lambda params (ratE fine ratio j0 j1 p1 p2 p3 p4 p5 p6 p7 p8 p9) scope lpos) X.env; standAt pos; pure v) :: [])) _ _ s1
  refine wpAny_evalAll_cons (wpAny_bind (lam_new I1 m1 T hcode hqual hdef (hL.has I1.ok) fun f c' pm ctv H2 s2 I2 g2 m2 hfo hco => wpAny_bind (wpAny_standAt (wpAny_pure ?_))))
  refine wpAny_evalAll_nil ?_
  obtain ⟨u, rfl, ru⟩ := vals1 rv
  obtain ⟨xd, exd, exi⟩ := Option.bind_eq_some_iff.mp ezs
  obtain ⟨l, ys, rfl, sq, rys⟩ := sq_lstOf m2 (rd.mono g2) exd
  obtain ⟨ws, rfl, rfl, hws⟩ := rat_rel rys exi
  obtain rfl : u = Value.ref l := ru
  obtain ⟨its, rits, pl, lits⟩ := I2.list sq
  have litl : its.length ≤ sizeLine := by rw [← rits.length]; exact lits
  have hcode2 : s2.heap.CodeRec (.ref c') (X.env.qual ++ "<lambda>") := by
    obtain ⟨⟨oc, vs, t, e1, e2, e3⟩, _, _⟩ := I2.hok c' _ hco
    exact ⟨c', oc, vs, t, rfl, e1, e2, e3⟩
  have un := hr.un
  refine PySem.W.sorted_key_data (k := fun w : V × Int × Int => PyData.int (ratK Fi w.2)) (b := false) (f := .ref f) pl.isList (each_rat rits) ?_ ?_ ?_ ?_ (PyProof.Rows.ksk_s1 _ _) (fun _ => PyProof.Rows.ksk_l1 _ _) (fun x => PyProof.Rows.ksk_t1 _ _) ?_ ?_
  · intro d hd d' hd'
    obtain ⟨z, _, rfl⟩ := List.mem_map.mp hd
    obtain ⟨z', _, rfl⟩ := List.mem_map.mp hd'
    rfl
  · refine .inr fun d hd => ?_
    obtain ⟨z, _, rfl⟩ := List.mem_map.mp hd
    exact ⟨(fun e => nomatch e), (fun _ e => nomatch e)⟩
  · have e := rits.length
    rw [List.length_map] at e
    rw [e]
    exact litl
  · intro z _
    show X.A.units + 2 + 0 < cLine
    omega
  · rintro v z hv hzm h tk kp
    obtain ⟨hr0, a0, a1, b0, b1⟩ := hws z hzm
    obtain ⟨b, us, ev, sq3, rws⟩ := sq_tup hr0
    obtain ⟨z1, za, zb⟩ := z
    dsimp only at ev hv a0 a1 b0 b1 rws
    subst ev
    obtain rfl : v = Value.ref b := hv
    obtain ⟨it3, r3, pt3, l3⟩ := I2.tuple sq3
    obtain ⟨y0, ey0, ry0⟩ := rws.get (i := 0) (d := .int za) rfl
    obtain ⟨y1, ey1, ry1⟩ := rws.get (i := 1) (d := .int zb) rfl
    obtain ⟨u0, eu0, ru0⟩ := r3.get ey0
    obtain ⟨u1, eu1, ru1⟩ := r3.get ey1
    rw [rel_int.mp ry0] at ru0
    rw [rel_int.mp ry1] at ru1
    obtain ⟨t0, rfl⟩ := ru0
    obtain ⟨t1, rfl⟩ := ru1
    refine lam_call1 (s := { s2 with heap := h, toks := tk }) (x := ratio) (sc := X.env.scope) (by show X.A.depth < _; have := hr.dp; omega) (kp _ _ hfo) (hcode2.keeps kp) (I2.nolimit.keeps kp) (hbind _ _ _ _ _ _) hL fun h₁ tk1 F' kp1 hns1 => ?_
    have kk : ∀ b o, s2.heap.get? b = some o → h₁.get? b = some o := fun b o e => kp1 b o (kp b o e)
    have hloc : List.lookup ratio [(ratio, Value.ref b)].reverse = some (.ref b) := by show List.lookup ratio [(ratio, _)] = _; rw [List.lookup_cons, beq_self_eq_true]
    have hl3 : it3.length ≤ sizeLine := by rw [← r3.length]; exact l3
    unfold ratE
    refine wpAny_BinOp (wpAny_BinOp (Subscript_ ?_))
    refine wpAny_Name (wpAny_loadName_local hL.kind hL.own hns1 (v := .ref b) hloc ?_) hd2
    refine wpAny_Constant_int ?_
    refine item_at (n := 0) (.inr (tup_keep kk pt3)) rfl hl3 eu0 ?_
    refine Calls.Name_function_global hL.kind hf (Calls.loadGlobal_global (mg := X.mg) ?_ hF ?_) hd1
    · show Heap.Ns _ mainGlobals X.mg
      exact ((I2.mod.glob.keeps I2.bk).keeps kk)
    refine PyProof.Rows.mul_int ?_ (MulP.ok ?_)
    · refine Subscript_ ?_
      refine wpAny_Name (wpAny_loadName_local hL.kind hL.own (hns1) (v := .ref b) hloc ?_) hd2
      refine wpAny_Constant_int ?_
      refine item_at (n := 1) (.inr (tup_keep kk pt3)) rfl hl3 eu1 ?_
      refine PyProof.Rows.floordiv_int (by omega) ?_ (.inl (PyProof.noPylong_small (by omega)))
      rw [Int.fdiv_eq_ediv_of_nonneg _ (by omega)]
      exact ⟨h₁, _, rfl, kp1, .int _ _⟩
    · unfold MulP
      have h1 : za.natAbs.log2 ≤ za.natAbs := Nat.log2_le_self _
      have h2 : Fi.natAbs.log2 ≤ Fi.natAbs := Nat.log2_le_self _
      omega
  · intro out c2 h' tk kp fresh hD hlen hEach
    have hn : H2 (s2.heap.objs.size + 1) = none := I2.hok.gone fresh
    rw [PySem.W.dataLe_int (fun w : V × Int × Int => ratK Fi w.2)] at hEach
    have rv2 := rat_vals hEach
    have hl2 : ((ws.mergeSort fun a b => decide (ratK Fi a.2 ≤ ratK Fi b.2)).map (·.1)).length ≤ sizeLine := by
      rw [rv2.length, hlen]
      have e := rits.length
      rw [List.length_map] at e
      rw [e]
      exact litl
    refine ⟨.ref (s2.heap.objs.size + 1), upd H2 (s2.heap.objs.size + 1) (.lst ((ws.mergeSort fun a b => decide (ratK Fi a.2 ≤ ratK Fi b.2)).map (·.1))), I2.laid (t' := tk) kp (Nat.le_succ _) ⟨hl2, out, c2, rv2, hD⟩, rfl, ?_⟩
    have es : (srtRat Fi (ws.map (·.2))).map ratD = (ws.mergeSort fun a b => decide (ratK Fi a.2 ≤ ratK Fi b.2)).map fun w => ratD w.2 := by
      unfold srtRat
      rw [← List.map_mergeSort (r := fun a b => decide (ratK Fi a.2 ≤ ratK Fi b.2)) (f := fun w : V × Int × Int => w.2) (fun a _ b _ => rfl), List.map_map]
      rfl
    rw [es] at hq1
    refine hq1 mu1 _ _ (g2.trans (Ge.pure m2 hn)) (m2.pure hn) (rel_lst m2 hn (relds_map fun w hw => ?_))
    exact (hws w ((List.mergeSort_perm ws _).mem_iff.mp hw)).1
end SI

/-! for x in reversed(a list that nobody changes) -/
namespace SI
open PySem PySem.Spec PyProof.Rows L2
end SI

/-! *e among the items of a display -/
namespace SI
open PySem PySem.Spec PyProof.Rows L2 StX
variable {X : Cx} {W : WX} {e : Expr} {es : List Expr} {f : F D} {fa : F (List D)} {p : Pos}
def fStar (f : F D) (fa : F (List D)) : F (List D) := fun L s => (f L s).bind fun d s1 => match lstOf s1 d with
  | some xs => (fa L s1).bind fun ys s2 => .ok (xs ++ ys) s2
  | none => .bad
theorem pA_star (ha : PE X e (tE X.K W f)) (hr : PA X es (tA X.K W fa)) (hs : starEach (.Starred e p :: es) X.env = (true, eval e X.env) :: starEach es X.env := by rfl) : PA X (.Starred e p :: es) (tA X.K W (fStar f fa)) := by
  refine PA.weak (pa_star ha hr hs) fun σ H Q hq => ?_
  obtain ⟨mu, s, L, m, l, p⟩ := hq
  refine ⟨mu, s, L, m, l, Post.step p fun d1 s1 mu1 H1 v1 g1 m1 r1 p1 => ?_⟩
  split at p1
  · rename_i xs e
    obtain ⟨a, vs, rfl, sq, rs⟩ := sq_lstOf m1 r1 e
    refine ⟨a, vs, rfl, .inr sq, mu1, s1, L, m1, l.mono g1, Post.step p1 fun d2 s2 mu2 H2 v2 g2 m2 r2 p2 => ?_⟩
    exact p2 mu2 H2 _ (Ge.refl _ _) m2 ((rs.mono g2).append r2)
  · exact p1.elim
end SI

namespace Pg
open PySem L2 SI
structure Cl where
  Machine : Addr
  Desk : Addr
  Reader : Addr
  TellError : Addr
  InvalidMachine : Addr
  InvalidCount : Addr
  InvalidTime : Addr
  InvalidTurns : Addr
  InvalidRoots : Addr
  InvalidName : Addr
  InvalidNames : Addr
  InvalidPlan : Addr
  InvalidRows : Addr
  InvalidText : Addr
  LimitExceeded : Addr
  NothingLeft : Addr
  cs : List Addr
def G_is_integer (c : Cl) : List D → S → R D := runF 1
  ((sRet (fAndV (fCB (bIsi c.cs) (fCons (fVar 0) (fCons (fC (.ty "int")) fNil))) (fNotV (fCB (bIsi c.cs) (fCons (fVar 0) (fCons (fC (.ty "bool")) fNil)))))))
def G_between (c : Cl) : List D → S → R D := runF 3
  ((sRet (fAndV (fCall 1 (G_is_integer c) (fCons (fVar 0) fNil)) (fChain dLe dLe (fVar 1) (fVar 0) (fVar 2)))))
def G_checked_count (c : Cl) : List D → S → R D := runF 3
  ((sSeq (sIf (fNot (fTst (fCall 3 (G_between c) (fCons (fVar 0) (fCons (fVar 1) (fCons (fVar 2) fNil)))))) (sRaise0 c.InvalidCount) sNext)
    (sRet (fVar 0))))
def G_is_row (c : Cl) : List D → S → R D := runF 1
  ((sSeq (sIf (fOr (fNot (fTst (fCB (bIsi c.cs) (fCons (fVar 0) (fCons (fC (.ty "tuple")) fNil))))) (fTst (fOp (dEqD true) (fCB bLen (fCons (fVar 0) fNil)) (fC (.int 3))))) (sRet (fC (.bl false))) sNext)
    (sRet (fAndV (fCall 1 (G_is_integer c) (fCons (fOp dIx (fVar 0) (fC (.int 0))) fNil)) (fAndV (fCall 1 (G_is_integer c) (fCons (fOp dIx (fVar 0) (fC (.int 1))) fNil)) (fCall 3 (G_between c) (fCons (fOp dIx (fVar 0) (fC (.int 2))) (fCons (fC (.int 0)) (fCons (fC (.int 1000000000000000)) fNil)))))))))
def G_form_fault_plans (c : Cl) : List D → S → R D := runF 3
  ((sSeq (sIf (fOr (fNot (fTst (fCB (bIsiT c.cs) (fCons (fVar 0) (fCons (fTup (fCons (fC (.ty "list")) (fCons (fC (.ty "tuple")) fNil))) fNil))))) (fTst (fOp dGt (fCB bLen (fCons (fVar 0) fNil)) (fC (.int 400))))) (sRet (fTup (fCons (fC (.str "form")) (fCons (fNeg (fC (.int 1))) fNil)))) sNext)
    (sSeq (sFor (fEnu (fCons (fVar 0) fNil)) (gTp (gCn (gN 1) (gCn (gN 2) gNl))) (sIf (fNot (fTst (fCall 1 (G_is_row c) (fCons (fVar 2) fNil)))) (sRet (fTup (fCons (fC (.str "form")) (fCons (fVar 1) fNil)))) sNext))
    (sRet (fC .non)))))
def G_hands_fault (c : Cl) : List D → S → R D := pureF (runF 8
  ((sSeq (sFor (fEnu (fCons (fVar 1) fNil)) (gTp (gCn (gN 2) (gCn (gTp (gCn (gN 3) (gCn (gN 4) (gCn (gN 5) gNl)))) gNl))) (sIf (fOr (fNot (fTst (fChain dLe dLt (fC (.int 0)) (fVar 3) (fVar 0)))) (fOr (fNot (fTst (fChain dLt dLt (fC (.int 0)) (fVar 4) (fVar 0)))) (fTst (fOp (dEqD false) (fVar 3) (fVar 4))))) (sRet (fTup (fCons (fC (.str "hand")) (fCons (fVar 2) fNil)))) sNext))
    (sSeq (sAsg 6 fDictT)
    (sSeq (sFor (fEnu (fCons (fVar 1) fNil)) (gTp (gCn (gN 2) (gCn (gTp (gCn (gN 3) (gCn (gN 4) (gCn (gN 5) gNl)))) gNl))) (sSeq (sIf (fTst (fOp (dIn false) (fVar 4) (fVar 6))) (sRet (fTup (fCons (fC (.str "again")) (fCons (fVar 2) fNil)))) sNext)
    (sPut dPutD (fC (.bl true)) (fVar 6) (fVar 4))))
    (sSeq (sFor (fRng dRng2 (fCons (fC (.int 1)) (fCons (fVar 0) fNil))) (gN 7) (sIf (fTst (fOp (dIn true) (fVar 7) (fVar 6))) (sRet (fTup (fCons (fC (.str "nobody")) (fCons (fVar 7) fNil)))) sNext))
    (sRet (fC .non))))))))
def G_times_fault (c : Cl) : List D → S → R D := pureF (runF 8
  ((sSeq (sAsg 2 (fDictI 0 0))
    (sSeq (sFor (fSrc (fVar 1)) (gTp (gCn (gN 3) (gCn (gN 4) (gCn (gN 5) gNl)))) (sPut dPutD (fOp dAdd (fVar 5) (fFld [c.Machine] "letter" (fVar 0))) (fVar 2) (fVar 4)))
    (sSeq (sFor (fEnu (fCons (fVar 1) fNil)) (gTp (gCn (gN 6) (gCn (gTp (gCn (gN 3) (gCn (gN 4) (gCn (gN 5) gNl)))) gNl))) (sIf (fTst (fOp dLt (fVar 5) (fOp dIxD (fVar 2) (fVar 3)))) (sRet (fTup (fCons (fC (.str "early")) (fCons (fVar 6) fNil)))) sNext))
    (sSeq (sFor (fEnu (fCons (fVar 1) fNil)) (gTp (gCn (gN 6) (gCn (gTp (gCn (gN 3) (gCn (gN 4) (gCn (gN 5) gNl)))) gNl))) (sFor (fSrc (fSl (fVar 1) fNo (fPt (fVar 6)))) (gN 7) (sIf (fAnd (fTst (fOp (dEqD false) (fOp dIx (fVar 7) (fC (.int 0))) (fVar 3))) (fTst (fOp dLt (fCB bAbs (fCons (fOp dSub (fOp dIx (fVar 7) (fC (.int 2))) (fVar 5)) fNil)) (fFld [c.Machine] "gap" (fVar 0))))) (sRet (fTup (fCons (fC (.str "gap")) (fCons (fVar 6) fNil)))) sNext)))
    (sRet (fC .non))))))))
def G_fault (c : Cl) : List D → S → R D := runF 4
  ((sSeq (sExpr (fCall 3 (G_checked_count c) (fCons (fVar 1) (fCons (fC (.int 1)) (fCons (fC (.int 100)) fNil)))))
    (sSeq (sAsg 3 (fCall 1 (G_form_fault_plans c) (fCons (fVar 2) fNil)))
    (sSeq (sIf (fTst (fOp (dIs false) (fVar 3) (fC .non))) (sAsg 3 (fCall 2 (G_hands_fault c) (fCons (fVar 1) (fCons (fVar 2) fNil)))) sNext)
    (sSeq (sIf (fTst (fOp (dIs false) (fVar 3) (fC .non))) (sAsg 3 (fCall 2 (G_times_fault c) (fCons (fVar 0) (fCons (fVar 2) fNil)))) sNext)
    (sRet (fVar 3)))))))
def G_checked_plan (c : Cl) : List D → S → R D := runF 4
  ((sSeq (sAsg 3 (fCall 3 (G_fault c) (fCons (fVar 0) (fCons (fVar 1) (fCons (fVar 2) fNil)))))
    (sSeq (sIf (fTst (fOp (dIs true) (fVar 3) (fC .non))) (sRaise2 c.InvalidPlan "why" "at" (fCons (fOp dIx (fVar 3) (fC (.int 0))) (fCons (fOp dIx (fVar 3) (fC (.int 1))) fNil))) sNext)
    (sRet (fCB bList (fCons (fVar 2) fNil))))))
def G_ends (c : Cl) : List D → S → R D := runF 7
  ((sSeq (sAsg 3 (fC (.int 0)))
    (sSeq (sFor (fSrc (fCall 3 (G_checked_plan c) (fCons (fVar 0) (fCons (fVar 1) (fCons (fVar 2) fNil))))) (gTp (gCn (gN 4) (gCn (gN 5) (gCn (gN 6) gNl)))) (sAsg 3 (fCB bMax (fCons (fVar 3) (fCons (fOp dAdd (fVar 6) (fFld [c.Machine] "letter" (fVar 0))) fNil)))))
    (sRet (fVar 3)))))
def G_names_of_pair (c : Cl) : List D → S → R D := runF 4
  ((sSeq (sIf (fTst (fOp (dEqD false) (fVar 0) (fC (.int 0)))) (sRet (fCB bInt (fCons (fOp (dEqD false) (fVar 1) (fC (.int 0))) fNil))) sNext)
    (sSeq (sAsg 2 (fC (.int 1)))
    (sSeq (sFor (fRng dRng2 (fCons (fC (.int 1)) (fCons (fOp dAdd (fVar 1) (fC (.int 1))) fNil))) (gN 3) (sAsg 2 (fOp dDiv (fOp dMul (fVar 2) (fOp dAdd (fOp dSub (fVar 0) (fC (.int 1))) (fVar 3))) (fVar 3))))
    (sRet (fVar 2))))))
def G_pair_at (c : Cl) : List D → S → R D := pureF (runF 9
  ((sSeq (sAsg 3 (fLcT (fRng dRng1 (fCons (fVar 0) fNil)) (gN 7) fYes (fC (.int 0)) [7]))
    (sSeq (sAsg 4 (fVar 0))
    (sSeq (sAsg 5 (fTup (fCons (fC (.int 0)) (fCons (fC (.int 0)) fNil))))
    (sSeq (sWhile 100000 (fTst (fOp dGt (fVar 4) (fC (.int 0)))) (sSeq (sAsg 6 (fC .non))
    (sSeq (sFor (fRng dRng1 (fCons (fVar 0) fNil)) (gN 7) (sIf (fOr (fTst (fOp dGt (fVar 7) (fC (.int 0)))) (fTst (fOp (dEqD false) (fOp dIx (fVar 3) (fC (.int 0))) (fC (.int 0))))) (sSeq (sAsg 8 (fOp dAdd (fOp dMul (fVar 7) (fVar 1)) (fOp dMul (fOp dIx (fVar 3) (fVar 7)) (fVar 2))))
    (sIf (fOr (fTst (fOp (dIs false) (fVar 6) (fC .non))) (fTst (fOp dLt (fVar 8) (fVar 6)))) (sSeq (sAsg 6 (fVar 8))
    (sAsg 5 (fTup (fCons (fVar 7) (fCons (fOp dIx (fVar 3) (fVar 7)) fNil))))) sNext)) sNext))
    (sSeq (sAug dSub 4 (fCall 2 (G_names_of_pair c) (fCons (fOp dIx (fVar 5) (fC (.int 0))) (fCons (fOp dIx (fVar 5) (fC (.int 1))) fNil))))
    (sAugS dIxL dAddI dPut (fVar 3) (fOp dIx (fVar 5) (fC (.int 0))) (fC (.int 1)))))))
    (sRet (fVar 5))))))))
def G_common_divisor (c : Cl) : List D → S → R D := runF 2
  ((sSeq (sWhile 100000 (fTst (fOp dGt (fVar 1) (fC (.int 0)))) (sPar2 0 1 (fCons (fVar 1) (fCons (fOp dMod (fCB bInt (fCons (fVar 0) fNil)) (fVar 1)) fNil))))
    (sRet (fVar 0))))
def G_crossings (c : Cl) : List D → S → R D := pureF (runF 4
  ((sSeq (sAsg 1 (fLstT fNil))
    (sSeq (sFor (fRng dRng2 (fCons (fC (.int 1)) (fCons (fOp dSub (fVar 0) (fC (.int 1))) fNil))) (gN 2) (sFor (fRng dRng2 (fCons (fC (.int 1)) (fCons (fOp dSub (fVar 0) (fC (.int 1))) fNil))) (gN 3) (sIf (fTst (fOp (dEqD false) (fCall 2 (G_common_divisor c) (fCons (fVar 2) (fCons (fVar 3) fNil))) (fC (.int 1)))) (sExpr (fApp (fVar 1) (fCons (fTup (fCons (fVar 2) (fCons (fVar 3) fNil))) fNil))) sNext)))
    (sRet (fSortR 10000 (fCons (fVar 1) fNil)))))))
def G_between_ratios (c : Cl) : List D → S → R D := runF 2
  ((sSeq (sIf (fTst (fOp (dIs false) (fVar 1) (fC .non))) (sRet (fTup (fCons (fOp dAdd (fOp dIx (fVar 0) (fC (.int 0))) (fOp dIx (fVar 0) (fC (.int 1)))) (fCons (fOp dIx (fVar 0) (fC (.int 1))) fNil)))) sNext)
    (sRet (fTup (fCons (fOp dAdd (fOp dIx (fVar 0) (fC (.int 0))) (fOp dIx (fVar 1) (fC (.int 0)))) (fCons (fOp dAdd (fOp dIx (fVar 0) (fC (.int 1))) (fOp dIx (fVar 1) (fC (.int 1)))) fNil))))))
def Gr_checked_bands (c : Cl) : List D → S → R D := runF 7
  ((sSeq (sAsg 1 (fLstT fNil))
    (sSeq (sAsg 2 (fTup (fCons (fC (.int 0)) (fCons (fC (.int 1)) fNil))))
    (sSeq (sAsg 3 (fC .non))
    (sSeq (sFor (fSrc (fLst (fStar (fCall 1 (G_crossings c) (fCons (fVar 0) fNil)) (fCons (fC .non) fNil)))) (gN 4) (sSeq (sAsg 5 (fCall 2 (G_between_ratios c) (fCons (fVar 2) (fCons (fVar 4) fNil))))
    (sSeq (sAsg 6 (fCall 3 (G_pair_at c) (fCons (fVar 0) (fCons (fOp dIx (fVar 5) (fC (.int 0))) (fCons (fOp dIx (fVar 5) (fC (.int 1))) fNil)))))
    (sSeq (sIf (fTst (fOp (dEqD false) (fVar 6) (fVar 3))) (sPut dPut (fTup (fCons (fOp dIx (fOp dIx (fVar 1) (fNeg (fC (.int 1)))) (fC (.int 0))) (fCons (fVar 4) (fCons (fOp dIx (fVar 6) (fC (.int 0))) (fCons (fOp dIx (fVar 6) (fC (.int 1))) fNil))))) (fVar 1) (fNeg (fC (.int 1)))) (sExpr (fApp (fVar 1) (fCons (fTup (fCons (fVar 2) (fCons (fVar 4) (fCons (fOp dIx (fVar 6) (fC (.int 0))) (fCons (fOp dIx (fVar 6) (fC (.int 1))) fNil))))) fNil))))
    (sSeq (sAsg 3 (fVar 6))
    (sIf (fTst (fOp (dIs true) (fVar 4) (fC .non))) (sAsg 2 (fVar 4)) sNext))))))
    (sRet (fVar 1)))))))
def G_checked_bands (c : Cl) : List D → S → R D := pureF (runF 7
  ((sSeq (sAsg 1 (fLstT fNil))
    (sSeq (sAsg 2 (fTup (fCons (fC (.int 0)) (fCons (fC (.int 1)) fNil))))
    (sSeq (sAsg 3 (fC .non))
    (sSeq (sFor (fSrc (fLst (fStar (fCall 1 (G_crossings c) (fCons (fVar 0) fNil)) (fCons (fC .non) fNil)))) (gN 4) (sSeq (sAsg 5 (fCall 2 (G_between_ratios c) (fCons (fVar 2) (fCons (fVar 4) fNil))))
    (sSeq (sAsg 6 (fCall 3 (G_pair_at c) (fCons (fVar 0) (fCons (fOp dIx (fVar 5) (fC (.int 0))) (fCons (fOp dIx (fVar 5) (fC (.int 1))) fNil)))))
    (sSeq (sIf (fTst (fOp (dEqD false) (fVar 6) (fVar 3))) (sPut dPut (fTup (fCons (fOp dIx (fOp dIx (fVar 1) (fNeg (fC (.int 1)))) (fC (.int 0))) (fCons (fVar 4) (fCons (fOp dIx (fVar 6) (fC (.int 0))) (fCons (fOp dIx (fVar 6) (fC (.int 1))) fNil))))) (fVar 1) (fNeg (fC (.int 1)))) (sExpr (fApp (fVar 1) (fCons (fTup (fCons (fVar 2) (fCons (fVar 4) (fCons (fOp dIx (fVar 6) (fC (.int 0))) (fCons (fOp dIx (fVar 6) (fC (.int 1))) fNil))))) fNil))))
    (sSeq (sAsg 3 (fVar 6))
    (sIf (fTst (fOp (dIs true) (fVar 4) (fC .non))) (sAsg 2 (fVar 4)) sNext))))))
    (sRet (fVar 1))))))))
def Gr_bands (c : Cl) : List D → S → R D := runF 1
  ((sSeq (sExpr (fCall 3 (G_checked_count c) (fCons (fVar 0) (fCons (fC (.int 2)) (fCons (fC (.int 20)) fNil)))))
    (sRet (fCall 1 (Gr_checked_bands c) (fCons (fVar 0) fNil)))))
def G_bands (c : Cl) : List D → S → R D := runF 1
  ((sSeq (sExpr (fCall 3 (G_checked_count c) (fCons (fVar 0) (fCons (fC (.int 2)) (fCons (fC (.int 20)) fNil)))))
    (sRet (fCall 1 (G_checked_bands c) (fCons (fVar 0) fNil)))))
end Pg

namespace Lw
open PySem L2 SI Pg
def OkC (c : Cl) : Prop := c.cs = []
noncomputable def G__law_source (c : Cl) : List D → S → R D := runF 2
  ((sRet (fLstT (fCons (fLc (fSrc (fSl (fVar 0) fNo (fPt (fC (.int 63))))) (gN 1) fYes (fCB bInt (fCons (fVar 1) fNil)) [1]) (fCons (fC (.int 0)) (fCons (fC (.int 0)) (fCons (fC (.int 0)) (fCons (fC (.int 7)) fNil))))))))
noncomputable def G__law_draw (c : Cl) : List D → S → R D := runF 7
  ((sSeq (sAugS dIxL dAddI dPut (fVar 0) (fC (.int 3)) (fC (.int 1)))
    (sSeq (sIf (fAnd (fTst (fOp (dEqD false) (fOp dIx (fVar 0) (fC (.int 2))) (fC (.int 0)))) (fTst (fOp dLt (fOp dIx (fVar 0) (fC (.int 1))) (fCB bLen (fCons (fOp dIx (fVar 0) (fC (.int 0))) fNil))))) (sSeq (sAsg 2 (fOp dIx (fOp dIx (fVar 0) (fC (.int 0))) (fOp dIx (fVar 0) (fC (.int 1)))))
    (sSeq (sAugS dIxL dAddI dPut (fVar 0) (fC (.int 1)) (fC (.int 1)))
    (sIf (fTst (fOp dGe (fVar 2) (fOp dPow (fC (.int 10)) (fC (.int 18))))) (sPut dPut (fVar 2) (fVar 0) (fC (.int 2))) (sPut dPut (fOp dMod (fCB bInt (fCons (fOp dAdd (fOp dAdd (fOp dMul (fOp dIx (fVar 0) (fC (.int 4))) (fC (.int 48271))) (fOp dMul (fVar 2) (fC (.int 2)))) (fC (.int 11))) fNil)) (fC (.int 2147483629))) (fVar 0) (fC (.int 4)))))) sNext)
    (sSeq (sIf (fTst (fOp dGt (fOp dIx (fVar 0) (fC (.int 2))) (fC (.int 0)))) (sSeq (sAsg 3 (fOp dMod (fCB bInt (fCons (fOp dIx (fVar 0) (fC (.int 2))) fNil)) (fVar 1)))
    (sSeq (sPut dPut (fOp dDiv (fOp dIx (fVar 0) (fC (.int 2))) (fVar 1)) (fVar 0) (fC (.int 2)))
    (sRet (fVar 3)))) sNext)
    (sSeq (sAsg 4 (fOp dMod (fCB bInt (fCons (fOp dMul (fOp dAdd (fOp dAdd (fOp dIx (fVar 0) (fC (.int 4))) (fOp dMul (fC (.int 6151)) (fOp dIx (fVar 0) (fC (.int 3))))) (fC (.int 1))) (fC (.int 69621))) fNil)) (fC (.int 2147483647))))
    (sSeq (sAsg 5 (fOp dMod (fCB bInt (fCons (fOp dMul (fVar 4) (fOp dAdd (fOp dDiv (fVar 4) (fC (.int 1013))) (fC (.int 48271)))) fNil)) (fC (.int 2147483647))))
    (sSeq (sAsg 6 (fOp dMod (fCB bInt (fCons (fOp dMul (fVar 5) (fOp dAdd (fOp dDiv (fVar 5) (fC (.int 2011))) (fC (.int 40692)))) fNil)) (fC (.int 2147483399))))
    (sRet (fOp dMod (fCB bInt (fCons (fOp dDiv (fVar 6) (fC (.int 8))) fNil)) (fVar 1))))))))))
noncomputable def G__law_integer (c : Cl) : List D → S → R D := runF 1
  ((sRet (fAndV (fCB (bIsi c.cs) (fCons (fVar 0) (fCons (fC (.ty "int")) fNil))) (fNotV (fCB (bIsi c.cs) (fCons (fVar 0) (fCons (fC (.ty "bool")) fNil)))))))
noncomputable def Gn__law_same (c : Cl) : Nat → List D → S → R D
  | 0 => runF 3 sBad
  | n + 1 => runF 3
      ((sSeq (sIf (fTst (fOp (dIs false) (fVar 1) (fC .non))) (sRet (fOp (dIs false) (fVar 0) (fC .non))) sNext)
    (sSeq (sIf (fTst (fCB (bIsi c.cs) (fCons (fVar 1) (fCons (fC (.ty "bool")) fNil)))) (sRet (fAndV (fCB (bIsi c.cs) (fCons (fVar 0) (fCons (fC (.ty "bool")) fNil))) (fOp (dEqD false) (fVar 0) (fVar 1)))) sNext)
    (sSeq (sIf (fTst (fCB (bIsi c.cs) (fCons (fVar 1) (fCons (fC (.ty "int")) fNil)))) (sRet (fAndV (fCall 1 (G__law_integer c) (fCons (fVar 0) fNil)) (fOp (dEqD false) (fVar 0) (fVar 1)))) sNext)
    (sSeq (sIf (fTst (fCB (bIsi c.cs) (fCons (fVar 1) (fCons (fC (.ty "str")) fNil)))) (sRet (fAndV (fCB (bIsi c.cs) (fCons (fVar 0) (fCons (fC (.ty "str")) fNil))) (fOp (dEqD false) (fVar 0) (fVar 1)))) sNext)
    (sSeq (sIf (fAnd (fTst (fCB (bIsi c.cs) (fCons (fVar 1) (fCons (fC (.ty "list")) fNil)))) (fNot (fTst (fCB (bIsi c.cs) (fCons (fVar 0) (fCons (fC (.ty "list")) fNil)))))) (sRet (fC (.bl false))) sNext)
    (sSeq (sIf (fAnd (fTst (fCB (bIsi c.cs) (fCons (fVar 1) (fCons (fC (.ty "tuple")) fNil)))) (fNot (fTst (fCB (bIsi c.cs) (fCons (fVar 0) (fCons (fC (.ty "tuple")) fNil)))))) (sRet (fC (.bl false))) sNext)
    (sSeq (sIf (fTst (fOp (dEqD true) (fCB bLen (fCons (fVar 0) fNil)) (fCB bLen (fCons (fVar 1) fNil)))) (sRet (fC (.bl false))) sNext)
    (sSeq (sFor (fRng dRng1 (fCons (fCB bLen (fCons (fVar 1) fNil)) fNil)) (gN 2) (sIf (fNot (fTst (fCall 2 (Gn__law_same c n) (fCons (fOp dIx (fVar 0) (fVar 2)) (fCons (fOp dIx (fVar 1) (fVar 2)) fNil))))) (sRet (fC (.bl false))) sNext))
    (sRet (fC (.bl true))))))))))))
noncomputable def G__law_same (c : Cl) : List D → S → R D := Gn__law_same c 24
noncomputable def G__law_divisor (c : Cl) : List D → S → R D := runF 4
  ((sSeq (sAsg 0 (fCB bAbs (fCons (fVar 0) fNil)))
    (sSeq (sAsg 1 (fCB bAbs (fCons (fVar 1) fNil)))
    (sSeq (sFor (fRng dRng1 (fCons (fC (.int 200)) fNil)) (gN 2) (sIf (fTst (fOp dGt (fVar 1) (fC (.int 0)))) (sSeq (sAsg 3 (fOp dMod (fCB bInt (fCons (fVar 0) fNil)) (fVar 1)))
    (sSeq (sAsg 0 (fVar 1))
    (sAsg 1 (fVar 3)))) sNext))
    (sRet (fVar 0))))))
noncomputable def G__law_ways (c : Cl) : List D → S → R D := pureF (runF 5
  ((sSeq (sIf (fTst (fOp (dEqD false) (fVar 0) (fC (.int 0)))) (sRet (fCB bInt (fCons (fOp (dEqD false) (fVar 1) (fC (.int 0))) fNil))) sNext)
    (sSeq (sAsg 2 (fLcT (fRng dRng1 (fCons (fOp dAdd (fVar 1) (fC (.int 1))) fNil)) (gN 4) fYes (fC (.int 1)) [4]))
    (sSeq (sFor (fRng dRng1 (fCons (fOp dSub (fVar 0) (fC (.int 1))) fNil)) (gN 3) (sFor (fRng dRng1 (fCons (fVar 1) fNil)) (gN 4) (sPut dPut (fOp dAdd (fOp dIx (fVar 2) (fOp dAdd (fVar 4) (fC (.int 1)))) (fOp dIx (fVar 2) (fVar 4))) (fVar 2) (fOp dAdd (fVar 4) (fC (.int 1))))))
    (sRet (fOp dIx (fVar 2) (fVar 1))))))))
noncomputable def G__law_pair (c : Cl) : List D → S → R D := runF 7
  ((sSeq (sAsg 2 (fLst fNil))
    (sSeq (sFor (fRng dRng1 (fCons (fVar 0) fNil)) (gN 3) (sFor (fRng dRng1 (fCons (fVar 0) fNil)) (gN 4) (sSeq (sAsg 5 (fCB bMin (fCons (fVar 0) (fCons (fCall 2 (G__law_ways c) (fCons (fVar 3) (fCons (fVar 4) fNil))) fNil))))
    (sAsg 2 (fOp dAdd (fVar 2) (fLc (fRng dRng1 (fCons (fVar 5) fNil)) (gN 6) fYes (fTup (fCons (fOp dAdd (fOp dMul (fVar 3) (fOp dIx (fVar 1) (fC (.int 0)))) (fOp dMul (fVar 4) (fOp dIx (fVar 1) (fC (.int 1))))) (fCons (fVar 3) (fCons (fVar 4) fNil)))) [6]))))))
    (sRet (fSl (fOp dIx (fCB bSortD (fCons (fVar 2) fNil)) (fOp dSub (fVar 0) (fC (.int 1)))) (fPt (fC (.int 1))) fNo)))))
noncomputable def G__law_ends (c : Cl) : List D → S → R D := pureF (runF 6
  ((sSeq (sAsg 1 (fLstT fNil))
    (sSeq (sFor (fRng dRng2 (fCons (fC (.int 1)) (fCons (fOp dSub (fVar 0) (fC (.int 1))) fNil))) (gN 2) (sFor (fRng dRng2 (fCons (fC (.int 1)) (fCons (fOp dSub (fVar 0) (fC (.int 1))) fNil))) (gN 3) (sIf (fTst (fOp (dEqD false) (fCall 2 (G__law_divisor c) (fCons (fVar 2) (fCons (fVar 3) fNil))) (fC (.int 1)))) (sSeq (sAsg 4 (fCB bLen (fCons (fLc (fSrc (fVar 1)) (gN 5) (fTst (fOp dLt (fOp dMul (fOp dIx (fVar 5) (fC (.int 0))) (fVar 3)) (fOp dMul (fVar 2) (fOp dIx (fVar 5) (fC (.int 1)))))) (fVar 5) [5]) fNil)))
    (sExpr (fMth mInsert (fVar 1) (fCons (fVar 4) (fCons (fTup (fCons (fVar 2) (fCons (fVar 3) fNil))) fNil))))) sNext)))
    (sRet (fVar 1))))))
noncomputable def G__law_bands (c : Cl) : List D → S → R D := pureF (runF 8
  ((sSeq (sAsg 1 (fCall 1 (G__law_ends c) (fCons (fVar 0) fNil)))
    (sSeq (sAsg 2 (fLstT fNil))
    (sSeq (sAsg 3 (fTup (fCons (fC (.int 0)) (fCons (fC (.int 1)) fNil))))
    (sSeq (sFor (fRng dRng1 (fCons (fOp dAdd (fCB bLen (fCons (fVar 1) fNil)) (fC (.int 1))) fNil)) (gN 4) (sSeq (sAsg 5 (fC .non))
    (sSeq (sAsg 6 (fTup (fCons (fOp dAdd (fOp dIx (fVar 3) (fC (.int 0))) (fOp dIx (fVar 3) (fC (.int 1)))) (fCons (fOp dIx (fVar 3) (fC (.int 1))) fNil))))
    (sSeq (sIf (fTst (fOp dLt (fVar 4) (fCB bLen (fCons (fVar 1) fNil)))) (sSeq (sAsg 5 (fOp dIx (fVar 1) (fVar 4)))
    (sAsg 6 (fTup (fCons (fOp dAdd (fOp dIx (fVar 3) (fC (.int 0))) (fOp dIx (fVar 5) (fC (.int 0)))) (fCons (fOp dAdd (fOp dIx (fVar 3) (fC (.int 1))) (fOp dIx (fVar 5) (fC (.int 1)))) fNil))))) sNext)
    (sSeq (sAsg 7 (fCall 2 (G__law_pair c) (fCons (fVar 0) (fCons (fVar 6) fNil))))
    (sSeq (sIf (fAnd (fTst (fOp dGt (fCB bLen (fCons (fVar 2) fNil)) (fC (.int 0)))) (fTst (fOp (dEqD false) (fSl (fOp dIx (fVar 2) (fNeg (fC (.int 1)))) (fPt (fC (.int 2))) fNo) (fVar 7)))) (sPut dPut (fOp dAdd (fTup (fCons (fOp dIx (fOp dIx (fVar 2) (fNeg (fC (.int 1)))) (fC (.int 0))) (fCons (fVar 5) fNil))) (fVar 7)) (fVar 2) (fNeg (fC (.int 1)))) (sExpr (fApp (fVar 2) (fCons (fOp dAdd (fTup (fCons (fVar 3) (fCons (fVar 5) fNil))) (fVar 7)) fNil))))
    (sAsg 3 (fIf (fTst (fOp dGt (fCB bLen (fCons (fVar 1) fNil)) (fC (.int 0)))) (fOp dIx (fVar 1) (fCB bMin (fCons (fVar 4) (fCons (fOp dSub (fCB bLen (fCons (fVar 1) fNil)) (fC (.int 1))) fNil)))) (fVar 3)))))))))
    (sRet (fVar 2))))))))
noncomputable def G_law (c : Cl) : List D → S → R D := runF 5
  ((sSeq (sAsg 1 (fCall 1 (G__law_source c) (fCons (fVar 0) fNil)))
    (sSeq (sAsg 2 (fOp dAdd (fC (.int 2)) (fCall 2 (G__law_draw c) (fCons (fVar 1) (fCons (fC (.int 7)) fNil)))))
    (sSeq (sAsg 3 (fCall 1 (G__law_bands c) (fCons (fVar 2) fNil)))
    (sSeq (sAsg 4 (fCall 1 (Gr_bands c) (fCons (fVar 2) fNil)))
    (sSeq (sIf (fNot (fTst (fCall 2 (G__law_same c) (fCons (fVar 4) (fCons (fVar 3) fNil))))) (sRet (fC (.bl false))) sNext)
    (sSeq (sExpr (fRev (fVar 4)))
    (sSeq (sExpr (fApp (fVar 4) (fCons (fC (.int 0)) fNil)))
    (sRet (fCall 2 (G__law_same c) (fCons (fCall 1 (G_bands c) (fCons (fVar 2) fNil)) (fCons (fVar 3) fNil))))))))))))
end Lw

namespace SI
open PySem L2
section
variable {L : Lc} {s : S} {Q : Cn (D → S → Prop)} {E : Cn (Addr → List Str → List D → S → Prop)}
/-- .. tracked -/
def lcTE (q : Tg) (t : F Bool) (f : F D) (vs : List Nat) (L : Lc) (r : Src) (s1 : S) : R D := match lcL q t f r (wipeD L vs) s1.length r.items (s1 ++ [.lst []]) with
  | .ok _ s2 => match s2[s1.length]? with
    | some (.lst _) => .ok (.ref s1.length) s2
    | _ => .bad
  | _ => .bad
theorem w_lcT (fi : F Src) (q : Tg) (t : F Bool) (f : F D) (vs : List Nat) : @WR _ (fLcT fi q t f vs L s) Q E = @WR _ (fi L s) ⟨fun r s1 => @WR _ (lcTE q t f vs L r s1) Q E⟩ E := w_bind ..
theorem w_calm (r : RS) {B : Bs} : @WS (r.calm) B = @WS r { B with ex := fun _ _ _ _ _ => False } := by
  cases r <;> rfl
theorem w_tryM {B : Bs} (hs : List Cld) (b : FS) : @WS (sTryM hs b L s) B = @WS (b L s) { B with ex := fun C fs vs L1 s1 => @WS (tryM hs C fs vs L1 s1) B } := by
  unfold sTryM
  cases b L s <;> rfl
theorem w_tm0 {B : Bs} (C : Addr) (fs : List Str) (vs : List D) : @WS (tryM [] C fs vs L s) B = B.ex C fs vs L s := rfl
theorem w_tmN {B : Bs} (sel : List (Addr × Bool)) (h : Addr → Addr → Option Addr → FS) (r : List Cld) (C : Addr) (fs : List Str) (vs : List D) : @WS (tryM ((sel, none, h) :: r) C fs vs L s) B = @WO _ (selOf sel C) ⟨fun z => @WB z ⟨@WS (hAll fun a od => (h a C od L s).calm) B⟩ ⟨@WS (tryM r C fs vs L s) B⟩⟩ := by
  rw [tryM]
  cases selOf sel C with
  | none => rfl
  | some z => cases z <;> rfl
theorem w_tmS {B : Bs} (sel : List (Addr × Bool)) (i : Nat) (h : Addr → Addr → Option Addr → FS) (r : List Cld) (C : Addr) (fs : List Str) (vs : List D) : @WS (tryM ((sel, some i, h) :: r) C fs vs L s) B = @WO _ (selOf sel C) ⟨fun z => @WB z ⟨@WS (hAll fun a od => (h a C od (L.set i (some (.exc a C od fs vs))) s).drop i) B⟩ ⟨@WS (tryM r C fs vs L s) B⟩⟩ := by
  rw [tryM]
  cases selOf sel C with
  | none => rfl
  | some z => cases z <;> rfl
theorem w_dictT : @WR _ (fDictT L s) Q E = Q (.ref s.length) (s ++ [.dk [] []]) := rfl
theorem w_dictI (i j : Int) : @WR _ (fDictI i j L s) Q E = Q (.ref s.length) (s ++ [.dk [.inl i] [.int j]]) := rfl
def getOf (s : S) (d a : D) : Option (Option D) := match dicOf s d, keyD a with
  | some (ks, vs), some k => some (lkD ks vs k)
  | _, _ => none
theorem w_get (fo fk fx : F D) : @WR _ (fGet fo fk fx L s) Q E = @WR _ (fo L s) ⟨fun d s1 => @WO _ (dicOf s1 d) ⟨fun _ => @WR _ (fk L s1) ⟨fun a s2 => @WR _ (fx L s2) ⟨fun x s3 => @WO _ (getOf s3 d a) ⟨fun o => Q (o.getD x) s3⟩⟩ E⟩ E⟩⟩ E := by
  refine (w_bind ..).trans (congrArg (fun z => @WR _ (fo L s) ⟨z⟩ _) ?_)
  funext d s1
  cases dicOf s1 d with
  | none => rfl
  | some z =>
    show @WR _ ((fk L s1).bind _) Q E = @WR _ (fk L s1) _ _
    refine (w_bind ..).trans (congrArg (fun z => @WR _ (fk L s1) ⟨z⟩ _) ?_)
    funext a s2
    refine (w_bind ..).trans (congrArg (fun z => @WR _ (fx L s2) ⟨z⟩ _) ?_)
    funext x s3
    unfold getOf
    cases dicOf s3 d with
    | none => rfl
    | some z =>
      obtain ⟨ks, vs⟩ := z
      cases keyD a <;> rfl
theorem w_lrg1 (f : F D) : @WR _ (fLrg1 f L s) Q E = @WR _ (f L s) ⟨fun d s1 => @WI d ⟨fun n => rg2 0 n = true ∧ Q (.lst (rgItems 0 n.toNat)) s1⟩⟩ E := by
  refine (w_bind ..).trans (congrArg (fun z => @WR _ (f L s) ⟨z⟩ _) ?_)
  funext d s1
  cases d <;> try rfl
  rename_i n
  show @WR _ (if rg2 0 n = true then _ else _) Q E = (_ ∧ _)
  cases rg2 0 n <;> simp [WR]
theorem w_lrg1T (f : F D) : @WR _ (fLrg1T f L s) Q E = @WR _ (f L s) ⟨fun d s1 => @WI d ⟨fun n => rg2 0 n = true ∧ Q (.ref s1.length) (s1 ++ [.lst (rgItems 0 n.toNat)])⟩⟩ E := by
  refine (w_bind ..).trans (congrArg (fun z => @WR _ (f L s) ⟨z⟩ _) ?_)
  funext d s1
  cases d <;> try rfl
  rename_i n
  show @WR _ (if rg2 0 n = true then _ else _) Q E = (_ ∧ _)
  cases rg2 0 n <;> simp [WR]
theorem w_lrg2 (f g : F D) : @WR _ (fLrg2 f g L s) Q E = @WR _ (f L s) ⟨fun d s1 => @WR _ (g L s1) ⟨fun e s2 => @WI d ⟨fun m => @WI e ⟨fun n => rg2 m n = true ∧ Q (.lst (rgItems m (n - m).toNat)) s2⟩⟩⟩ E⟩ E := by
  refine (w_bind ..).trans (congrArg (fun z => @WR _ (f L s) ⟨z⟩ _) ?_)
  funext d s1
  refine (w_bind ..).trans (congrArg (fun z => @WR _ (g L s1) ⟨z⟩ _) ?_)
  funext e s2
  cases d <;> cases e <;> try rfl
  rename_i m n
  show @WR _ (if rg2 m n = true then _ else _) Q E = (_ ∧ _)
  cases rg2 m n <;> simp [WR]
theorem w_lrg2T (f g : F D) : @WR _ (fLrg2T f g L s) Q E = @WR _ (f L s) ⟨fun d s1 => @WR _ (g L s1) ⟨fun e s2 => @WI d ⟨fun m => @WI e ⟨fun n => rg2 m n = true ∧ Q (.ref s2.length) (s2 ++ [.lst (rgItems m (n - m).toNat)])⟩⟩⟩ E⟩ E := by
  refine (w_bind ..).trans (congrArg (fun z => @WR _ (f L s) ⟨z⟩ _) ?_)
  funext d s1
  refine (w_bind ..).trans (congrArg (fun z => @WR _ (g L s1) ⟨z⟩ _) ?_)
  funext e s2
  cases d <;> cases e <;> try rfl
  rename_i m n
  show @WR _ (if rg2 m n = true then _ else _) Q E = (_ ∧ _)
  cases rg2 m n <;> simp [WR]
def popOf (s : S) (d : D) : Option (D × S) := match d with
  | .ref n => match s[n]? with
    | some (.lst xs) => match xs[xs.length - 1]? with
      | some y => some (y, s.set n (.lst xs.dropLast))
      | none => none
    | _ => none
  | _ => none
theorem w_pop0 (fo : F D) : @WR _ (fPop0 fo L s) Q E = @WR _ (fo L s) ⟨fun d s1 => @WO _ (popOf s1 d) ⟨fun z => Q z.1 z.2⟩⟩ E := by
  refine (w_bind ..).trans (congrArg (fun z => @WR _ (fo L s) ⟨z⟩ _) ?_)
  funext d s1
  cases d <;> try rfl
  rename_i n
  unfold popOf
  dsimp only
  cases s1[n]? with
  | none => rfl
  | some o =>
    cases o <;> try rfl
    rename_i xs
    dsimp only
    cases xs[xs.length - 1]? <;> rfl
theorem w_slT (f : F D) (l h : F (Option Int)) : @WR _ (fSlT f l h L s) Q E = @WR _ (f L s) ⟨fun d s1 => @WR _ (l L s1) ⟨fun lo s2 => @WR _ (h L s2) ⟨fun hi s3 => @WO _ (lstOf s3 d) ⟨fun xs => Q (.ref s3.length) (s3 ++ [.lst (cutD xs lo hi)])⟩⟩ E⟩ E⟩ E := by
  refine (w_bind ..).trans (congrArg (fun z => @WR _ (f L s) ⟨z⟩ _) ?_)
  funext d s1
  refine (w_bind ..).trans (congrArg (fun z => @WR _ (l L s1) ⟨z⟩ _) ?_)
  funext lo s2
  refine (w_bind ..).trans (congrArg (fun z => @WR _ (h L s2) ⟨z⟩ _) ?_)
  funext hi s3
  cases lstOf s3 d <;> rfl
theorem w_addT (f g : F D) : @WR _ (fAddT f g L s) Q E = @WR _ (f L s) ⟨fun a s1 => @WR _ (g L s1) ⟨fun b s2 => @WO _ (lsO s2 a) ⟨fun xs => @WO _ (lsO s2 b) ⟨fun ys => xs.length + ys.length ≤ big ∧ Q (.ref s2.length) (s2 ++ [.lst (xs ++ ys)])⟩⟩⟩ E⟩ E := by
  refine (w_bind ..).trans (congrArg (fun z => @WR _ (f L s) ⟨z⟩ _) ?_)
  funext a s1
  refine (w_bind ..).trans (congrArg (fun z => @WR _ (g L s1) ⟨z⟩ _) ?_)
  funext b s2
  cases lsO s2 a with
  | none => rfl
  | some xs =>
    cases lsO s2 b with
    | none => rfl
    | some ys =>
      show @WR _ (if xs.length + ys.length ≤ big then _ else _) Q E = (_ ∧ _)
      by_cases h : xs.length + ys.length ≤ big
      · simp only [h, if_true, true_and]
        rfl
      · simp only [h, if_false, false_and]
        rfl
theorem w_mth (m : S → D → List D → Option (D × S)) (fo : F D) (fa : F (List D)) : @WR _ (fMth m fo fa L s) Q E = @WR _ (fo L s) ⟨fun d s1 => @WO _ (lstOf s1 d) ⟨fun _ => @WR _ (fa L s1) ⟨fun ds s2 => @WO _ (m s2 d ds) ⟨fun z => Q z.1 z.2⟩⟩ E⟩⟩ E := by
  refine (w_bind ..).trans (congrArg (fun z => @WR _ (fo L s) ⟨z⟩ _) ?_)
  funext d s1
  cases lstOf s1 d with
  | none => rfl
  | some _ =>
    refine (w_bind ..).trans (congrArg (fun z => @WR _ (fa L s1) ⟨z⟩ _) ?_)
    funext ds s2
    cases m s2 d ds <;> rfl
end
theorem bMin_int (s : S) (i j : Int) : bMin s [.int i, .int j] = some (.int (min i j)) := by
  show some (D.int (if j < i then j else i)) = _
  congr 2
  omega
theorem bMax_int (s : S) (i j : Int) : bMax s [.int i, .int j] = some (.int (max i j)) := by
  show some (D.int (if j > i then j else i)) = _
  congr 2
  omega
theorem bAbs_int (s : S) (i : Int) : bAbs s [.int i] = some (.int (i.natAbs : Int)) := by
  show some (D.int (if i < 0 then -i else i)) = _
  congr 2
  omega
theorem dIs_non (neg : Bool) (s : S) : dIs neg s .non .non = some (.bl (!neg)) := by cases neg <;> rfl
theorem dIs_int (neg : Bool) (s : S) (i : Int) : dIs neg s (.int i) .non = some (.bl neg) := by cases neg <;> rfl
theorem dIs_nn {neg : Bool} {s : S} {d : D} (h : d ≠ .non) : dIs neg s d .non = some (.bl neg) := by
  unfold dIs
  rw [decide_eq_false h]
  cases neg <;> rfl
theorem iSeq_lst (s : S) (xs : List D) : iSeq s (.lst xs) = some ⟨xs, none⟩ := rfl
theorem iSeq_tup (s : S) (xs : List D) : iSeq s (.tup xs) = some ⟨xs, none⟩ := rfl
theorem iSeq_rdl (s : S) (xs : List D) : iSeq s (.rdl xs) = some ⟨xs, none⟩ := rfl
theorem iEnu_lst (s : S) (xs : List D) : iEnu s (.lst xs) = some ⟨enumI 0 xs, none⟩ := rfl
theorem iEnu_tup (s : S) (xs : List D) : iEnu s (.tup xs) = some ⟨enumI 0 xs, none⟩ := rfl
theorem rg_ok {i : Int} (h0 : -4611686018427387904 ≤ i) (h1 : i < 4611686018427387904) : rgOk i = true := by
  unfold rgOk
  rw [decide_eq_true_eq]
  omega
theorem rng1 {j : Int} (h0 : -4611686018427387904 ≤ j) (h1 : j < 4611686018427387904) : dRng1 [.int j] = some ⟨rgItems 0 j.toNat, none⟩ := by
  show (if rgOk j = true then _ else _) = _
  rw [if_pos (rg_ok h0 h1)]
theorem rng2 {i j : Int} (h0 : -4611686018427387904 ≤ i) (h1 : i < 4611686018427387904) (h2 : -4611686018427387904 ≤ j) (h3 : j < 4611686018427387904) : dRng2 [.int i, .int j] = some ⟨rgItems i (j - i).toNat, none⟩ := by
  show (if rgOk i = true ∧ rgOk j = true then _ else _) = _
  rw [if_pos ⟨rg_ok h0 h1, rg_ok h2 h3⟩]
theorem bits {x : Int} {a : Nat} (h0 : 0 ≤ x) (h : x < 2 ^ a) : x.natAbs.log2 ≤ a := by
  rcases Nat.eq_zero_or_pos a with rfl | ha
  · have : x = 0 := by
      have : (2 : Int) ^ 0 = 1 := rfl
      omega
    subst this
    exact Nat.zero_le _
  · exact log_of h0 h ha
theorem bitsN {x a : Nat} (h : x < 2 ^ a) : ((x : Int)).natAbs.log2 ≤ a := bits (by omega) (by exact_mod_cast h)
theorem dMul_ok {s : S} {i j : Int} {a b : Nat} (ha : i.natAbs.log2 ≤ a) (hb : j.natAbs.log2 ≤ b) (h : a + b < 100000000) : dMul s (.int i) (.int j) = some (.int (i * j)) := by
  rw [dMul_int, if_pos (mulOk_log ha hb h)]
/-- numbers of everyday size -/
theorem dMul_small {s : S} {i j : Int} (h0 : -(10 ^ 60) ≤ i) (h1 : i ≤ 10 ^ 60) (h2 : -(10 ^ 60) ≤ j) (h3 : j ≤ 10 ^ 60) : dMul s (.int i) (.int j) = some (.int (i * j)) := by
  have k : ∀ x : Int, -(10 ^ 60) ≤ x → x ≤ 10 ^ 60 → x.natAbs.log2 ≤ 250 := fun x a b => by
    refine Nat.le_of_lt (log2_small (by decide) ?_)
    have e : (10 : Int) ^ 60 < 2 ^ 250 := by decide +kernel
    have : x.natAbs ≤ 10 ^ 60 := by omega
    have e2 : 10 ^ 60 < 2 ^ 250 := by decide +kernel
    omega
  exact dMul_ok (k i h0 h1) (k j h2 h3) (by decide)
theorem dDiv_ok {s : S} {i j : Int} {a : Nat} (h0 : 0 < j) (h1 : j.natAbs.log2 ≤ a) (h : a < 9000) : dDiv s (.int i) (.int j) = some (.int (i / j)) := by
  unfold dDiv
  rw [dI2_int, if_pos]
  unfold divOk
  rw [decide_eq_true_eq]
  exact ⟨h0, by omega⟩
/-! names side by side, setdefault, a dict of one entry, max with a default -/
section
variable {L : Lc} {s : S} {B : Bs} {Q : Cn (D → S → Prop)} {E : Cn (Addr → List Str → List D → S → Prop)}
def nth2 : List D → Option (D × D)
  | [v, w] => some (v, w)
  | _ => none
def nth3 : List D → Option (D × D × D)
  | [u, v, w] => some (u, v, w)
  | _ => none
theorem nth2_eq (v w : D) : nth2 [v, w] = some (v, w) := rfl
theorem nth3_eq (u v w : D) : nth3 [u, v, w] = some (u, v, w) := rfl
theorem w_par2 (i j : Nat) (fa : F (List D)) : @WS (sPar2 i j fa L s) B = @WR _ (fa L s) ⟨fun ds s1 => @WO _ (nth2 ds) ⟨fun p => @WL ((L.set i (some p.1)).set j (some p.2)) ⟨fun L' => B.nx L' s1⟩⟩⟩ ⟨fun C fs vs s => B.ex C fs vs L s⟩ := by
  refine (w_bindS ..).trans (congrArg (fun z => @WR _ (fa L s) ⟨z⟩ _) ?_)
  funext ds s1
  rcases ds with _ | ⟨a, _ | ⟨b, _ | ⟨d, ds⟩⟩⟩ <;> rfl
theorem w_par3 (i j k : Nat) (fa : F (List D)) : @WS (sPar3 i j k fa L s) B = @WR _ (fa L s) ⟨fun ds s1 => @WO _ (nth3 ds) ⟨fun p => @WL (((L.set i (some p.1)).set j (some p.2.1)).set k (some p.2.2)) ⟨fun L' => B.nx L' s1⟩⟩⟩ ⟨fun C fs vs s => B.ex C fs vs L s⟩ := by
  refine (w_bindS ..).trans (congrArg (fun z => @WR _ (fa L s) ⟨z⟩ _) ?_)
  funext ds s1
  rcases ds with _ | ⟨a, _ | ⟨b, _ | ⟨d, _ | ⟨e, ds⟩⟩⟩⟩ <;> rfl
def isDk (n : Nat) (s : S) : Bool := match s[n]? with
  | some (.dk _ _) => true
  | _ => false
def setdOf (n : Nat) (a x : D) (s : S) : Option (D × S) := match s[n]?, keyD a with
  | some (.dk ks vs), some k => if ks.Nodup ∧ ks.length < big then match lkD ks vs k with
      | some v => some (v, s)
      | none => some (x, s.set n (.dk (ptD ks vs k x).1 (ptD ks vs k x).2))
    else none
  | _, _ => none
theorem w_setd (fo fk fx : F D) : @WR _ (fSetd fo fk fx L s) Q E = @WR _ (fo L s) ⟨fun d s1 => @WN d ⟨fun n => isDk n s1 = true ∧ @WR _ (fk L s1) ⟨fun a s2 => @WR _ (fx L s2) ⟨fun x s3 => @WO _ (setdOf n a x s3) ⟨fun r => Q r.1 r.2⟩⟩ E⟩ E⟩⟩ E := by
  refine (w_bind ..).trans (congrArg (fun z => @WR _ (fo L s) ⟨z⟩ _) ?_)
  funext d s1
  cases d <;> try rfl
  rename_i n
  show @WR _ (match s1[n]? with
    | some (.dk _ _) => _
    | _ => .bad) Q E = (isDk n s1 = true ∧ _)
  unfold isDk
  cases s1[n]? with
  | none => simp only [Bool.false_eq_true, false_and]; rfl
  | some o =>
    cases o <;> try (simp only [Bool.false_eq_true, false_and]; rfl)
    simp only [true_and]
    refine (w_bind ..).trans (congrArg (fun z => @WR _ (fk L s1) ⟨z⟩ _) ?_)
    funext a s2
    refine (w_bind ..).trans (congrArg (fun z => @WR _ (fx L s2) ⟨z⟩ _) ?_)
    funext x s3
    unfold setdOf
    cases s3[n]? with
    | none => rfl
    | some o2 =>
      cases o2 <;> try rfl
      rename_i ks vs
      cases keyD a with
      | none => rfl
      | some k =>
        dsimp only
        by_cases h : ks.Nodup ∧ ks.length < big
        · rw [if_pos h, if_pos h]
          cases lkD ks vs k <;> rfl
        · rw [if_neg h, if_neg h]
          rfl
def dict1Of (n : Nat) (i : Int) (d : D) (s : S) : Option S := match s[n]? with
  | some (.dk [] []) => some (s.set n (.dk [.inl i] [d]))
  | _ => none
theorem w_dict1 (i : Int) (f : F D) : @WR _ (fDict1 i f L s) Q E = @WR _ (f L (s ++ [.dk [] []])) ⟨fun d s2 => @WO _ (dict1Of s.length i d s2) ⟨fun s' => Q (.ref s.length) s'⟩⟩ E := by
  refine (w_bind ..).trans (congrArg (fun z => @WR _ (f L (s ++ [.dk [] []])) ⟨z⟩ _) ?_)
  funext d s2
  unfold dict1Of
  cases s2[s.length]? with
  | none => rfl
  | some o =>
    cases o <;> try rfl
    rename_i ks vs
    cases ks <;> cases vs <;> rfl
theorem w_maxDf (fa fk : F (List D)) : @WR _ (fMaxDf fa fk L s) Q E = @WR _ (fa L s) ⟨fun ds s1 => @WR _ (fk L s1) ⟨fun xs s2 => @WO _ (mxOf s2 ds xs) ⟨fun d => Q d s2⟩⟩ E⟩ E := by
  refine (w_bind ..).trans (congrArg (fun z => @WR _ (fa L s) ⟨z⟩ _) ?_)
  funext ds s1
  refine (w_bind ..).trans (congrArg (fun z => @WR _ (fk L s1) ⟨z⟩ _) ?_)
  funext xs s2
  cases mxOf s2 ds xs <;> rfl
theorem w_srtT (fa : F (List D)) : @WR _ (fSrtT fa L s) Q E = @WR _ (fa L s) ⟨fun ds s1 => @WO _ (srtOf s1 ds) ⟨fun xs => Q (.ref s1.length) (s1 ++ [.lst xs])⟩⟩ E := by
  refine (w_bind ..).trans (congrArg (fun z => @WR _ (fa L s) ⟨z⟩ _) ?_)
  funext ds s1
  cases srtOf s1 ds <;> rfl
end
end SI

/-! binomials, and rows of turns by their sums: plain -/
namespace Mt
def bin : Nat → Nat → Nat
  | _, 0 => 1
  | 0, _ + 1 => 0
  | n + 1, k + 1 => bin n k + bin n (k + 1)
theorem bin_0 (n : Nat) : bin n 0 = 1 := by cases n <;> rfl
theorem bin_s (n k : Nat) : bin (n + 1) (k + 1) = bin n k + bin n (k + 1) := rfl
theorem bin_lt : ∀ (n k : Nat), n < k → bin n k = 0
  | _, 0, h => absurd h (Nat.not_lt_zero _)
  | 0, k + 1, _ => rfl
  | n + 1, k + 1, h => by rw [bin_s, bin_lt n k (by omega), bin_lt n (k + 1) (by omega)]
theorem bin_self : ∀ n : Nat, bin n n = 1
  | 0 => rfl
  | n + 1 => by rw [bin_s, bin_self n, bin_lt n (n + 1) (by omega)]
theorem bin_absorb : ∀ (n k : Nat), (k + 1) * bin (n + 1) (k + 1) = (n + 1) * bin n k
  | 0, 0 => rfl
  | 0, k + 1 => by
    rw [bin_lt 1 (k + 1 + 1) (by omega), bin_lt 0 (k + 1) (by omega)]
    rfl
  | n + 1, 0 => by
    have h := bin_absorb n 0
    rw [bin_0] at h
    rw [bin_s, bin_0]
    omega
  | n + 1, k + 1 => by
    have h1 := bin_absorb n k
    have h2 := bin_absorb n (k + 1)
    have e : bin (n + 1 + 1) (k + 1 + 1) = bin (n + 1) (k + 1) + bin (n + 1) (k + 1 + 1) := rfl
    have e2 : bin (n + 1) (k + 1) = bin n k + bin n (k + 1) := rfl
    rw [e, Nat.mul_add, h2, Nat.add_mul (k + 1) 1, h1, e2, Nat.mul_add (n + 1 + 1)]
    rw [Nat.add_mul (n + 1) 1 (bin n k), Nat.add_mul (n + 1) 1 (bin n (k + 1))]
    omega
theorem bin_symm : ∀ (a b : Nat), bin (a + b) a = bin (a + b) b
  | 0, b => by rw [Nat.zero_add, bin_0, bin_self]
  | a + 1, 0 => by rw [Nat.add_zero, bin_0, bin_self]
  | a + 1, b + 1 => by
    have h1 := bin_symm a (b + 1)
    have h2 := bin_symm (a + 1) b
    rw [show a + 1 + (b + 1) = (a + (b + 1)) + 1 by omega, bin_s, bin_s, h1]
    rw [show a + (b + 1) = a + 1 + b by omega, h2]
    omega
theorem bin_pos : ∀ (n k : Nat), k ≤ n → 0 < bin n k
  | n, 0, _ => by rw [bin_0]; omega
  | 0, k + 1, h => by omega
  | n + 1, k + 1, h => by
    have := bin_pos n k (by omega)
    rw [bin_s]
    omega
theorem bin_le_pow : ∀ (n k : Nat), bin n k ≤ (n + 1) ^ k
  | n, 0 => by rw [bin_0]; exact Nat.le_refl _
  | 0, k + 1 => by rw [bin_lt 0 (k + 1) (by omega)]; exact Nat.zero_le _
  | n + 1, k + 1 => by
    have h := bin_absorb n k
    have h1 := bin_le_pow n k
    have h2 : bin (n + 1) (k + 1) ≤ (k + 1) * bin (n + 1) (k + 1) := Nat.le_mul_of_pos_left _ (by omega)
    have h3 : (n + 1) * bin n k ≤ (n + 1 + 1) * (n + 1 + 1) ^ k := Nat.mul_le_mul (by omega) (Nat.le_trans h1 (Nat.pow_le_pow_left (by omega) k))
    rw [Nat.pow_succ, Nat.mul_comm _ (n + 1 + 1)]
    omega
/-! sums -/
def sm : Nat → (Nat → Nat) → Nat
  | 0, _ => 0
  | n + 1, f => sm n f + f n
def smZ : Nat → (Nat → Int) → Int
  | 0, _ => 0
  | n + 1, f => smZ n f + f n
theorem sm_congr {n : Nat} {f g : Nat → Nat} (h : ∀ i, i < n → f i = g i) : sm n f = sm n g := by
  induction n with
  | zero => rfl
  | succ n ih => rw [sm, sm, ih fun i hi => h i (by omega), h n (by omega)]
theorem smZ_congr {n : Nat} {f g : Nat → Int} (h : ∀ i, i < n → f i = g i) : smZ n f = smZ n g := by
  induction n with
  | zero => rfl
  | succ n ih => rw [smZ, smZ, ih fun i hi => h i (by omega), h n (by omega)]
theorem sm_front (n : Nat) (f : Nat → Nat) : sm (n + 1) f = f 0 + sm n fun i => f (i + 1) := by
  induction n with
  | zero => simp [sm]
  | succ n ih => rw [sm, ih, sm, Nat.add_assoc]
theorem smZ_add (n : Nat) (f g : Nat → Int) : smZ n (fun i => f i + g i) = smZ n f + smZ n g := by
  induction n with
  | zero => rfl
  | succ n ih =>
    simp only [smZ, ih]
    omega
theorem smZ_sub (n : Nat) (f g : Nat → Int) : smZ n (fun i => f i - g i) = smZ n f - smZ n g := by
  induction n with
  | zero => rfl
  | succ n ih =>
    simp only [smZ, ih]
    omega
theorem smZ_zero {n : Nat} {f : Nat → Int} (h : ∀ i, i < n → f i = 0) : smZ n f = 0 := by
  induction n with
  | zero => rfl
  | succ n ih => rw [smZ, ih fun i hi => h i (by omega), h n (by omega)]; rfl
theorem smZ_le {n : Nat} {f g : Nat → Int} (h : ∀ i, i < n → f i ≤ g i) : smZ n f ≤ smZ n g := by
  induction n with
  | zero => exact Int.le_refl _
  | succ n ih =>
    have h1 := ih fun i hi => h i (by omega)
    have h2 := h n (by omega)
    rw [smZ, smZ]
    omega
theorem smZ_nonneg {n : Nat} {f : Nat → Int} (h : ∀ i, i < n → 0 ≤ f i) : 0 ≤ smZ n f := by
  have := smZ_le (n := n) (f := fun _ => 0) (g := f) h
  rwa [smZ_zero fun _ _ => rfl] at this
theorem smZ_extend {n m : Nat} {f : Nat → Int} (h : n ≤ m) (hz : ∀ i, n ≤ i → i < m → f i = 0) : smZ m f = smZ n f := by
  induction h with
  | refl => rfl
  | step hle ih =>
    rename_i k
    rw [smZ, ih fun i h1 h2 => hz i h1 (by omega), hz k hle (by omega), Int.add_zero]
theorem smZ_shorter {n m : Nat} {f : Nat → Int} (h : n ≤ m) (hp : ∀ i, i < m → 0 ≤ f i) : smZ n f ≤ smZ m f := by
  induction h with
  | refl => exact Int.le_refl _
  | step hle ih =>
    rename_i k
    have := ih fun i hi => hp i (by omega)
    have := hp k (by omega)
    rw [smZ]
    omega
theorem sm_le {n : Nat} {f g : Nat → Nat} (h : ∀ i, i < n → f i ≤ g i) : sm n f ≤ sm n g := by
  induction n with
  | zero => exact Nat.le_refl _
  | succ n ih =>
    have h1 := ih fun i hi => h i (by omega)
    have h2 := h n (by omega)
    rw [sm, sm]
    omega
theorem sm_shorter {n m : Nat} (f : Nat → Nat) (h : n ≤ m) : sm n f ≤ sm m f := by
  induction h with
  | refl => exact Nat.le_refl _
  | step _ ih => rw [sm]; omega
/-! rows of turns -/
def cap (t : Option Nat) (m : Nat) : Nat := match t with
  | none => m + 1
  | some t => min t (m + 1)
/-- how many rows of d turns, each below t, have a sum of at most m -/
def cnt (t : Option Nat) : Nat → Nat → Nat
  | 0, _ => 1
  | d + 1, m => sm (cap t m) fun i => cnt t d (m - i)
theorem cnt_0 (t : Option Nat) (m : Nat) : cnt t 0 m = 1 := rfl
theorem cnt_s (t : Option Nat) (d m : Nat) : cnt t (d + 1) m = sm (cap t m) fun i => cnt t d (m - i) := rfl
def back (t : Option Nat) (d m : Nat) : Nat := match t with
  | none => 0
  | some t => if t ≤ m then cnt (some t) d (m - t) else 0
theorem cnt_rec (t : Option Nat) (ht : t ≠ some 0) (d m : Nat) : cnt t (d + 1) (m + 1) + back t d (m + 1) = cnt t (d + 1) m + cnt t d (m + 1) := by
  cases t with
  | none =>
    rw [cnt_s, cnt_s]
    show sm (m + 1 + 1) _ + 0 = sm (m + 1) _ + _
    rw [sm_front, Nat.sub_zero, sm_congr (g := fun i => cnt none d (m - i)) fun i hi => by rw [show m + 1 - (i + 1) = m - i by omega]]
    omega
  | some t =>
    have ht' : 0 < t := by
      rcases Nat.eq_zero_or_pos t with h | h
      · exact absurd (by rw [h]) ht
      · exact h
    rw [cnt_s, cnt_s]
    by_cases h : t ≤ m + 1
    · have e1 : cap (some t) (m + 1) = (t - 1) + 1 := by unfold cap; dsimp only; omega
      have e2 : cap (some t) m = (t - 1) + 1 := by unfold cap; dsimp only; omega
      have e3 : back (some t) d (m + 1) = cnt (some t) d (m - (t - 1)) := by
        unfold back
        dsimp only
        rw [if_pos h, show m + 1 - t = m - (t - 1) by omega]
      rw [e1, e2, e3, sm_front, Nat.sub_zero, sm, sm_congr (g := fun i => cnt (some t) d (m - i)) fun i hi => by rw [show m + 1 - (i + 1) = m - i by omega]]
      omega
    · have e1 : cap (some t) (m + 1) = (m + 1) + 1 := by unfold cap; dsimp only; omega
      have e2 : cap (some t) m = m + 1 := by unfold cap; dsimp only; omega
      have e3 : back (some t) d (m + 1) = 0 := by
        unfold back
        dsimp only
        rw [if_neg h]
      rw [e1, e2, e3, sm_front, Nat.sub_zero, sm_congr (g := fun i => cnt (some t) d (m - i)) fun i hi => by rw [show m + 1 - (i + 1) = m - i by omega]]
      omega
theorem cnt_s0 (t : Option Nat) (ht : t ≠ some 0) : ∀ d : Nat, cnt t d 0 = 1
  | 0 => rfl
  | d + 1 => by
    have e : cap t 0 = 1 := by
      cases t with
      | none => rfl
      | some t =>
        have : t ≠ 0 := fun h => ht (by rw [h])
        unfold cap
        dsimp only
        omega
    rw [cnt_s, e, sm, sm, Nat.zero_add, cnt_s0 t ht d]
theorem cnt_none : ∀ d m : Nat, cnt none d m = bin (m + d) d
  | 0, m => by rw [cnt_0, bin_0]
  | d + 1, 0 => by rw [cnt_s0 none (by simp), Nat.zero_add, bin_self]
  | d + 1, m + 1 => by
    have h := cnt_rec none (by simp) d m
    have h1 := cnt_none (d + 1) m
    have h2 := cnt_none d (m + 1)
    have e : back none d (m + 1) = 0 := rfl
    have e2 : bin (m + 1 + (d + 1)) (d + 1) = bin (m + 1 + d) d + bin (m + 1 + d) (d + 1) := rfl
    rw [show m + 1 + d = m + (d + 1) by omega] at e2 h2
    rw [e2]
    omega
theorem cap_mono (t : Option Nat) {m n : Nat} (h : m ≤ n) : cap t m ≤ cap t n := by
  cases t with
  | none => unfold cap; dsimp only; omega
  | some t => unfold cap; dsimp only; omega
theorem cnt_mono (t : Option Nat) : ∀ (d : Nat) {m n : Nat}, m ≤ n → cnt t d m ≤ cnt t d n
  | 0, _, _, _ => Nat.le_refl _
  | d + 1, m, n, h => by
    rw [cnt_s, cnt_s]
    exact Nat.le_trans (sm_le fun i _ => cnt_mono t d (by omega)) (sm_shorter _ (cap_mono t h))
theorem sm_const (n k : Nat) : sm n (fun _ => k) = n * k := by
  induction n with
  | zero => simp [sm]
  | succ n ih => rw [sm, ih, Nat.succ_mul]
/-! the alternating sum -/
def B (d : Nat) (x : Int) : Int := if x < 0 then 0 else (bin (x.toNat + d) d : Nat)
def cz (t : Option Nat) (d : Nat) (m : Int) : Int := if m < 0 then 0 else (cnt t d m.toNat : Nat)
theorem cz_neg {t : Option Nat} {d : Nat} {x : Int} (h : x < 0) : cz t d x = 0 := if_pos h
theorem cz_nat (t : Option Nat) (d k : Nat) : cz t d (k : Int) = (cnt t d k : Nat) := by
  unfold cz
  rw [if_neg (by omega), Int.toNat_natCast]
end Mt

namespace Pg
open PySem L2 SI Mt
variable {c : Cl}
/-! ### the number of turns -/
def tD : Option Nat → D
  | none => .non
  | some t => .int t
def OkT (t : Option Nat) : Prop := ∀ n, t = some n → 1 ≤ n ∧ n ≤ 10 ^ 12
theorem OkT.ne {t : Option Nat} (h : OkT t) : t ≠ some 0 := fun e => by
  have := (h 0 e).1
  omega
/-! ### machines -/
structure Mc where
  o : Int
  l : Int
  g : Int
namespace Mc
def letter (M : Mc) : Int := 2 * M.o + M.l
def gap (M : Mc) : Int := max M.o M.g
structure Ok (M : Mc) : Prop where
  o0 : 0 ≤ M.o
  o1 : M.o ≤ 1000000000
  l0 : 0 ≤ M.l
  l1 : M.l ≤ 1000000000
  g0 : 1 ≤ M.g
  g1 : M.g ≤ 1000000000
  z : 0 < 2 * M.o + M.l
def d (M : Mc) (c : Cl) : D := .ins c.Machine ["o", "l", "g", "letter", "gap"] [.int M.o, .int M.l, .int M.g, .int M.letter, .int M.gap]
variable {M : Mc}
theorem Ok.letter0 (h : M.Ok) : 1 ≤ M.letter := by
  have := h.z
  unfold letter
  omega
theorem Ok.gap0 (h : M.Ok) : 1 ≤ M.gap := by
  have := h.g0
  unfold gap
  omega
end Mc
variable {M : Mc}
theorem fld_any {s : S} {n : Str} {r : D} (hn : (List.zip (["o", "l", "g", "letter", "gap"] : List Str) [D.int M.o, .int M.l, .int M.g, .int M.letter, .int M.gap]).lookup n = some r) : fldOf s [c.Machine] n (M.d c) = some r := by
  unfold fldOf
  show (if c.Machine ∈ [c.Machine] then _ else _) = _
  rw [if_pos (List.mem_singleton.mpr rfl)]
  exact hn
theorem fld_letter (s : S) : fldOf s [c.Machine] "letter" (M.d c) = some (.int M.letter) := fld_any rfl
theorem fld_gap (s : S) : fldOf s [c.Machine] "gap" (M.d c) = some (.int M.gap) := fld_any rfl
def hor (M : Mc) (t : Option Nat) : Int := match t with
  | none => 120 * M.letter
  | some _ => 40 * M.letter
/-! ### how many are known -/
def FR (M : Mc) (t : Option Nat) (x : Int) : Int := smZ (x / M.letter + 1).toNat fun d => cz t d ((x - d * M.letter) / M.gap)
def FRs (M : Mc) (t : Option Nat) (x : Int) : List Int → Int
  | [] => 0
  | r :: rs => FR M t (x - r) + FRs M t x rs
theorem cz_nonneg (t : Option Nat) (d : Nat) (m : Int) : 0 ≤ cz t d m := by
  unfold cz
  split <;> omega
theorem FR_nonneg (M : Mc) (t : Option Nat) (x : Int) : 0 ≤ FR M t x := smZ_nonneg fun _ _ => cz_nonneg ..
theorem FRs_nonneg (M : Mc) (t : Option Nat) (x : Int) : ∀ rs : List Int, 0 ≤ FRs M t x rs
  | [] => Int.le_refl _
  | r :: rs => Int.add_nonneg (FR_nonneg ..) (FRs_nonneg M t x rs)
/-- r is T, or is above e if T is -/
structure Kn (T e r : Int) : Prop where
  le : r ≤ T
  or : r = T ∨ e < r
theorem Kn.eq {T e r : Int} (h : Kn T e r) (hT : T ≤ e) : r = T := by
  rcases h.or with h1 | h1
  · exact h1
  · have := h.le
    omega
theorem Kn.lt {T e r : Int} (h : Kn T e r) (hT : e < T) : e < r := by
  rcases h.or with h1 | h1
  · omega
  · exact h1
end Pg

namespace Pg
open PySem L2 SI Mt
variable {c : Cl} {M : Mc}
/-! ### integers and other things -/
theorem isint_int (i : Int) (s : S) : G_is_integer c [.int i] s = .ok (.bl true) s := rfl
/-- no integer -/
def NI (c : Cl) (d : D) : Prop := ∀ s, G_is_integer c [d] s = .ok (.bl false) s
theorem NI.nint {i : Int} (h : NI c (.int i)) : False := by
  have := (h []).symm.trans (isint_int i [])
  cases this
inductive Th (c : Cl) : D → Prop
  | int (i : Int) : Th c (.int i)
  | ni {d : D} (h : NI c d) : Th c d
/-- an integer from lo to hi -/
def gb (d : D) (lo hi : Int) : Bool := match d with
  | .int i => decide (lo ≤ i) && decide (i ≤ hi)
  | _ => false
theorem gb_ni {d : D} (h : NI c d) (lo hi : Int) : gb d lo hi = false := by
  unfold gb
  split
  · exact h.nint.elim
  · rfl
theorem gb_in {i lo hi : Int} (h0 : lo ≤ i) (h1 : i ≤ hi) : gb (.int i) lo hi = true := by
  unfold gb
  simp [h0, h1]
theorem between_ok {d : D} (h : Th c d) (lo hi : Int) (s : S) : G_between c [d, .int lo, .int hi] s = .ok (.bl (gb d lo hi)) s := by
  apply eq_ok
  unfold G_between
  cases h with
  | int i =>
    unfold gb
    by_cases h : lo ≤ i
    · simp (implicitDefEqProofs := false) only [isint_int, h, Bool.true_and, ↓w_srtT, ↓w_par2, ↓w_par3, ↓w_setd, ↓w_dict1, ↓w_maxDf, ↓w_slT, ↓w_addT, ↓w_dictT, ↓w_dictI, ↓w_get, ↓w_lrg1T, ↓w_lrg2T, ↓w_lrg1, ↓w_lrg2, ↓w_pop0, ↓w_lcT, ↓w_mth, ↓w_calm, ↓w_tryM, ↓w_tm0, ↓w_tmN, ↓w_tmS, ↓w_seq, ↓w_next, ↓w_break, ↓w_cont, ↓w_retN, ↓w_asg, ↓w_expr, ↓w_ret, ↓w_if, ↓w_asgG, ↓w_for, ↓w_put, ↓w_aug, ↓w_augS, ↓w_raise0, ↓w_raise1, ↓w_raise2, ↓w_try, ↓w_tryAs, ↓w_var, ↓w_c, ↓w_op, ↓w_chain, ↓w_notV, ↓w_andV, ↓w_orV, ↓w_ifE, ↓w_tst, ↓w_not, ↓w_and, ↓w_or, ↓w_yes, ↓w_nil, ↓w_cons, ↓w_tup, ↓w_lst, ↓w_lstT, ↓w_cb, ↓w_call, ↓w_callK, ↓w_neg, ↓w_no, ↓w_pt, ↓w_sl, ↓w_fld, ↓w_src, ↓w_rng, ↓w_enu, ↓w_listT, ↓w_app, ↓w_lc, ↓w_xf, ↓w_fldT, ↓w_make, ↓w_makeL, ↓w_run, ↓w_cut, ↓w_pure, ↓w_drop, nth2_eq, nth3_eq, w_ok, w_ex, w_nx, w_rt, w_bk, w_ct, w_exS, w_some, w_v, w_tr, w_fa, w_tb, w_ti, w_tn, w_L, w_L0, wb_not, cn_f, startD, arr, gN_eq, gTp, gCn, gNl, Option.bind_some, List.filterMap_cons, List.filterMap_nil, List.map_cons, List.map_nil, List.replicate_succ, List.replicate_zero, List.cons_append, List.nil_append, List.getElem?_cons_zero, List.getElem?_cons_succ, List.set_cons_zero, List.set_cons_succ, List.length_cons, List.length_nil, Nat.reduceAdd, Nat.reduceSub, Nat.reduceLeDiff, Nat.reduceEqDiff, Int.reducePow, Int.reduceToNat, Int.reduceNeg, Int.reduceAdd, Int.reduceMul, Int.reduceSub, Int.reduceLT, Int.reduceLE, Int.reduceEq, Nat.zero_add, Int.zero_add, big_eq, true_and, and_true, and_self, dSub_int, dAdd_int, dAddI_int, dLt_int, dLe_int, dGt_int, dGe_int, dEqD_int, bInt_int, bLen_lst, bLen_tup, bMin_int, bMax_int, bAbs_int, dIs_non, dIs_int, dIs_nn, Bool.not_true, Bool.not_false, decide_true, decide_false, reduceIte, Bool.false_eq_true, if_false, if_true, iSeq_lst, iSeq_tup, iSeq_rdl, iEnu_lst, iEnu_tup]
    · simp (implicitDefEqProofs := false) only [isint_int, h, Bool.false_and, ↓w_srtT, ↓w_par2, ↓w_par3, ↓w_setd, ↓w_dict1, ↓w_maxDf, ↓w_slT, ↓w_addT, ↓w_dictT, ↓w_dictI, ↓w_get, ↓w_lrg1T, ↓w_lrg2T, ↓w_lrg1, ↓w_lrg2, ↓w_pop0, ↓w_lcT, ↓w_mth, ↓w_calm, ↓w_tryM, ↓w_tm0, ↓w_tmN, ↓w_tmS, ↓w_seq, ↓w_next, ↓w_break, ↓w_cont, ↓w_retN, ↓w_asg, ↓w_expr, ↓w_ret, ↓w_if, ↓w_asgG, ↓w_for, ↓w_put, ↓w_aug, ↓w_augS, ↓w_raise0, ↓w_raise1, ↓w_raise2, ↓w_try, ↓w_tryAs, ↓w_var, ↓w_c, ↓w_op, ↓w_chain, ↓w_notV, ↓w_andV, ↓w_orV, ↓w_ifE, ↓w_tst, ↓w_not, ↓w_and, ↓w_or, ↓w_yes, ↓w_nil, ↓w_cons, ↓w_tup, ↓w_lst, ↓w_lstT, ↓w_cb, ↓w_call, ↓w_callK, ↓w_neg, ↓w_no, ↓w_pt, ↓w_sl, ↓w_fld, ↓w_src, ↓w_rng, ↓w_enu, ↓w_listT, ↓w_app, ↓w_lc, ↓w_xf, ↓w_fldT, ↓w_make, ↓w_makeL, ↓w_run, ↓w_cut, ↓w_pure, ↓w_drop, nth2_eq, nth3_eq, w_ok, w_ex, w_nx, w_rt, w_bk, w_ct, w_exS, w_some, w_v, w_tr, w_fa, w_tb, w_ti, w_tn, w_L, w_L0, wb_not, cn_f, startD, arr, gN_eq, gTp, gCn, gNl, Option.bind_some, List.filterMap_cons, List.filterMap_nil, List.map_cons, List.map_nil, List.replicate_succ, List.replicate_zero, List.cons_append, List.nil_append, List.getElem?_cons_zero, List.getElem?_cons_succ, List.set_cons_zero, List.set_cons_succ, List.length_cons, List.length_nil, Nat.reduceAdd, Nat.reduceSub, Nat.reduceLeDiff, Nat.reduceEqDiff, Int.reducePow, Int.reduceToNat, Int.reduceNeg, Int.reduceAdd, Int.reduceMul, Int.reduceSub, Int.reduceLT, Int.reduceLE, Int.reduceEq, Nat.zero_add, Int.zero_add, big_eq, true_and, and_true, and_self, dSub_int, dAdd_int, dAddI_int, dLt_int, dLe_int, dGt_int, dGe_int, dEqD_int, bInt_int, bLen_lst, bLen_tup, bMin_int, bMax_int, bAbs_int, dIs_non, dIs_int, dIs_nn, Bool.not_true, Bool.not_false, decide_true, decide_false, reduceIte, Bool.false_eq_true, if_false, if_true, iSeq_lst, iSeq_tup, iSeq_rdl, iEnu_lst, iEnu_tup]
  | ni h =>
    rw [gb_ni h]
    have h' := h s
    simp (implicitDefEqProofs := false) only [h', ↓w_srtT, ↓w_par2, ↓w_par3, ↓w_setd, ↓w_dict1, ↓w_maxDf, ↓w_slT, ↓w_addT, ↓w_dictT, ↓w_dictI, ↓w_get, ↓w_lrg1T, ↓w_lrg2T, ↓w_lrg1, ↓w_lrg2, ↓w_pop0, ↓w_lcT, ↓w_mth, ↓w_calm, ↓w_tryM, ↓w_tm0, ↓w_tmN, ↓w_tmS, ↓w_seq, ↓w_next, ↓w_break, ↓w_cont, ↓w_retN, ↓w_asg, ↓w_expr, ↓w_ret, ↓w_if, ↓w_asgG, ↓w_for, ↓w_put, ↓w_aug, ↓w_augS, ↓w_raise0, ↓w_raise1, ↓w_raise2, ↓w_try, ↓w_tryAs, ↓w_var, ↓w_c, ↓w_op, ↓w_chain, ↓w_notV, ↓w_andV, ↓w_orV, ↓w_ifE, ↓w_tst, ↓w_not, ↓w_and, ↓w_or, ↓w_yes, ↓w_nil, ↓w_cons, ↓w_tup, ↓w_lst, ↓w_lstT, ↓w_cb, ↓w_call, ↓w_callK, ↓w_neg, ↓w_no, ↓w_pt, ↓w_sl, ↓w_fld, ↓w_src, ↓w_rng, ↓w_enu, ↓w_listT, ↓w_app, ↓w_lc, ↓w_xf, ↓w_fldT, ↓w_make, ↓w_makeL, ↓w_run, ↓w_cut, ↓w_pure, ↓w_drop, nth2_eq, nth3_eq, w_ok, w_ex, w_nx, w_rt, w_bk, w_ct, w_exS, w_some, w_v, w_tr, w_fa, w_tb, w_ti, w_tn, w_L, w_L0, wb_not, cn_f, startD, arr, gN_eq, gTp, gCn, gNl, Option.bind_some, List.filterMap_cons, List.filterMap_nil, List.map_cons, List.map_nil, List.replicate_succ, List.replicate_zero, List.cons_append, List.nil_append, List.getElem?_cons_zero, List.getElem?_cons_succ, List.set_cons_zero, List.set_cons_succ, List.length_cons, List.length_nil, Nat.reduceAdd, Nat.reduceSub, Nat.reduceLeDiff, Nat.reduceEqDiff, Int.reducePow, Int.reduceToNat, Int.reduceNeg, Int.reduceAdd, Int.reduceMul, Int.reduceSub, Int.reduceLT, Int.reduceLE, Int.reduceEq, Nat.zero_add, Int.zero_add, big_eq, true_and, and_true, and_self, dSub_int, dAdd_int, dAddI_int, dLt_int, dLe_int, dGt_int, dGe_int, dEqD_int, bInt_int, bLen_lst, bLen_tup, bMin_int, bMax_int, bAbs_int, dIs_non, dIs_int, dIs_nn, Bool.not_true, Bool.not_false, decide_true, decide_false, reduceIte, Bool.false_eq_true, if_false, if_true, iSeq_lst, iSeq_tup, iSeq_rdl, iEnu_lst, iEnu_tup]
theorem between_int {i lo hi : Int} (h0 : lo ≤ i) (h1 : i ≤ hi) (s : S) : G_between c [.int i, .int lo, .int hi] s = .ok (.bl true) s := by
  rw [between_ok (.int i), gb_in h0 h1]
theorem count_ok {i lo hi : Int} (h0 : lo ≤ i) (h1 : i ≤ hi) (s : S) : G_checked_count c [.int i, .int lo, .int hi] s = .ok (.int i) s := by
  apply eq_ok
  unfold G_checked_count
  simp (implicitDefEqProofs := false) only [between_int h0 h1, ↓w_srtT, ↓w_par2, ↓w_par3, ↓w_setd, ↓w_dict1, ↓w_maxDf, ↓w_slT, ↓w_addT, ↓w_dictT, ↓w_dictI, ↓w_get, ↓w_lrg1T, ↓w_lrg2T, ↓w_lrg1, ↓w_lrg2, ↓w_pop0, ↓w_lcT, ↓w_mth, ↓w_calm, ↓w_tryM, ↓w_tm0, ↓w_tmN, ↓w_tmS, ↓w_seq, ↓w_next, ↓w_break, ↓w_cont, ↓w_retN, ↓w_asg, ↓w_expr, ↓w_ret, ↓w_if, ↓w_asgG, ↓w_for, ↓w_put, ↓w_aug, ↓w_augS, ↓w_raise0, ↓w_raise1, ↓w_raise2, ↓w_try, ↓w_tryAs, ↓w_var, ↓w_c, ↓w_op, ↓w_chain, ↓w_notV, ↓w_andV, ↓w_orV, ↓w_ifE, ↓w_tst, ↓w_not, ↓w_and, ↓w_or, ↓w_yes, ↓w_nil, ↓w_cons, ↓w_tup, ↓w_lst, ↓w_lstT, ↓w_cb, ↓w_call, ↓w_callK, ↓w_neg, ↓w_no, ↓w_pt, ↓w_sl, ↓w_fld, ↓w_src, ↓w_rng, ↓w_enu, ↓w_listT, ↓w_app, ↓w_lc, ↓w_xf, ↓w_fldT, ↓w_make, ↓w_makeL, ↓w_run, ↓w_cut, ↓w_pure, ↓w_drop, nth2_eq, nth3_eq, w_ok, w_ex, w_nx, w_rt, w_bk, w_ct, w_exS, w_some, w_v, w_tr, w_fa, w_tb, w_ti, w_tn, w_L, w_L0, wb_not, cn_f, startD, arr, gN_eq, gTp, gCn, gNl, Option.bind_some, List.filterMap_cons, List.filterMap_nil, List.map_cons, List.map_nil, List.replicate_succ, List.replicate_zero, List.cons_append, List.nil_append, List.getElem?_cons_zero, List.getElem?_cons_succ, List.set_cons_zero, List.set_cons_succ, List.length_cons, List.length_nil, Nat.reduceAdd, Nat.reduceSub, Nat.reduceLeDiff, Nat.reduceEqDiff, Int.reducePow, Int.reduceToNat, Int.reduceNeg, Int.reduceAdd, Int.reduceMul, Int.reduceSub, Int.reduceLT, Int.reduceLE, Int.reduceEq, Nat.zero_add, Int.zero_add, big_eq, true_and, and_true, and_self, dSub_int, dAdd_int, dAddI_int, dLt_int, dLe_int, dGt_int, dGe_int, dEqD_int, bInt_int, bLen_lst, bLen_tup, bMin_int, bMax_int, bAbs_int, dIs_non, dIs_int, dIs_nn, Bool.not_true, Bool.not_false, decide_true, decide_false, reduceIte, Bool.false_eq_true, if_false, if_true, iSeq_lst, iSeq_tup, iSeq_rdl, iEnu_lst, iEnu_tup]
/-! ### roots -/
/-- ascending from lo on, at most 10 ** 12 -/
def Asc : Int → List Int → Prop
  | _, [] => True
  | lo, r :: rs => lo ≤ r ∧ r ≤ 1000000000000 ∧ Asc r rs
theorem Asc.mono {lo lo' : Int} (h : lo' ≤ lo) : ∀ {rs : List Int}, Asc lo rs → Asc lo' rs
  | [], _ => trivial
  | r :: rs, ⟨h1, h2, h3⟩ => ⟨by omega, h2, h3⟩
theorem Asc.mem {lo : Int} : ∀ {rs : List Int}, Asc lo rs → ∀ r ∈ rs, lo ≤ r ∧ r ≤ 1000000000000
  | r :: rs, ⟨h1, h2, h3⟩, x, hx => by
    rcases List.mem_cons.mp hx with rfl | hx
    · exact ⟨h1, h2⟩
    · exact (h3.mono h1).mem x hx
structure OkR (rs : List Int) : Prop where
  l0 : 1 ≤ rs.length
  l1 : rs.length ≤ 6
  asc : Asc 0 rs
theorem OkR.mem {rs : List Int} (h : OkR rs) : ∀ r ∈ rs, 0 ≤ r ∧ r ≤ 1000000000000 := h.asc.mem
/-! ### Machine(..) -/
/-! ### reach, least_time -/
def MOST : Int := 10000000000000000000000000000000000000000
end Pg

/-! the number of hands: its recursion and its bounds -/
namespace Pg
open Mt
variable {M : Mc} {t : Option Nat}
theorem ediv_neg {a b : Int} (h : a < 0) (hb : 0 < b) : a / b < 0 := Int.ediv_neg_of_neg_of_pos h hb
theorem FR_ext (hM : M.Ok) {x : Int} {N : Nat} (h : (x / M.letter + 1).toNat ≤ N) : FR M t x = smZ N fun d => cz t d ((x - d * M.letter) / M.gap) := by
  have l0 := hM.letter0
  have g0 := hM.gap0
  unfold FR
  refine (smZ_extend h fun i h1 h2 => ?_).symm
  have hx : x / M.letter < (i : Int) := by omega
  have : x < i * M.letter := (Int.ediv_lt_iff_lt_mul (by omega)).mp hx
  exact cz_neg (ediv_neg (by omega) (by omega))
/-! bounds -/
end Pg

/-! monotony of the counts; least times -/
namespace Pg
open PySem L2 SI Mt
variable {c : Cl} {M : Mc} {t : Option Nat}
theorem cz_mono {d : Nat} {m n : Int} (h : m ≤ n) : cz t d m ≤ cz t d n := by
  by_cases h0 : m < 0
  · rw [cz_neg h0]
    exact cz_nonneg ..
  · unfold cz
    rw [if_neg h0, if_neg (by omega)]
    exact_mod_cast cnt_mono t d (by omega)
theorem FR_mono (hM : M.Ok) {x y : Int} (h : x ≤ y) : FR M t x ≤ FR M t y := by
  have l0 := hM.letter0
  have g0 := hM.gap0
  have : x / M.letter ≤ y / M.letter := Int.ediv_le_ediv (by omega) h
  rw [FR_ext hM (N := (y / M.letter + 1).toNat) (by omega)]
  unfold FR
  exact smZ_le fun d _ => cz_mono (Int.ediv_le_ediv (by omega) (by omega))
theorem FRs_mono (hM : M.Ok) {x y : Int} (h : x ≤ y) : ∀ rs : List Int, FRs M t x rs ≤ FRs M t y rs
  | [] => Int.le_refl _
  | r :: rs => by
    have h1 := FR_mono (t := t) hM (x := x - r) (y := y - r) (by omega)
    have h2 := FRs_mono hM h rs
    rw [FRs, FRs]
    omega
/-- x is the first time at which n hands are known -/
structure LT (M : Mc) (t : Option Nat) (rs : List Int) (n x : Int) : Prop where
  x0 : 0 ≤ x
  x1 : x ≤ hor M t
  lt : FRs M t (x - 1) rs < n
  le : n ≤ FRs M t x rs
end Pg

/-! fewest turns -/
namespace Pg
open PySem L2 SI Mt
variable {c : Cl} {M : Mc} {t u : Option Nat}
/-- the fewest turns with which n hands are known at x -/
structure Few (M : Mc) (n x : Int) (k : Nat) : Prop where
  k0 : 1 ≤ k
  k1 : k ≤ 1000000000000
  le : n ≤ FR M (some k) x
  lt : 1 < k → FR M (some (k - 1)) x < n
end Pg

/-! the growing tree, hand by hand: only times -/
namespace Pg
open Mt SI
variable {M : Mc} {t : Option Nat}
/-- the hands below the sendings that a hand has left, of which the first arrives at 0 -/
def UU (M : Mc) (t : Option Nat) (s : Nat) (y : Int) : Int := match t with
  | none => smZ (y / M.gap + 1).toNat fun j => FR M none (y - j * M.gap)
  | some T => smZ (T - s) fun j => FR M (some T) (y - j * M.gap)
/-- what is below those that wait -/
def WS2 (M : Mc) (t : Option Nat) (x : Int) : List (Int × Nat) → Int
  | [] => 0
  | z :: zs => UU M t z.2 (x - z.1) + WS2 M t x zs
/-- k hands are told, the last one at a time; these wait -/
structure Gr (M : Mc) (t : Option Nat) (T k : Nat) (last : Int) (zs : List (Int × Nat)) : Prop where
  all : ∀ x, last ≤ x → FR M t x = k + 1 + WS2 M t x zs
  opn : ∀ z ∈ zs, z.2 < T → last ≤ z.1
  lt : FR M t (last - 1) < k + 1
  le : ((k : Int) + 1) ≤ FR M t last
  snt : ∀ z ∈ zs, z.2 ≤ k
  len : zs.length = k + 1
/-- the time at which n hands are told, whatever the horizon -/
def MinT (M : Mc) (t : Option Nat) (n : Int) (x : Int) : Prop := FR M t (x - 1) < n ∧ n ≤ FR M t x
theorem Gr.min {T k : Nat} {last : Int} {zs : List (Int × Nat)} (h : Gr M t T k last zs) : MinT M t (k + 1) last := ⟨h.lt, h.le⟩
end Pg

/-! bands of ratios: plain -/
namespace Pg
open Mt
def wyR (a : Nat) : Nat → Nat
  | 0 => 1
  | b + 1 => wyR a b * (a + b) / (b + 1)
theorem wyR_bin {a : Nat} (h : 1 ≤ a) : ∀ b, wyR a b = bin (a - 1 + b) b
  | 0 => (bin_0 _).symm
  | b + 1 => by
    have := bin_absorb (a - 1 + b) b
    rw [wyR, wyR_bin h b, show a - 1 + (b + 1) = a - 1 + b + 1 by omega, show a + b = a - 1 + b + 1 by omega, Nat.mul_comm, ← this]
    exact Nat.mul_div_cancel_left _ (by omega)
def wy (a b : Nat) : Nat := if a = 0 then (if b = 0 then 1 else 0) else wyR a b
def chz (a : Nat) (m : Int) : Int := if m < 0 then 0 else (wyR (a + 1) m.toNat : Nat)
theorem cz_chz (a : Nat) (m : Int) : cz none a m = chz a m := by
  unfold cz chz
  rw [cnt_none, wyR_bin (by omega), Nat.add_sub_cancel, Nat.add_comm, bin_symm]
/-- ratios -/
abbrev Rt := Nat × Nat
def flr (k : Int) (r : Rt) : Int := k * r.1 / r.2
def lowA (T S : Nat) (lo : Rt) (hi : Option Rt) (a : Nat) : Int :=
  if a ≤ T then chz a (S + flr ((T : Int) - a) lo) else match hi with
    | some h => chz a (S + flr ((T : Int) - a) h)
    | none => 0
def upA (T S : Nat) (lo : Rt) (hi : Option Rt) (a : Nat) : Int :=
  if a = 0 then 1 else if T ≤ a then chz a ((S : Int) - 1 - flr ((a : Int) - T) lo) else match hi with
    | some h => chz a ((S : Int) - 1 - flr ((a : Int) - T) h)
    | none => 0
def chkI (n T S : Nat) (lo : Rt) (hi : Option Rt) : Bool :=
  decide ((n : Int) ≤ smZ n (lowA T S lo hi)) && decide (smZ n (upA T S lo hi) < n) && decide ((S : Int) - 1 - flr ((n : Int) - T) lo < 0) && decide (T ≤ n) && decide (1 ≤ lo.2) && (match hi with
    | some h => decide (1 ≤ h.2)
    | none => decide (T ≤ 1))
theorem flr_le {k p q L G : Int} (q0 : 0 < q) (G0 : 0 < G) (h : k * p * G ≤ k * L * q) : k * p / q ≤ k * L / G := by
  apply Int.le_ediv_of_mul_le G0
  have h1 : k * p / q * q ≤ k * p := Int.ediv_mul_le _ (by omega)
  have h2 : k * p / q * q * G ≤ k * p * G := Int.mul_le_mul_of_nonneg_right h1 (by omega)
  have h3 : k * p / q * G * q ≤ k * L * q := by
    rw [Int.mul_right_comm]
    omega
  exact Int.le_of_mul_le_mul_right h3 q0
theorem flr_up {j p q L G m S : Int} (q0 : 0 < q) (G0 : 0 < G) (h : j * p * G ≤ j * L * q) (hm : m * G ≤ S * G - 1 - j * L) : m ≤ S - 1 - j * p / q := by
  have h1 : j * p / q * q ≤ j * p := Int.ediv_mul_le _ (by omega)
  have h2 : j * p / q * q * G ≤ j * p * G := Int.mul_le_mul_of_nonneg_right h1 (by omega)
  have h3 : j * L * q ≤ (S * G - 1 - m * G) * q := Int.mul_le_mul_of_nonneg_right (by omega) (by omega)
  have h4 : j * p / q * G * q ≤ (S * G - 1 - m * G) * q := by
    rw [Int.mul_right_comm]
    omega
  have h5 := Int.le_of_mul_le_mul_right h4 q0
  generalize j * p / q = z at *
  rcases Int.lt_or_le (z + m - S) 0 with h6 | h6
  · omega
  · have h7 := Int.mul_nonneg h6 (show 0 ≤ G by omega)
    rw [Int.sub_mul, Int.add_mul] at h7
    omega
theorem chz_mono {a : Nat} {x y : Int} (h : x ≤ y) : chz a x ≤ chz a y := by
  rw [← cz_chz, ← cz_chz]
  exact cz_mono h
theorem chz_nonneg (a : Nat) (m : Int) : 0 ≤ chz a m := by rw [← cz_chz]; exact cz_nonneg ..
theorem chz_0 (m : Int) : chz 0 m ≤ 1 := by
  rw [← cz_chz]
  unfold cz
  split
  · omega
  · rw [cnt_0]
    omega
theorem FR_chz {M : Mc} (l0 : 1 ≤ M.letter) (g0 : 1 ≤ M.gap) (x : Int) {N : Nat} (h : (x / M.letter + 1).toNat ≤ N) : FR M none x = smZ N fun d => chz d ((x - d * M.letter) / M.gap) := by
  unfold FR
  simp only [cz_chz]
  refine (smZ_extend h fun i hi _ => ?_).symm
  have h1 : x / M.letter < i := by omega
  have h2 : x < i * M.letter := (Int.ediv_lt_iff_lt_mul (by omega)).mp h1
  have h3 : (x - i * M.letter) / M.gap < 0 := Int.ediv_neg_of_neg_of_pos (by omega) (by omega)
  unfold chz
  rw [if_pos h3]
theorem fit_I {n T S : Nat} {lo : Rt} {hi : Option Rt} (h : chkI n T S lo hi = true) {M : Mc} (l0 : 1 ≤ M.letter) (g0 : 1 ≤ M.gap) (h1 : lo.1 * M.gap ≤ M.letter * lo.2) (h2 : ∀ r, hi = some r → M.letter * r.2 ≤ r.1 * M.gap) :
    MinT M none n (T * M.letter + S * M.gap) := by
  unfold chkI at h
  simp only [Bool.and_eq_true, decide_eq_true_eq] at h
  obtain ⟨⟨⟨⟨⟨c1, c2⟩, c3⟩, c4⟩, c5⟩, c6⟩ := h
  generalize hL : M.letter = L at *
  generalize hG : M.gap = G at *
  obtain ⟨p, q⟩ := lo
  dsimp only at c5 h1
  -- the signs
  have hlo : ∀ k : Int, 0 ≤ k → k * p * G ≤ k * L * q := fun k hk => by
    have := Int.mul_le_mul_of_nonneg_left h1 hk
    rw [Int.mul_assoc, Int.mul_assoc]
    exact this
  have hhi : ∀ r, hi = some r → ∀ k : Int, k ≤ 0 → k * r.1 * G ≤ k * L * r.2 := fun r hr k hk => by
    have := Int.mul_le_mul_of_nonneg_left (h2 r hr) (show 0 ≤ -k by omega)
    rw [Int.neg_mul, Int.neg_mul] at this
    rw [Int.mul_assoc, Int.mul_assoc]
    omega
  obtain ⟨N, hN⟩ : ∃ N : Nat, N = n + ((T * L + S * G) / L + 1).toNat + ((T * L + S * G - 1) / L + 1).toNat := ⟨_, rfl⟩
  have em : ∀ a : Nat, (T * L + S * G - a * L) / G = S + ((T : Int) - a) * L / G := fun a => by
    rw [show (T : Int) * L + S * G - a * L = ((T : Int) - a) * L + S * G by rw [Int.sub_mul]; omega, Int.add_mul_ediv_right _ _ (by omega)]
    omega
  have eu : ∀ (a : Nat) (m : Int), m = (T * L + S * G - 1 - a * L) / G → m * G ≤ S * G - 1 - ((a : Int) - T) * L := fun a m e => by
    have : m * G ≤ T * L + S * G - 1 - a * L := by rw [e]; exact Int.ediv_mul_le _ (by omega)
    rw [Int.sub_mul]
    omega
  constructor
  · rw [FR_chz (by omega) (by omega) _ (N := N) (by rw [hL]; omega), hL, hG]
    have z : ∀ a : Nat, n ≤ a → (T * L + S * G - 1 - a * L) / G < 0 := fun a ha => by
      have u := flr_up (q := q) (by omega) (by omega) (hlo ((a : Int) - T) (by omega)) (eu a _ rfl)
      have : flr ((n : Int) - T) (p, q) ≤ ((a : Int) - T) * p / q := by
        unfold flr
        exact Int.ediv_le_ediv (by omega) (Int.mul_le_mul_of_nonneg_right (by omega) (by omega))
      omega
    rw [smZ_extend (n := n) (by omega) fun i hi _ => by unfold chz; rw [if_pos (z i hi)]]
    refine Int.lt_of_le_of_lt (smZ_le fun a ha => ?_) c2
    unfold upA
    by_cases a0 : a = 0
    · rw [if_pos a0, a0]
      exact chz_0 _
    · rw [if_neg a0]
      by_cases aT : T ≤ a
      · rw [if_pos aT]
        exact chz_mono (flr_up (q := q) (by omega) (by omega) (hlo ((a : Int) - T) (by omega)) (eu a _ rfl))
      · rw [if_neg aT]
        cases hi with
        | none =>
          have := of_decide_eq_true c6
          omega
        | some r =>
          have := of_decide_eq_true c6
          exact chz_mono (flr_up (q := r.2) (by omega) (by omega) (hhi r rfl ((a : Int) - T) (by omega)) (eu a _ rfl))
  · rw [FR_chz (by omega) (by omega) _ (N := N) (by rw [hL]; omega), hL, hG]
    refine Int.le_trans c1 (Int.le_trans (smZ_le fun a ha => ?_) (smZ_shorter (n := n) (by omega) fun i _ => chz_nonneg ..))
    rw [em a]
    unfold lowA
    by_cases aT : a ≤ T
    · rw [if_pos aT]
      refine chz_mono (Int.add_le_add_left ?_ _)
      exact flr_le (by omega) (by omega) (hlo _ (by omega))
    · rw [if_neg aT]
      cases hi with
      | none => exact chz_nonneg ..
      | some r =>
        have := of_decide_eq_true c6
        refine chz_mono (Int.add_le_add_left ?_ _)
        exact flr_le (by omega) (by omega) (hhi r rfl _ (by omega))
def chkCh (n T S : Nat) : Rt → List Rt → Option Rt → Bool
  | lo, [], hi => chkI n T S lo hi
  | lo, c :: cs, hi => chkI n T S lo (some c) && chkCh n T S c cs hi
theorem fit_ch {n T S : Nat} {M : Mc} (l0 : 1 ≤ M.letter) (g0 : 1 ≤ M.gap) {hi : Option Rt} (h2 : ∀ r, hi = some r → M.letter * r.2 ≤ r.1 * M.gap) :
    ∀ {cs : List Rt} {lo : Rt}, chkCh n T S lo cs hi = true → lo.1 * M.gap ≤ M.letter * lo.2 → MinT M none n (T * M.letter + S * M.gap)
  | [], lo, h, h1 => fit_I h l0 g0 h1 h2
  | c :: cs, lo, h, h1 => by
    unfold chkCh at h
    simp only [Bool.and_eq_true] at h
    rcases Int.le_total (c.1 * M.gap) (M.letter * c.2) with e | e
    · exact fit_ch l0 g0 h2 h.2 e
    · exact fit_I h.1 l0 g0 h1 fun r hr => by cases hr; exact e
/-! the program's own pairs -/
def inn (l g : Nat) (ss : List Nat) (p0 : Nat × Nat) : Nat → Option Nat × Nat × Nat
  | 0 => (none, p0)
  | k + 1 => match inn l g ss p0 k with
    | (t, p) => if k = 0 ∧ ss.getD 0 0 ≠ 0 then (t, p) else match t with
      | none => (some (k * l + ss.getD k 0 * g), k, ss.getD k 0)
      | some u => if k * l + ss.getD k 0 * g < u then (some (k * l + ss.getD k 0 * g), k, ss.getD k 0) else (some u, p)
abbrev PSt := Int × List Nat × Nat × Nat
def pstp (n l g : Nat) : PSt → PSt
  | (left, ss, p) => match (inn l g ss p n).2 with
    | (a, b) => (left - (wy a b : Nat), ss.set a (b + 1), a, b)
def prun (n l g : Nat) : Nat → PSt → Nat × Nat
  | 0, s => s.2.2
  | f + 1, s => if 0 < s.1 then prun n l g f (pstp n l g s) else s.2.2
def pairN (n l g : Nat) : Nat × Nat := prun n l g n (n, List.replicate n 0, 0, 0)
def rky (r : Rt) : Nat := r.1 * 10000 / r.2
def isr (r : Rt) : List Rt → List Rt
  | [] => [r]
  | y :: ys => if rky r ≤ rky y then r :: y :: ys else y :: isr r ys
def srt : List Rt → List Rt
  | [] => []
  | x :: xs => isr x (srt xs)
def rawN (n : Nat) : List Rt := (List.range' 1 (n - 2)).flatMap fun u => ((List.range' 1 (n - 2)).filter fun d => Nat.gcd u d = 1).map fun d => (u, d)
def crossN (n : Nat) : List Rt := srt (rawN n)
abbrev Bd := Rt × Option Rt × Nat × Nat
def btw (low : Rt) : Option Rt → Rt
  | none => (low.1 + low.2, low.2)
  | some h => (low.1 + h.1, low.2 + h.2)
abbrev BSt := List Bd × Rt × Option (Nat × Nat)
def lowOf (b : List Bd) : Rt := match b.getLast? with
  | some x => x.1
  | none => (0, 1)
def bstp (n : Nat) (st : BSt) (high : Option Rt) : BSt := match st with
  | (found, low, pair) => match btw low high with
    | (x, y) => match pairN n x y with
      | (T, S) => ((if pair = some (T, S) then found.set (found.length - 1) (lowOf found, high, T, S) else found ++ [(low, high, T, S)]), high.getD low, some (T, S))
def bandsN (n : Nat) : List Bd := (((crossN n).map some ++ [none]).foldl (bstp n) ([], (0, 1), none)).1
def rlt (a b : Rt) : Bool := Nat.blt (a.1 * b.2) (b.1 * a.2)
def cuts (C : List Rt) (lo : Rt) (hi : Option Rt) : List Rt := C.filter fun c => rlt lo c && (match hi with
  | none => true
  | some h => rlt c h)
def chkB (n : Nat) (C : List Rt) (b : Bd) : Bool := chkCh n b.2.2.1 b.2.2.2 b.1 (cuts C b.1 b.2.1) b.2.1
def rtOk (r : Rt) : Bool := Nat.gcd r.1 r.2 == 1 && Nat.ble 1 r.2 && Nat.ble r.1 18 && Nat.ble r.2 18
/-- what the law asks of the bands -/
def chkL (n : Nat) : List Bd → Bool
  | [] => false
  | [b] => b.2.1 == none && b.1 == (n - 2, 1) && b.2.2 == (1, n - 2)
  | b :: b' :: r => (match b.2.1 with
    | none => false
    | some h => rtOk h && rlt b.1 h && b'.1 == h && !(b'.2.2 == b.2.2) && decide ((h.1 : Int) * ((b.2.2.1 : Int) - b'.2.2.1) = h.2 * ((b'.2.2.2 : Int) - b.2.2.2))) && chkL n (b' :: r)
def chkN (n : Nat) : Bool := (bandsN n).all (fun b => chkB n (crossN n) b && rtOk b.1 && Nat.ble b.2.2.1 20 && Nat.ble b.2.2.2 20) && chkL n (bandsN n) && (match bandsN n with
  | [] => false
  | b :: _ => b.1 == (0, 1) && b.2.2 == (n - 1, 0)) && Nat.ble (bandsN n).length 100
end Pg

namespace SI
open PySem L2 Pg Mt
variable {c : Cl} {Q : Cn (D → S → Prop)} {E : Cn (Addr → List Str → List D → S → Prop)} {v : SrcV} {n : Nat} {r : S} {lim : Int}
theorem SrcV.Ok.mono {m : Nat} (h : v.Ok n) (hm : n ≤ m) : v.Ok m := ⟨h.i0, h.a0, h.b0, by have := h.bn; omega, h.d0, h.dn, h.cs⟩
theorem src_wp {ns : List Int} (hl : ns.length ≤ 63) (hb : ∀ z ∈ ns, Builtin.Int.intBits z ≤ 1048576) (h : ∀ v : SrcV, v.Ok 0 → Q (.ref 0) [v.o]) : @WR _ (srcG [.rdl (ns.map D.int)] []) Q E := by
  rw [src_ok ns hl]
  exact h _ (src_start hb)
/-! items of a written list -/
theorem it0 (s : S) (a : D) (xs : List D) : dIx s (.tup (a :: xs)) (.int 0) = some a := by
  rw [dIx_tup, atI_in (by decide) (by simp only [List.length_cons]; omega)]
  rfl
theorem it1 (s : S) (a b : D) (xs : List D) : dIx s (.tup (a :: b :: xs)) (.int 1) = some b := by
  rw [dIx_tup, atI_in (by decide) (by simp only [List.length_cons]; omega)]
  rfl
theorem it2 (s : S) (a b d : D) (xs : List D) : dIx s (.tup (a :: b :: d :: xs)) (.int 2) = some d := by
  rw [dIx_tup, atI_in (by decide) (by simp only [List.length_cons]; omega)]
  rfl
theorem it3 (s : S) (a b d e : D) (xs : List D) : dIx s (.tup (a :: b :: d :: e :: xs)) (.int 3) = some e := by
  rw [dIx_tup, atI_in (by decide) (by simp only [List.length_cons]; omega)]
  rfl
/-! ### numbers of a machine -/
end SI

/-! the tracked list that came last -/
namespace SI
open PySem L2
variable {o p : O} {r : S} {xs : List D}
/-! the same behind any store -/
theorem ap_isl : isLst r.length (r ++ [.lst xs]) = true := by
  unfold isLst
  rw [get_app]
theorem ap_app (y : D) (h : xs.length < 1000000) : appOf r.length y (r ++ [.lst xs]) = some (r ++ [.lst (xs ++ [y])]) := by
  unfold appOf
  rw [get_app]
  show (if xs.length < big then _ else _) = _
  rw [if_pos (show xs.length < big from h), set_app]
theorem ap_seq : seqOf (r ++ [.lst xs]) (.ref r.length) = some xs := by
  unfold seqOf
  simp only [get_app]
theorem ap_len : bLen (r ++ [.lst xs]) [.ref r.length] = some (.int xs.length) := by
  show (seqOf _ _).map _ = _
  rw [ap_seq]
  rfl
theorem ap_ix (i : Int) : dIx (r ++ [.lst xs]) (.ref r.length) (.int i) = L2.atI xs i := by
  unfold dIx
  simp only [ap_seq]
  rfl
theorem ap_iseq : iSeq (r ++ [.lst xs]) (.ref r.length) = some ⟨xs, some (r.length, xs)⟩ := by
  unfold iSeq
  simp only [get_app]
theorem atI_map {α : Type} {f : α → D} {ys : List α} {i : Nat} {y : α} (h : ys[i]? = some y) : L2.atI (ys.map f) (i : Int) = some (f y) := by
  obtain ⟨hi, e⟩ := List.getElem?_eq_some_iff.mp h
  rw [atI_in (by omega) (by rw [List.length_map]; omega), Int.toNat_natCast, List.getElem?_map, h]
  rfl
/-! texts that are written in the law -/
theorem shaped_str {x : Str} (h : PyData.strOk x = true) : SeqAt.shaped (.str x) = true := by
  simp [SeqAt.shaped, PyData.canLay0, PyData.depth, h]
theorem dEqD_str (neg : Bool) (s : S) (x y : Str) (hx : PyData.strOk x = true) (hy : PyData.strOk y = true) : dEqD neg s (.str x) (.str y) = some (.bl (if neg = true then !(x == y) else x == y)) := by
  unfold dEqD
  simp only [toPyT, toPy, PyData.eqv]
  rw [if_pos ⟨shaped_str hx, shaped_str hy⟩]
theorem eqS {s : S} {x y : Str} {b : Bool} (hx : PyData.strOk x = true) (hy : PyData.strOk y = true) (hb : (x == y) = b) : dEqD false s (.str x) (.str y) = some (.bl b) := by
  rw [dEqD_str false s x y hx hy, hb]
  rfl
end SI

/-! == of data with itself -/
namespace SI
open PySem L2
/-- for x in a tracked list that stays -/
theorem ws_trk {α : Type} {f : α → D} {q : Tg} {body : FS} {B : Bs} {xs : List α} {r : Src} {L : Lc} {s : S} (I : Nat → Lc → S → Prop) (h0 : I 0 L s) (hc : ∀ i L s, I i L s → chk r s = true)
    (hs : ∀ i (hi : i < xs.length) L s, I i L s → @WO _ (q (f xs[i]) L) ⟨fun L1 => @WS (body L1 s) ⟨I (i + 1), B.rt, B.nx, I (i + 1), B.ex⟩⟩)
    (he : ∀ L s, I xs.length L s → B.nx L s) : @WS (forL q body r (xs.map f) L s) B := by
  refine ws_for I (xs.map f) 0 h0 (fun i d L s e hi => ⟨hc _ _ _ hi, ?_⟩) (fun L s hi => ⟨hc _ _ _ hi, he L s ?_⟩)
  · rw [Nat.zero_add] at hi ⊢
    rw [List.getElem?_map] at e
    obtain ⟨x, ex, rfl⟩ := Option.map_eq_some_iff.mp e
    obtain ⟨hj, ej⟩ := List.getElem?_eq_some_iff.mp ex
    subst ej
    exact hs i hj L s hi
  · rw [Nat.zero_add, List.length_map] at hi
    exact hi
end SI

/-! list comprehensions over plain data -/
namespace SI
open PySem L2
variable {L : Lc} {s : S} {Q : Cn (D → S → Prop)} {E : Cn (Addr → List Str → List D → S → Prop)}
theorem lc_run {α : Type} {q : Tg} {t : F Bool} {fe : F D} {r : Src} {L0 : Lc} {s : S} (f : α → D) (p : α → Bool) (g : α → D) (hc : ∀ acc, chk r (s ++ [.lst acc]) = true) : ∀ (xs : List α) (acc : List D), acc.length + xs.length ≤ 1000000 →
    (∀ x ∈ xs, ∀ acc, @WO _ (q (f x) L0) ⟨fun L1 => @WR _ (t L1 (s ++ [.lst acc])) ⟨fun b s' => b = p x ∧ s' = s ++ [.lst acc] ∧ (p x = true → @WR _ (fe L1 (s ++ [.lst acc])) ⟨fun y s'' => y = g x ∧ s'' = s ++ [.lst acc]⟩ ⟨nE⟩)⟩ ⟨nE⟩⟩) →
    lcL q t fe r L0 s.length (xs.map f) (s ++ [.lst acc]) = .ok () (s ++ [.lst (acc ++ (xs.filter p).map g)])
  | [], acc, _, _ => by
    rw [List.map_nil, lcL, if_pos (hc acc)]
    simp
  | x :: xs, acc, hl, hx => by
    have h1 := hx x (List.mem_cons_self ..) acc
    rw [List.map_cons, lcL, if_pos (hc acc)]
    cases eq : q (f x) L0 with
    | none =>
      rw [eq] at h1
      exact h1.elim
    | some L1 =>
      rw [eq] at h1
      have h1' : @WR _ (t L1 (s ++ [.lst acc])) ⟨fun b s' => b = p x ∧ s' = s ++ [.lst acc] ∧ (p x = true → @WR _ (fe L1 (s ++ [.lst acc])) ⟨fun y s'' => y = g x ∧ s'' = s ++ [.lst acc]⟩ ⟨nE⟩)⟩ ⟨nE⟩ := h1
      obtain ⟨b, s', e1, rfl, rfl, h2⟩ := ex_ok h1'
      dsimp only
      rw [e1, R_bind_ok]
      rw [List.length_cons] at hl
      cases hp : p x with
      | true =>
        obtain ⟨y, s'', e2, rfl, rfl⟩ := ex_ok (h2 hp)
        rw [if_pos rfl, e2, R_bind_ok, get_app]
        dsimp only
        rw [if_pos (show acc.length < big by show acc.length < 1000000; omega), set_app, lc_run f p g hc xs _ (by simp; omega) fun z hz => hx z (List.mem_cons_of_mem _ hz)]
        simp [hp]
      | false =>
        rw [if_neg (by simp), lc_run f p g hc xs acc (by omega) fun z hz => hx z (List.mem_cons_of_mem _ hz)]
        simp [hp]
theorem lcT_all {α : Type} {q : Tg} {fe : F D} {vs : List Nat} {r : Src} (xs : List α) (f g : α → D) (hr : r.items = xs.map f) (hc : ∀ acc, chk r (s ++ [.lst acc]) = true) (hl : xs.length ≤ 1000000)
    (hx : ∀ x ∈ xs, ∀ acc, @WO _ (q (f x) (wipeD L vs)) ⟨fun L1 => @WR _ (fe L1 (s ++ [.lst acc])) ⟨fun y s'' => y = g x ∧ s'' = s ++ [.lst acc]⟩ ⟨nE⟩⟩)
    (hQ : Q (.ref s.length) (s ++ [.lst (xs.map g)])) : @WR _ (lcTE q fYes fe vs L r s) Q E := by
  have ef : xs.filter (fun _ => true) = xs := by simp
  have e := lc_run (q := q) (L0 := wipeD L vs) (s := s) (t := fYes) (fe := fe) (r := r) f (fun _ => true) g hc xs [] (by simpa using hl) (fun x h acc => by
    have h1 := hx x h acc
    cases eq : q (f x) (wipeD L vs) with
    | none =>
      rw [eq] at h1
      exact h1.elim
    | some L1 =>
      rw [eq] at h1
      exact ⟨rfl, rfl, fun _ => h1⟩)
  unfold lcTE
  rw [hr, e, List.nil_append, ef]
  show @WR _ (match (s ++ [O.lst (xs.map g)])[s.length]? with
    | some (.lst ys) => _
    | _ => .bad) Q E
  rw [get_app]
  exact hQ
theorem bel_src (v : SrcV) (n : Nat) : O.bel n v.o = true := src_bel v n
end SI
namespace SI
open PySem L2
theorem ap_ixL {r : S} {xs : List D} (i : Int) : dIxL (r ++ [.lst xs]) (.ref r.length) (.int i) = L2.atI xs i := by
  unfold dIxL lstOf
  simp only [get_app]
  rfl
theorem ap_put {r : S} {xs : List D} {k : Nat} (h : k < xs.length) (d : D) : dPut (r ++ [.lst xs]) (.ref r.length) (.int k) d = some (r ++ [.lst (xs.set k d)]) := by
  unfold dPut
  simp only [get_app]
  unfold ixN
  rw [if_pos (by omega), if_pos (by omega)]
  simp only [Option.bind_some, Int.toNat_natCast, set_app]
end SI

/-! the two tracked lists that came last; min, index of ints -/
namespace SI
open PySem L2 Pg
variable {s : S} {x y : O} {a b : List D}
end SI

/-! hands that are known just at a time -/
namespace Pg
open PySem L2 SI Mt
variable {c : Cl} {M : Mc} {t : Option Nat}
/-- of one depth, y behind its first -/
def KJ (M : Mc) (t : Option Nat) (d : Nat) (y : Int) : Int := cz t d (y / M.gap) - cz t d ((y - 1) / M.gap)
theorem KJ_nonneg (hM : M.Ok) (d : Nat) (y : Int) : 0 ≤ KJ M t d y := by
  have g0 := hM.gap0
  have := cz_mono (t := t) (d := d) (show (y - 1) / M.gap ≤ y / M.gap from Int.ediv_le_ediv (by omega) (by omega))
  unfold KJ
  omega
theorem KJ_neg (hM : M.Ok) {d : Nat} {y : Int} (h : y < 0) : KJ M t d y = 0 := by
  have g0 := hM.gap0
  unfold KJ
  rw [cz_neg (ediv_neg h (by omega)), cz_neg (ediv_neg (by omega) (by omega))]
  rfl
theorem div_pred (hM : M.Ok) {y : Int} (h : y % M.gap = 0) : (y - 1) / M.gap = y / M.gap - 1 := by
  have g0 := hM.gap0
  have e := Int.mul_ediv_add_emod y M.gap
  rw [h, Int.add_zero] at e
  have : (y - 1) / M.gap = (M.gap - 1 + (y / M.gap - 1) * M.gap) / M.gap := by
    congr 1
    rw [Int.sub_mul, Int.one_mul, Int.mul_comm (y / M.gap)]
    omega
  rw [this, Int.add_mul_ediv_right _ _ (by omega), Int.ediv_eq_zero_of_lt (by omega) (by omega)]
  omega
def LY (M : Mc) (t : Option Nat) (x : Int) : Int := smZ (x / M.letter + 1).toNat fun d => KJ M t d (x - d * M.letter)
theorem LY_eq (hM : M.Ok) (x : Int) : LY M t x = FR M t x - FR M t (x - 1) := by
  have l0 := hM.letter0
  have : (x - 1) / M.letter ≤ x / M.letter := Int.ediv_le_ediv (by omega) (by omega)
  unfold LY
  rw [FR_ext hM (x := x - 1) (N := (x / M.letter + 1).toNat) (by omega)]
  unfold FR
  rw [← smZ_sub]
  refine smZ_congr fun d _ => ?_
  unfold KJ
  rw [show x - 1 - d * M.letter = x - d * M.letter - 1 by omega]
def LYs (M : Mc) (t : Option Nat) (x : Int) : List Int → Int
  | [] => 0
  | r :: rs => LY M t (x - r) + LYs M t x rs
theorem LYs_eq (hM : M.Ok) (x : Int) : ∀ rs : List Int, LYs M t x rs = FRs M t x rs - FRs M t (x - 1) rs
  | [] => rfl
  | r :: rs => by
    rw [LYs, FRs, FRs, LY_eq hM, LYs_eq hM x rs, show x - r - 1 = x - 1 - r by omega]
    omega
end Pg

/-! rows of turns of just one sum -/
namespace Mt
/-- how many rows of d turns, each below t, have just the sum m -/
def ex (t : Option Nat) : Nat → Nat → Nat
  | 0, m => if m = 0 then 1 else 0
  | d + 1, m => sm (cap t m) fun i => ex t d (m - i)
theorem ex_s (t : Option Nat) (d m : Nat) : ex t (d + 1) m = sm (cap t m) fun i => ex t d (m - i) := rfl
theorem cnt_ex (t : Option Nat) (ht : t ≠ some 0) : ∀ d m : Nat, cnt t d m = sm (m + 1) fun s => ex t d s
  | 0, m => by
    rw [cnt_0, sm_front]
    have : sm m (fun i => ex t 0 (i + 1)) = 0 := by
      have e : sm m (fun i => ex t 0 (i + 1)) = sm m fun _ => 0 := sm_congr fun i _ => rfl
      rw [e, sm_const, Nat.mul_zero]
    rw [this]
    rfl
  | d + 1, 0 => by
    rw [cnt_s0 t ht, sm, sm]
    have e : cap t 0 = 1 := by
      cases t with
      | none => rfl
      | some t =>
        have : t ≠ 0 := fun h => ht (by rw [h])
        unfold cap
        dsimp only
        omega
    have ih := cnt_ex t ht d 0
    rw [cnt_s0 t ht, sm, sm] at ih
    rw [ex_s, e, sm, sm, Nat.sub_zero]
    omega
  | d + 1, m + 1 => by
    have ih1 := cnt_ex t ht (d + 1) m
    have r := cnt_rec t ht d m
    rw [sm, ← ih1, ex_s]
    -- the sum telescopes
    have tel : ∀ n, n ≤ m + 2 → sm n (fun i => ex t d (m + 1 - i)) + (if n ≤ m + 1 then cnt t d (m + 1 - n) else 0) = cnt t d (m + 1) := fun n => by
      induction n with
      | zero => intro _; simp [sm]
      | succ n ih =>
        intro hn
        have h1 := ih (by omega)
        rw [if_pos (by omega)] at h1
        rw [sm]
        have h2 := cnt_ex t ht d (m + 1 - n)
        by_cases hm : n + 1 ≤ m + 1
        · rw [if_pos hm]
          have h3 := cnt_ex t ht d (m + 1 - (n + 1))
          rw [show m + 1 - n = m + 1 - (n + 1) + 1 by omega, sm, ← h3, ← show m + 1 - n = m + 1 - (n + 1) + 1 by omega] at h2
          omega
        · rw [if_neg hm]
          have e0 : m + 1 - n = 0 := by omega
          rw [e0] at h1 h2 ⊢
          rw [sm, sm] at h2
          omega
    have hc : cap t (m + 1) ≤ m + 2 := by
      cases t with
      | none => exact Nat.le_refl _
      | some t => unfold cap; dsimp only; omega
    have tl := tel (cap t (m + 1)) hc
    have hb : (if cap t (m + 1) ≤ m + 1 then cnt t d (m + 1 - cap t (m + 1)) else 0) = back t d (m + 1) := by
      cases t with
      | none =>
        rw [if_neg (by unfold cap; dsimp only; omega)]
        rfl
      | some t =>
        unfold back cap
        dsimp only
        by_cases h : t ≤ m + 1
        · rw [if_pos (by omega), if_pos h, Nat.min_eq_left (by omega)]
        · rw [if_neg (by omega), if_neg h]
    omega
theorem cz_ex {t : Option Nat} (ht : t ≠ some 0) (d m : Nat) : cz t d m - cz t d ((m : Int) - 1) = ex t d m := by
  cases m with
  | zero =>
    rw [cz_neg (show (((0 : Nat) : Int) - 1 < 0) by omega), cz_nat, cnt_ex t ht, sm, sm]
    omega
  | succ m =>
    rw [show ((m + 1 : Nat) : Int) - 1 = (m : Nat) by omega, cz_nat, cz_nat, cnt_ex t ht d (m + 1), cnt_ex t ht d m, sm]
    omega
end Mt
namespace Pg
open Mt
variable {M : Mc} {t : Option Nat}
theorem KJ_ex (hM : M.Ok) (ht : OkT t) {d : Nat} {y : Int} (h0 : 0 ≤ y) (hz : y % M.gap = 0) : KJ M t d y = ex t d (y / M.gap).toNat := by
  have g0 := hM.gap0
  have hq : 0 ≤ y / M.gap := Int.ediv_nonneg h0 (by omega)
  unfold KJ
  rw [div_pred hM hz, ← cz_ex ht.ne, show (((y / M.gap).toNat : Nat) : Int) = y / M.gap by omega]
end Pg

/-! the next time at which a hand becomes known -/
namespace Pg
open PySem L2 SI Mt
variable {c : Cl} {M : Mc} {t : Option Nat}
/-- z is the time of a hand of depth d below the root r -/
def Hit (M : Mc) (t : Option Nat) (r : Int) (d : Nat) (z : Int) : Prop := 0 < KJ M t d (z - r - d * M.letter)
/-- y is the next time behind x -/
structure NX (M : Mc) (t : Option Nat) (rs : List Int) (x y : Int) : Prop where
  lt : x < y
  le : y ≤ hor M t
  pos : 0 < LYs M t y rs
  zero : ∀ z, x < z → z < y → LYs M t z rs = 0
/-- what is known of best -/
structure Bst (M : Mc) (t : Option Nat) (rs : List Int) (x b : Int) (P : Nat → Nat → Prop) : Prop where
  le : b ≤ hor M t + 1
  hit : b = hor M t + 1 ∨ (x < b ∧ 0 < LYs M t b rs)
  all : ∀ (i : Nat) (hi : i < rs.length) (d : Nat) (z : Int), P i d → x < z → z ≤ hor M t → Hit M t rs[i] d z → b ≤ z
end Pg

/-! wrong turns, roots and times -/
namespace Pg
open PySem L2 SI Mt
variable {c : Cl} {M : Mc} {t : Option Nat}
def valD : D → Int
  | .int i => i
  | _ => 0
end Pg

/-! so many letter times that the counts stay small -/
namespace Pg
open PySem L2 SI Mt
variable {c : Cl} {M : Mc} {t : Option Nat}
/-- K letter times hold at most 10 ** 40 hands, and lie within the horizon -/
structure Spn (M : Mc) (t : Option Nat) (K : Nat) : Prop where
  k0 : 3 ≤ K
  k1 : K ≤ 119
  le : ∀ x, x ≤ K * M.letter → 6 * FR M t x ≤ MOST
  hor : K * M.letter ≤ hor M t
theorem Spn.frs {K : Nat} (h : Spn M t K) (x : Int) (hx : x ≤ K * M.letter) : ∀ {rs : List Int}, (∀ r ∈ rs, 0 ≤ r ∧ r ≤ 1000000000000) → 6 * FRs M t x rs ≤ rs.length * MOST
  | [], _ => by simp [FRs]
  | r :: rs, hr => by
    have h1 := h.frs x hx fun z hz => hr z (List.mem_cons_of_mem _ hz)
    have h2 := h.le (x - r) (by have := hr r (List.mem_cons_self ..); omega)
    rw [FRs, List.length_cons, Int.natCast_add, Int.add_mul]
    omega
theorem Spn.most {K : Nat} (h : Spn M t K) {x : Int} (hx : x ≤ K * M.letter) {rs : List Int} (hr : OkR rs) : FRs M t x rs ≤ MOST := by
  have h1 := h.frs x hx hr.mem
  have h2 := hr.l1
  have h3 : (rs.length : Int) * MOST ≤ 6 * MOST := Int.mul_le_mul_of_nonneg_right (by omega) (by unfold MOST; decide)
  omega
end Pg

/-! Machine.of; a letter time and a gap near each other; quicker machines -/
namespace Pg
open PySem L2 SI Mt
variable {c : Cl} {M : Mc} {t : Option Nat} {Q : Cn (D → S → Prop)} {E : Cn (Addr → List Str → List D → S → Prop)}
/-! ### comparisons -/
end Pg

/-! helpers of laws: within, a deep list, data without refs, == of short tuples -/
namespace SI
open PySem L2 Pg Mt
variable {c : Cl} {M : Mc} {t : Option Nat}
theorem isi_int (i : Int) (s : S) : bIsi c.cs s [.int i, .ty "int"] = some (.bl true) := rfl
theorem isi_intb (i : Int) (s : S) : bIsi c.cs s [.int i, .ty "bool"] = some (.bl false) := rfl
theorem isi_blb (b : Bool) (s : S) : bIsi c.cs s [.bl b, .ty "bool"] = some (.bl true) := rfl
theorem isi_bl {s : S} {d e r : D} (h : bIsi c.cs s [d, e] = some r) : ∃ b, r = .bl b := by
  unfold bIsi at h
  obtain ⟨b, _, rfl⟩ := Option.map_eq_some_iff.mp h
  exact ⟨b, rfl⟩
theorem NI.cases {d : D} (h : NI c d) (s : S) : bIsi c.cs s [d, .ty "int"] = some (.bl false) ∨ (bIsi c.cs s [d, .ty "int"] = some (.bl true) ∧ bIsi c.cs s [d, .ty "bool"] = some (.bl true)) := by
  have w : @WR _ (G_is_integer c [d] s) ⟨fun d' s' => d' = .bl false⟩ ⟨nE⟩ := by
    rw [h s]
    rfl
  unfold G_is_integer at w
  simp (implicitDefEqProofs := false) only [↓w_srtT, ↓w_par2, ↓w_par3, ↓w_setd, ↓w_dict1, ↓w_maxDf, ↓w_slT, ↓w_addT, ↓w_dictT, ↓w_dictI, ↓w_get, ↓w_lrg1T, ↓w_lrg2T, ↓w_lrg1, ↓w_lrg2, ↓w_pop0, ↓w_lcT, ↓w_mth, ↓w_calm, ↓w_tryM, ↓w_tm0, ↓w_tmN, ↓w_tmS, ↓w_seq, ↓w_next, ↓w_break, ↓w_cont, ↓w_retN, ↓w_asg, ↓w_expr, ↓w_ret, ↓w_if, ↓w_asgG, ↓w_for, ↓w_put, ↓w_aug, ↓w_augS, ↓w_raise0, ↓w_raise1, ↓w_raise2, ↓w_try, ↓w_tryAs, ↓w_var, ↓w_c, ↓w_op, ↓w_chain, ↓w_notV, ↓w_andV, ↓w_orV, ↓w_ifE, ↓w_tst, ↓w_not, ↓w_and, ↓w_or, ↓w_yes, ↓w_nil, ↓w_cons, ↓w_tup, ↓w_lst, ↓w_lstT, ↓w_cb, ↓w_call, ↓w_callK, ↓w_neg, ↓w_no, ↓w_pt, ↓w_sl, ↓w_fld, ↓w_src, ↓w_rng, ↓w_enu, ↓w_listT, ↓w_app, ↓w_lc, ↓w_xf, ↓w_fldT, ↓w_make, ↓w_makeL, ↓w_run, ↓w_cut, ↓w_pure, ↓w_drop, nth2_eq, nth3_eq, w_ok, w_ex, w_nx, w_rt, w_bk, w_ct, w_exS, w_some, w_v, w_tr, w_fa, w_tb, w_ti, w_tn, w_L, w_L0, wb_not, cn_f, startD, arr, gN_eq, gTp, gCn, gNl, Option.bind_some, List.filterMap_cons, List.filterMap_nil, List.map_cons, List.map_nil, List.replicate_succ, List.replicate_zero, List.cons_append, List.nil_append, List.getElem?_cons_zero, List.getElem?_cons_succ, List.set_cons_zero, List.set_cons_succ, List.length_cons, List.length_nil, Nat.reduceAdd, Nat.reduceSub, Nat.reduceLeDiff, Nat.reduceEqDiff, Int.reducePow, Int.reduceToNat, Int.reduceNeg, Int.reduceAdd, Int.reduceMul, Int.reduceSub, Int.reduceLT, Int.reduceLE, Int.reduceEq, Nat.zero_add, Int.zero_add, big_eq, true_and, and_true, and_self, dSub_int, dAdd_int, dAddI_int, dLt_int, dLe_int, dGt_int, dGe_int, dEqD_int, bInt_int, bLen_lst, bLen_tup, bMin_int, bMax_int, bAbs_int, dIs_non, dIs_int, dIs_nn, Bool.not_true, Bool.not_false, decide_true, decide_false, reduceIte, Bool.false_eq_true, if_false, if_true, iSeq_lst, iSeq_tup, iSeq_rdl, iEnu_lst, iEnu_tup] at w
  cases e1 : bIsi c.cs s [d, .ty "int"] with
  | none =>
    rw [e1] at w
    exact w.elim
  | some r =>
    obtain ⟨b, rfl⟩ := isi_bl e1
    cases b with
    | false => exact .inl rfl
    | true =>
      refine .inr ⟨rfl, ?_⟩
      rw [e1] at w
      simp (implicitDefEqProofs := false) only [↓w_srtT, ↓w_par2, ↓w_par3, ↓w_setd, ↓w_dict1, ↓w_maxDf, ↓w_slT, ↓w_addT, ↓w_dictT, ↓w_dictI, ↓w_get, ↓w_lrg1T, ↓w_lrg2T, ↓w_lrg1, ↓w_lrg2, ↓w_pop0, ↓w_lcT, ↓w_mth, ↓w_calm, ↓w_tryM, ↓w_tm0, ↓w_tmN, ↓w_tmS, ↓w_seq, ↓w_next, ↓w_break, ↓w_cont, ↓w_retN, ↓w_asg, ↓w_expr, ↓w_ret, ↓w_if, ↓w_asgG, ↓w_for, ↓w_put, ↓w_aug, ↓w_augS, ↓w_raise0, ↓w_raise1, ↓w_raise2, ↓w_try, ↓w_tryAs, ↓w_var, ↓w_c, ↓w_op, ↓w_chain, ↓w_notV, ↓w_andV, ↓w_orV, ↓w_ifE, ↓w_tst, ↓w_not, ↓w_and, ↓w_or, ↓w_yes, ↓w_nil, ↓w_cons, ↓w_tup, ↓w_lst, ↓w_lstT, ↓w_cb, ↓w_call, ↓w_callK, ↓w_neg, ↓w_no, ↓w_pt, ↓w_sl, ↓w_fld, ↓w_src, ↓w_rng, ↓w_enu, ↓w_listT, ↓w_app, ↓w_lc, ↓w_xf, ↓w_fldT, ↓w_make, ↓w_makeL, ↓w_run, ↓w_cut, ↓w_pure, ↓w_drop, nth2_eq, nth3_eq, w_ok, w_ex, w_nx, w_rt, w_bk, w_ct, w_exS, w_some, w_v, w_tr, w_fa, w_tb, w_ti, w_tn, w_L, w_L0, wb_not, cn_f, startD, arr, gN_eq, gTp, gCn, gNl, Option.bind_some, List.filterMap_cons, List.filterMap_nil, List.map_cons, List.map_nil, List.replicate_succ, List.replicate_zero, List.cons_append, List.nil_append, List.getElem?_cons_zero, List.getElem?_cons_succ, List.set_cons_zero, List.set_cons_succ, List.length_cons, List.length_nil, Nat.reduceAdd, Nat.reduceSub, Nat.reduceLeDiff, Nat.reduceEqDiff, Int.reducePow, Int.reduceToNat, Int.reduceNeg, Int.reduceAdd, Int.reduceMul, Int.reduceSub, Int.reduceLT, Int.reduceLE, Int.reduceEq, Nat.zero_add, Int.zero_add, big_eq, true_and, and_true, and_self, dSub_int, dAdd_int, dAddI_int, dLt_int, dLe_int, dGt_int, dGe_int, dEqD_int, bInt_int, bLen_lst, bLen_tup, bMin_int, bMax_int, bAbs_int, dIs_non, dIs_int, dIs_nn, Bool.not_true, Bool.not_false, decide_true, decide_false, reduceIte, Bool.false_eq_true, if_false, if_true, iSeq_lst, iSeq_tup, iSeq_rdl, iEnu_lst, iEnu_tup] at w
      cases e2 : bIsi c.cs s [d, .ty "bool"] with
      | none =>
        rw [e2] at w
        exact w.elim
      | some r =>
        obtain ⟨b, rfl⟩ := isi_bl e2
        rw [e2] at w
        simp (implicitDefEqProofs := false) only [↓w_srtT, ↓w_par2, ↓w_par3, ↓w_setd, ↓w_dict1, ↓w_maxDf, ↓w_slT, ↓w_addT, ↓w_dictT, ↓w_dictI, ↓w_get, ↓w_lrg1T, ↓w_lrg2T, ↓w_lrg1, ↓w_lrg2, ↓w_pop0, ↓w_lcT, ↓w_mth, ↓w_calm, ↓w_tryM, ↓w_tm0, ↓w_tmN, ↓w_tmS, ↓w_seq, ↓w_next, ↓w_break, ↓w_cont, ↓w_retN, ↓w_asg, ↓w_expr, ↓w_ret, ↓w_if, ↓w_asgG, ↓w_for, ↓w_put, ↓w_aug, ↓w_augS, ↓w_raise0, ↓w_raise1, ↓w_raise2, ↓w_try, ↓w_tryAs, ↓w_var, ↓w_c, ↓w_op, ↓w_chain, ↓w_notV, ↓w_andV, ↓w_orV, ↓w_ifE, ↓w_tst, ↓w_not, ↓w_and, ↓w_or, ↓w_yes, ↓w_nil, ↓w_cons, ↓w_tup, ↓w_lst, ↓w_lstT, ↓w_cb, ↓w_call, ↓w_callK, ↓w_neg, ↓w_no, ↓w_pt, ↓w_sl, ↓w_fld, ↓w_src, ↓w_rng, ↓w_enu, ↓w_listT, ↓w_app, ↓w_lc, ↓w_xf, ↓w_fldT, ↓w_make, ↓w_makeL, ↓w_run, ↓w_cut, ↓w_pure, ↓w_drop, nth2_eq, nth3_eq, w_ok, w_ex, w_nx, w_rt, w_bk, w_ct, w_exS, w_some, w_v, w_tr, w_fa, w_tb, w_ti, w_tn, w_L, w_L0, wb_not, cn_f, startD, arr, gN_eq, gTp, gCn, gNl, Option.bind_some, List.filterMap_cons, List.filterMap_nil, List.map_cons, List.map_nil, List.replicate_succ, List.replicate_zero, List.cons_append, List.nil_append, List.getElem?_cons_zero, List.getElem?_cons_succ, List.set_cons_zero, List.set_cons_succ, List.length_cons, List.length_nil, Nat.reduceAdd, Nat.reduceSub, Nat.reduceLeDiff, Nat.reduceEqDiff, Int.reducePow, Int.reduceToNat, Int.reduceNeg, Int.reduceAdd, Int.reduceMul, Int.reduceSub, Int.reduceLT, Int.reduceLE, Int.reduceEq, Nat.zero_add, Int.zero_add, big_eq, true_and, and_true, and_self, dSub_int, dAdd_int, dAddI_int, dLt_int, dLe_int, dGt_int, dGe_int, dEqD_int, bInt_int, bLen_lst, bLen_tup, bMin_int, bMax_int, bAbs_int, dIs_non, dIs_int, dIs_nn, Bool.not_true, Bool.not_false, decide_true, decide_false, reduceIte, Bool.false_eq_true, if_false, if_true, iSeq_lst, iSeq_tup, iSeq_rdl, iEnu_lst, iEnu_tup] at w
        cases b with
        | true => rfl
        | false => simp at w
/-! data without refs -/
def Pur (d : D) : Prop := ∀ n, D.bel n d = true
def PurO (o : O) : Prop := ∀ n, O.bel n o = true
theorem finS_pur {n : Nat} {s : S} {d : D} (h : Pur d) : finS n s d = some d := by
  unfold finS
  split
  · rename_i i
    have h0 : D.bel 0 (.ref i) = true := h 0
    simp [D.bel] at h0
  · rw [if_pos (h n)]
theorem finsS_pur {n : Nat} {s : S} : ∀ {xs : List D}, (∀ x ∈ xs, Pur x) → finsS n s xs = some xs
  | [], _ => rfl
  | x :: xs, h => by
    rw [finsS, finS_pur (h x (List.mem_cons_self ..)), finsS_pur fun z hz => h z (List.mem_cons_of_mem _ hz)]
theorem bels_pur {n : Nat} : ∀ {xs : List D}, (∀ x ∈ xs, Pur x) → D.bels n xs = true
  | [], _ => rfl
  | x :: xs, h => by
    rw [D.bels, h x (List.mem_cons_self ..) n, bels_pur fun z hz => h z (List.mem_cons_of_mem _ hz)]
    rfl
theorem pur_bels : ∀ {xs : List D}, (∀ n, D.bels n xs = true) → ∀ x ∈ xs, Pur x
  | [], _, _, h => by cases h
  | y :: ys, hb, x, h => by
    have hb' : ∀ n, D.bel n y = true ∧ D.bels n ys = true := fun n => by
      have := hb n
      rw [D.bels, Bool.and_eq_true] at this
      exact this
    rcases List.mem_cons.mp h with rfl | e
    · exact fun n => (hb' n).1
    · exact pur_bels (fun n => (hb' n).2) x e
theorem pur_tup {xs : List D} (h : ∀ x ∈ xs, Pur x) : Pur (.tup xs) := fun n => by
  rw [D.bel, bels_pur h]
theorem pur_lst {xs : List D} (h : ∀ x ∈ xs, Pur x) : Pur (.lst xs) := fun n => by
  rw [D.bel, bels_pur h]
theorem pur_int (i : Int) : Pur (.int i) := fun _ => rfl
theorem fin2_pur {n : Nat} {s : S} {d : D} (h : Pur d) : fin2 n s d = some d := by
  unfold fin2
  split
  · rename_i xs
    rw [finsS_pur (pur_bels fun n => by have := h n; rw [D.bel] at this; exact this)]
    rfl
  · rename_i i
    have h0 : D.bel 0 (.ref i) = true := h 0
    simp [D.bel] at h0
  · exact finS_pur h
theorem fin2_ref {n i : Nat} {s : S} {xs : List D} (hi : n ≤ i) (hs : s[i]? = some (.lst xs)) (h : ∀ x ∈ xs, Pur x) : fin2 n s (.ref i) = some (.lst xs) := by
  unfold fin2
  simp only [hs, if_neg (Nat.not_lt.mpr hi), finsS_pur h, Option.map_some]
theorem all_pur {n : Nat} {r : List O} (h : ∀ o ∈ r, PurO o) : r.all (O.bel n) = true := by
  rw [List.all_eq_true]
  exact fun o ho => h o ho n
/-! == of short tuples -/
/-! a list of 17 levels -/
/-! what is drawn -/
end SI
namespace SI
open PySem L2 Pg Mt
end SI

/-! small rules that many laws want -/
namespace SI
open PySem L2
theorem add_ll {s : S} {xs ys : List D} (h : xs.length + ys.length ≤ 1000000) : dAdd s (.lst xs) (.lst ys) = some (.lst (xs ++ ys)) := by
  show (if xs.length + ys.length ≤ big then _ else _) = _
  exact if_pos h
/-! comprehensions over pure data: the list in the making is pure -/
section
open Pg
variable {L : Lc} {s : S} {Q : Cn (D → S → Prop)} {E : Cn (Addr → List Str → List D → S → Prop)}
theorem lcp_run {α : Type} {q : Tg} {t : F Bool} {fe : F D} {r : Src} {L0 : Lc} {s : S} (f : α → D) (p : α → Bool) (g : α → D) (hc : ∀ acc, chk r (s ++ [.lst acc]) = true) : ∀ (xs : List α) (acc : List D), acc.length + xs.length ≤ 1000000 → (∀ y ∈ acc, Pur y) → (∀ x ∈ xs, Pur (g x)) →
    (∀ x ∈ xs, ∀ acc, (∀ y ∈ acc, Pur y) → @WO _ (q (f x) L0) ⟨fun L1 => @WR _ (t L1 (s ++ [.lst acc])) ⟨fun b s' => b = p x ∧ s' = s ++ [.lst acc] ∧ (p x = true → @WR _ (fe L1 (s ++ [.lst acc])) ⟨fun y s'' => y = g x ∧ s'' = s ++ [.lst acc]⟩ ⟨nE⟩)⟩ ⟨nE⟩⟩) →
    lcL q t fe r L0 s.length (xs.map f) (s ++ [.lst acc]) = .ok () (s ++ [.lst (acc ++ (xs.filter p).map g)])
  | [], acc, _, _, _, _ => by
    rw [List.map_nil, lcL, if_pos (hc acc)]
    simp
  | x :: xs, acc, hl, ha, hg, hx => by
    have h1 := hx x (List.mem_cons_self ..) acc ha
    rw [List.map_cons, lcL, if_pos (hc acc)]
    cases eq : q (f x) L0 with
    | none =>
      rw [eq] at h1
      exact h1.elim
    | some L1 =>
      rw [eq] at h1
      have h1' : @WR _ (t L1 (s ++ [.lst acc])) ⟨fun b s' => b = p x ∧ s' = s ++ [.lst acc] ∧ (p x = true → @WR _ (fe L1 (s ++ [.lst acc])) ⟨fun y s'' => y = g x ∧ s'' = s ++ [.lst acc]⟩ ⟨nE⟩)⟩ ⟨nE⟩ := h1
      obtain ⟨b, s', e1, rfl, rfl, h2⟩ := ex_ok h1'
      dsimp only
      rw [e1, R_bind_ok]
      rw [List.length_cons] at hl
      have hg' : ∀ y ∈ xs, Pur (g y) := fun y hy => hg y (List.mem_cons_of_mem _ hy)
      cases hp : p x with
      | true =>
        obtain ⟨y, s'', e2, rfl, rfl⟩ := ex_ok (h2 hp)
        rw [if_pos rfl, e2, R_bind_ok, get_app]
        dsimp only
        rw [if_pos (show acc.length < big by show acc.length < 1000000; omega), set_app, lcp_run f p g hc xs _ (by simp; omega) (fun y hy => ?_) hg' fun z hz => hx z (List.mem_cons_of_mem _ hz)]
        · simp [hp]
        · rcases List.mem_append.mp hy with hy | hy
          · exact ha y hy
          · rw [List.mem_singleton.mp hy]
            exact hg x (List.mem_cons_self ..)
      | false =>
        rw [if_neg (by simp), lcp_run f p g hc xs acc (by omega) ha hg' fun z hz => hx z (List.mem_cons_of_mem _ hz)]
        simp [hp]
theorem lcp_wp {α : Type} {q : Tg} {t : F Bool} {fe : F D} {vs : List Nat} {r : Src} (xs : List α) (f : α → D) (p : α → Bool) (g : α → D) (hr : r.items = xs.map f) (hc : ∀ acc, chk r (s ++ [.lst acc]) = true) (hl : xs.length ≤ 1000000) (hs : ∀ o ∈ s, PurO o) (hg : ∀ x ∈ xs, Pur (g x))
    (hx : ∀ x ∈ xs, ∀ acc, (∀ y ∈ acc, Pur y) → @WO _ (q (f x) (wipeD L vs)) ⟨fun L1 => @WR _ (t L1 (s ++ [.lst acc])) ⟨fun b s' => b = p x ∧ s' = s ++ [.lst acc] ∧ (p x = true → @WR _ (fe L1 (s ++ [.lst acc])) ⟨fun y s'' => y = g x ∧ s'' = s ++ [.lst acc]⟩ ⟨nE⟩)⟩ ⟨nE⟩⟩)
    (hQ : Q (.lst ((xs.filter p).map g)) s) : @WR _ (lcE q t fe vs L r s) Q E := by
  have e := lcp_run (L0 := wipeD L vs) (s := s) (fe := fe) (r := r) f p g hc xs [] (by simpa using hl) (fun y hy => by cases hy) hg hx
  unfold lcE
  rw [hr, e, List.nil_append]
  show @WR _ (match (s ++ [O.lst ((xs.filter p).map g)])[s.length]? with
    | some (.lst ys) => _
    | _ => .bad) Q E
  rw [get_app]
  dsimp only
  rw [List.take_left, if_pos ⟨all_pur hs, bels_pur fun y hy => by
    obtain ⟨x, hx, rfl⟩ := List.mem_map.mp hy
    exact hg x (List.mem_filter.mp hx).1⟩]
  exact hQ
theorem lcp_all {α : Type} {q : Tg} {fe : F D} {vs : List Nat} {r : Src} (xs : List α) (f g : α → D) (hr : r.items = xs.map f) (hc : ∀ acc, chk r (s ++ [.lst acc]) = true) (hl : xs.length ≤ 1000000) (hs : ∀ o ∈ s, PurO o) (hg : ∀ x ∈ xs, Pur (g x))
    (hx : ∀ x ∈ xs, ∀ acc, (∀ y ∈ acc, Pur y) → @WO _ (q (f x) (wipeD L vs)) ⟨fun L1 => @WR _ (fe L1 (s ++ [.lst acc])) ⟨fun y s'' => y = g x ∧ s'' = s ++ [.lst acc]⟩ ⟨nE⟩⟩)
    (hQ : Q (.lst (xs.map g)) s) : @WR _ (lcE q fYes fe vs L r s) Q E := by
  have ef : xs.filter (fun _ => true) = xs := by simp
  refine lcp_wp xs f (fun _ => true) g hr hc hl hs hg (fun x h acc ha => ?_) (by rw [ef]; exact hQ)
  have h1 := hx x h acc ha
  cases eq : q (f x) (wipeD L vs) with
  | none =>
    rw [eq] at h1
    exact h1.elim
  | some L1 =>
    rw [eq] at h1
    exact ⟨rfl, rfl, fun _ => h1⟩
theorem purO_lst {xs : List D} (h : ∀ x ∈ xs, Pur x) : PurO (.lst xs) := fun n => bels_pur h
theorem pur_cons {s : S} {o : O} (hs : ∀ o ∈ s, PurO o) (ho : PurO o) : ∀ o' ∈ o :: s, PurO o' := fun x hx => by
  rcases List.mem_cons.mp hx with h | h
  · rw [h]
    exact ho
  · exact hs x h
theorem pur_nil : ∀ o ∈ ([] : S), PurO o := fun o h => by cases h
theorem pur_srcv (v : SrcV) : PurO v.o := fun n => bel_src v n
theorem pur_src1 (v : SrcV) : ∀ o ∈ [v.o], PurO o := pur_cons pur_nil (pur_srcv v)
end
end SI

/-! names: wrong_at, checked_name, time_of, is_name, known_at -/
namespace SI
open PySem L2 Pg Mt
variable {c : Cl} {M : Mc} {t : Option Nat}
def lastN (t : Option Nat) : Int := match t with
  | none => 1000000000000000
  | some k => min 1000000000000000 ((k : Int) - 1)
theorem lastN_le (t : Option Nat) : lastN t ≤ 1000000000000000 := by
  cases t <;> simp only [lastN] <;> omega
def nI (n : Nat) : D := .int n
/-- no tuple -/
def NoTp (c : Cl) (d : D) : Prop := ∀ s, bIsi c.cs s [d, .ty "tuple"] = some (.bl false)
inductive NmC (c : Cl) : D → Prop
  | no {d : D} (h : NoTp c d) : NmC c d
  | tp {xs : List D} (hx : ∀ x ∈ xs, Th c x) : NmC c (.tup xs)
theorem isi_tup (xs : List D) (s : S) : bIsi c.cs s [.tup xs, .ty "tuple"] = some (.bl true) := rfl
theorem NoTp.ne {xs : List D} (h : NoTp c (.tup xs)) : False := by
  have := h []
  rw [isi_tup] at this
  simp at this
/-- a name -/
def nmD (r : Nat) (ns : List Nat) : D := .tup (nI r :: ns.map nI)
structure OkN (t : Option Nat) (many : Nat) (r : Nat) (ns : List Nat) : Prop where
  r : r < many
  l : ns.length ≤ 199
  m : ∀ n ∈ ns, (n : Int) ≤ lastN t
/-! the time -/
def smN : List Nat → Nat
  | [] => 0
  | n :: ns => n + smN ns
theorem cut1 (x : D) (xs : List D) (s : S) : dSl s (.tup (x :: xs)) (some 1) none = some (.tup xs) := by
  show some (D.tup (cutD (x :: xs) (some 1) none)) = _
  have : cutD (x :: xs) (some 1) none = xs := by
    unfold cutD
    rw [HT.sIx_none, show (some (1 : Int)) = some ((1 : Nat) : Int) from rfl, HT.sIx_nat]
    rw [show min 1 (x :: xs).length = 1 by simp]
    simp
  rw [this]
theorem smN_le {hi : Int} (h0 : 0 ≤ hi) : ∀ {ns : List Nat}, (∀ n ∈ ns, (n : Int) ≤ hi) → (smN ns : Int) ≤ ns.length * hi
  | [], _ => by simp [smN]
  | n :: ns, h => by
    have a := smN_le h0 (ns := ns) fun m hm => h m (List.mem_cons_of_mem _ hm)
    have b := h n (List.mem_cons_self ..)
    rw [smN, List.length_cons]
    push_cast
    rw [Int.add_mul]
    omega
def TM (M : Mc) (rs : List Int) (r : Nat) (ns : List Nat) : Int := rs.getD r 0 + ns.length * M.letter + smN ns * M.gap
theorem OkN.sm {many r : Nat} {ns : List Nat} (h : OkN t many r ns) : (smN ns : Int) ≤ 199 * 1000000000000000 := by
  have a := smN_le (hi := 1000000000000000) (by decide) (ns := ns) fun n hn => by have := h.m n hn; have := lastN_le t; omega
  have := h.l
  have b : (ns.length : Int) * 1000000000000000 ≤ 199 * 1000000000000000 := Int.mul_le_mul_of_nonneg_right (by omega) (by decide)
  omega
end SI

/-! which pairs explain what was seen: the plain law -/
namespace Mt
/-- turns, their sum, the time -/
abbrev Ln := Nat × Nat × Nat
inductive TBk where
  | non | any | one (a b : Int) | line (a b s t : Int) (k : Option Int)
def eqL (l : Ln) (a b : Int) : Prop := (l.1 : Int) * a + (l.2.1 : Int) * b = (l.2.2 : Int)
instance (l : Ln) (a b : Int) : Decidable (eqL l a b) := by unfold eqL; exact inferInstance
structure Sol (ls : List Ln) (a b : Int) : Prop where
  a1 : 1 ≤ a
  b1 : 1 ≤ b
  eq : ∀ l ∈ ls, eqL l a b
/-- no turns, no sum -/
def Tm (ls : List Ln) : Prop := ∀ l ∈ ls, l.1 = 0 → l.2.1 = 0
def Som (ls : List Ln) : Prop := ∃ l ∈ ls, 0 < l.1
def Spec (ls : List Ln) : TBk → Prop
  | .any => ∀ l ∈ ls, l.1 = 0 ∧ l.2.2 = 0
  | .non => ∀ a b, ¬ Sol ls a b
  | .one a b => Som ls ∧ Sol ls a b ∧ ∀ x y, Sol ls x y → x = a ∧ y = b
  | .line a b s t none => Som ls ∧ b = 1 ∧ s = 0 ∧ t = 1 ∧ (∀ l ∈ ls, l.2.1 = 0) ∧ 1 ≤ a ∧ ∀ x y, Sol ls x y ↔ x = a ∧ 1 ≤ y
  | .line a b s t (some k) => Som ls ∧ 1 ≤ s ∧ t ≤ -1 ∧ 2 ≤ k ∧ Nat.gcd s.natAbs t.natAbs = 1 ∧ (∀ l ∈ ls, (l.1 : Int) * s + (l.2.1 : Int) * t = 0) ∧ ∀ x y, Sol ls x y ↔ ∃ i : Int, 0 ≤ i ∧ i < k ∧ x = a + i * s ∧ y = b + i * t
/-! crossing lines -/
/-! one line -/
structure One (ls : List Ln) (f : Ln) : Prop where
  f0 : 0 < f.1
  hf : f ∈ ls
  p2 : ∀ l ∈ ls, f.1 * l.2.1 = l.1 * f.2.1
  p3 : ∀ l ∈ ls, f.1 * l.2.2 = l.1 * f.2.2
/-- the line with no common divisor -/
structure Red (f : Ln) (t s : Nat) : Prop where
  t0 : 0 < t
  cop : Nat.Coprime t s
  e1 : f.1 = Nat.gcd f.1 f.2.1 * t
  e2 : f.2.1 = Nat.gcd f.1 f.2.1 * s
/-! what is told is told of the pairs alone -/
end Mt

/-! the place of a row of turns among the rows of its depth and sum -/
namespace Mt
open SI
variable {t : Option Nat}
/-- rows of d + 1 turns with the sum m whose first turn is less than v -/
def bl (t : Option Nat) (d m v : Nat) : Nat := sm v fun i => ex t d (m - i)
theorem bl_s (d m v : Nat) : bl t d m (v + 1) = bl t d m v + ex t d (m - v) := rfl
theorem bl_top (d m : Nat) : bl t d m (cap t m) = ex t (d + 1) m := rfl
theorem bl_mono {d m v w : Nat} (h : v ≤ w) : bl t d m v ≤ bl t d m w := sm_shorter _ h
def Bel (t : Option Nat) (n : Nat) : Prop := ∀ k, t = some k → n < k
theorem cap_le {n m : Nat} (h : n ≤ m) (hb : Bel t n) : n + 1 ≤ cap t m := by
  cases t with
  | none => unfold cap; dsimp only; omega
  | some k =>
    have := hb k rfl
    unfold cap
    dsimp only
    omega
def RK (t : Option Nat) : List Nat → Nat
  | [] => 0
  | n :: ns => bl t ns.length (n + smN ns) n + RK t ns
theorem RK_lt : ∀ {ns : List Nat}, (∀ n ∈ ns, Bel t n) → RK t ns < ex t ns.length (smN ns)
  | [], _ => by
    show 0 < ex t 0 0
    exact Nat.one_pos
  | n :: ns, h => by
    have ih := RK_lt fun m hm => h m (List.mem_cons_of_mem _ hm)
    rw [RK, List.length_cons, smN, ← bl_top]
    have h1 := bl_mono (t := t) (d := ns.length) (m := n + smN ns) (cap_le (show n ≤ n + smN ns by omega) (h n (List.mem_cons_self ..)))
    rw [bl_s, show n + smN ns - n = smN ns by omega] at h1
    omega
/-- as tuples -/
def ltN : List Nat → List Nat → Prop
  | n :: ns, m :: ms => n < m ∨ (n = m ∧ ltN ns ms)
  | [], _ :: _ => True
  | _, [] => False
theorem ltN_tri : ∀ (ns ms : List Nat), ns = ms ∨ ltN ns ms ∨ ltN ms ns
  | [], [] => .inl rfl
  | [], _ :: _ => .inr (.inl trivial)
  | _ :: _, [] => .inr (.inr trivial)
  | n :: ns, m :: ms => by
    rcases Nat.lt_trichotomy n m with h | h | h
    · exact .inr (.inl (.inl h))
    · subst h
      rcases ltN_tri ns ms with h | h | h
      · exact .inl (by rw [h])
      · exact .inr (.inl (.inr ⟨rfl, h⟩))
      · exact .inr (.inr (.inr ⟨rfl, h⟩))
    · exact .inr (.inr (.inl h))
theorem RK_ord : ∀ {ns ms : List Nat}, ns.length = ms.length → smN ns = smN ms → (∀ n ∈ ns, Bel t n) → (∀ n ∈ ms, Bel t n) → ltN ns ms → RK t ns < RK t ms
  | [], [], _, _, _, _, h => h.elim
  | [], _ :: _, hl, _, _, _, _ => by simp at hl
  | _ :: _, [], hl, _, _, _, _ => by simp at hl
  | n :: ns, m :: ms, hl, hs, h1, h2, h => by
    have hl' : ns.length = ms.length := by simpa using hl
    rw [smN, smN] at hs
    rw [RK, RK, hs, hl']
    rcases h with h | ⟨rfl, h⟩
    · have a := RK_lt fun m hm => h1 m (List.mem_cons_of_mem _ hm)
      have b := bl_mono (t := t) (d := ms.length) (m := m + smN ms) (show n + 1 ≤ m by omega)
      rw [bl_s, show m + smN ms - n = smN ns by omega, ← hl'] at b
      rw [← hl']
      omega
    · have := RK_ord hl' (by omega) (fun m hm => h1 m (List.mem_cons_of_mem _ hm)) (fun m hm => h2 m (List.mem_cons_of_mem _ hm)) h
      omega
theorem smN_app : ∀ (ps ms : List Nat), smN (ps ++ ms) = smN ps + smN ms
  | [], ms => by simp [smN]
  | p :: ps, ms => by
    rw [List.cons_append, smN, smN, smN_app ps ms]
    omega
end Mt

/-! below, tuple_at, place_of, name_at -/
namespace SI
open PySem L2 Pg Mt
variable {c : Cl} {M : Mc} {t : Option Nat}
/-- the row at a place -/
structure TpAt (t : Option Nat) (d m p : Nat) (ns : List Nat) : Prop where
  l : ns.length = d
  s : smN ns = m
  b : ∀ n ∈ ns, Bel t n
  r : RK t ns = p
end SI

/-! sightings: explains, told_back -/
namespace Pg
open PySem L2 SI Mt
variable {c : Cl}
abbrev Sg := List Nat × Nat
def lnO (g : Sg) : Ln := (g.1.length, smN g.1, g.2)
structure OkSg (g : Sg) : Prop where
  nm : OkN none 1 0 g.1
  tm : g.2 ≤ 100000000000000000000
structure OkL (l : Ln) : Prop where
  t : l.1 ≤ 199
  s : l.2.1 ≤ 199000000000000000
  x : l.2.2 ≤ 100000000000000000000
  z : l.1 = 0 → l.2.1 = 0
theorem OkSg.ln {g : Sg} (h : OkSg g) : OkL (lnO g) where
  t := by
    have := h.nm.l
    unfold lnO
    dsimp only
    omega
  s := by
    have := h.nm.sm
    unfold lnO
    dsimp only
    omega
  x := h.tm
  z := fun e => by
    have : g.1 = [] := List.length_eq_zero_iff.mp e
    unfold lnO
    rw [this]
    rfl
theorem mod_half {a b : Nat} (b0 : 0 < b) (h : b ≤ a) : 2 * (a % b) < a := by
  have h1 := Nat.mod_lt a b0
  have h2 := Nat.div_add_mod a b
  have h3 : 1 ≤ a / b := (Nat.one_le_div_iff b0).mpr h
  have h4 : b * 1 ≤ b * (a / b) := Nat.mul_le_mul_left b h3
  omega
theorem gcd_ok {a b : Nat} (ha : a < 2 ^ 200) (hb : b < 2 ^ 200) (s : S) : G_common_divisor c [.int a, .int b] s = .ok (.int (Nat.gcd a b)) s := by
  apply eq_ok
  unfold G_common_divisor
  simp (implicitDefEqProofs := false) only [↓w_srtT, ↓w_par2, ↓w_par3, ↓w_setd, ↓w_dict1, ↓w_maxDf, ↓w_slT, ↓w_addT, ↓w_dictT, ↓w_dictI, ↓w_get, ↓w_lrg1T, ↓w_lrg2T, ↓w_lrg1, ↓w_lrg2, ↓w_pop0, ↓w_lcT, ↓w_mth, ↓w_calm, ↓w_tryM, ↓w_tm0, ↓w_tmN, ↓w_tmS, ↓w_seq, ↓w_next, ↓w_break, ↓w_cont, ↓w_retN, ↓w_asg, ↓w_expr, ↓w_ret, ↓w_if, ↓w_asgG, ↓w_for, ↓w_put, ↓w_aug, ↓w_augS, ↓w_raise0, ↓w_raise1, ↓w_raise2, ↓w_try, ↓w_tryAs, ↓w_var, ↓w_c, ↓w_op, ↓w_chain, ↓w_notV, ↓w_andV, ↓w_orV, ↓w_ifE, ↓w_tst, ↓w_not, ↓w_and, ↓w_or, ↓w_yes, ↓w_nil, ↓w_cons, ↓w_tup, ↓w_lst, ↓w_lstT, ↓w_cb, ↓w_call, ↓w_callK, ↓w_neg, ↓w_no, ↓w_pt, ↓w_sl, ↓w_fld, ↓w_src, ↓w_rng, ↓w_enu, ↓w_listT, ↓w_app, ↓w_lc, ↓w_xf, ↓w_fldT, ↓w_make, ↓w_makeL, ↓w_run, ↓w_cut, ↓w_pure, ↓w_drop, nth2_eq, nth3_eq, w_ok, w_ex, w_nx, w_rt, w_bk, w_ct, w_exS, w_some, w_v, w_tr, w_fa, w_tb, w_ti, w_tn, w_L, w_L0, wb_not, cn_f, startD, arr, gN_eq, gTp, gCn, gNl, Option.bind_some, List.filterMap_cons, List.filterMap_nil, List.map_cons, List.map_nil, List.replicate_succ, List.replicate_zero, List.cons_append, List.nil_append, List.getElem?_cons_zero, List.getElem?_cons_succ, List.set_cons_zero, List.set_cons_succ, List.length_cons, List.length_nil, Nat.reduceAdd, Nat.reduceSub, Nat.reduceLeDiff, Nat.reduceEqDiff, Int.reducePow, Int.reduceToNat, Int.reduceNeg, Int.reduceAdd, Int.reduceMul, Int.reduceSub, Int.reduceLT, Int.reduceLE, Int.reduceEq, Nat.zero_add, Int.zero_add, big_eq, true_and, and_true, and_self, dSub_int, dAdd_int, dAddI_int, dLt_int, dLe_int, dGt_int, dGe_int, dEqD_int, bInt_int, bLen_lst, bLen_tup, bMin_int, bMax_int, bAbs_int, dIs_non, dIs_int, dIs_nn, Bool.not_true, Bool.not_false, decide_true, decide_false, reduceIte, Bool.false_eq_true, if_false, if_true, iSeq_lst, iSeq_tup, iSeq_rdl, iEnu_lst, iEnu_tup]
  refine ws_while (fun k L s' => ∃ x y : Nat, L = [some (.int x), some (.int y)] ∧ s = s' ∧ Nat.gcd x y = Nat.gcd a b ∧ (y ≤ x ∧ x * y < 2 ^ k ∨ 2 * (x * y) + 1 < 2 ^ k)) 100000 402 ⟨a, b, rfl, rfl, rfl, .inr ?_⟩ (by decide) ?_
  · have : a * b < 2 ^ 200 * 2 ^ 200 := Nat.mul_lt_mul'' ha hb
    have e : (2 : Nat) ^ 402 = 4 * (2 ^ 200 * 2 ^ 200) := by decide +kernel
    omega
  · rintro k L s' ⟨x, y, rfl, rfl, hg, hk⟩
    simp (implicitDefEqProofs := false) only [↓w_srtT, ↓w_par2, ↓w_par3, ↓w_setd, ↓w_dict1, ↓w_maxDf, ↓w_slT, ↓w_addT, ↓w_dictT, ↓w_dictI, ↓w_get, ↓w_lrg1T, ↓w_lrg2T, ↓w_lrg1, ↓w_lrg2, ↓w_pop0, ↓w_lcT, ↓w_mth, ↓w_calm, ↓w_tryM, ↓w_tm0, ↓w_tmN, ↓w_tmS, ↓w_seq, ↓w_next, ↓w_break, ↓w_cont, ↓w_retN, ↓w_asg, ↓w_expr, ↓w_ret, ↓w_if, ↓w_asgG, ↓w_for, ↓w_put, ↓w_aug, ↓w_augS, ↓w_raise0, ↓w_raise1, ↓w_raise2, ↓w_try, ↓w_tryAs, ↓w_var, ↓w_c, ↓w_op, ↓w_chain, ↓w_notV, ↓w_andV, ↓w_orV, ↓w_ifE, ↓w_tst, ↓w_not, ↓w_and, ↓w_or, ↓w_yes, ↓w_nil, ↓w_cons, ↓w_tup, ↓w_lst, ↓w_lstT, ↓w_cb, ↓w_call, ↓w_callK, ↓w_neg, ↓w_no, ↓w_pt, ↓w_sl, ↓w_fld, ↓w_src, ↓w_rng, ↓w_enu, ↓w_listT, ↓w_app, ↓w_lc, ↓w_xf, ↓w_fldT, ↓w_make, ↓w_makeL, ↓w_run, ↓w_cut, ↓w_pure, ↓w_drop, nth2_eq, nth3_eq, w_ok, w_ex, w_nx, w_rt, w_bk, w_ct, w_exS, w_some, w_v, w_tr, w_fa, w_tb, w_ti, w_tn, w_L, w_L0, wb_not, cn_f, startD, arr, gN_eq, gTp, gCn, gNl, Option.bind_some, List.filterMap_cons, List.filterMap_nil, List.map_cons, List.map_nil, List.replicate_succ, List.replicate_zero, List.cons_append, List.nil_append, List.getElem?_cons_zero, List.getElem?_cons_succ, List.set_cons_zero, List.set_cons_succ, List.length_cons, List.length_nil, Nat.reduceAdd, Nat.reduceSub, Nat.reduceLeDiff, Nat.reduceEqDiff, Int.reducePow, Int.reduceToNat, Int.reduceNeg, Int.reduceAdd, Int.reduceMul, Int.reduceSub, Int.reduceLT, Int.reduceLE, Int.reduceEq, Nat.zero_add, Int.zero_add, big_eq, true_and, and_true, and_self, dSub_int, dAdd_int, dAddI_int, dLt_int, dLe_int, dGt_int, dGe_int, dEqD_int, bInt_int, bLen_lst, bLen_tup, bMin_int, bMax_int, bAbs_int, dIs_non, dIs_int, dIs_nn, Bool.not_true, Bool.not_false, decide_true, decide_false, reduceIte, Bool.false_eq_true, if_false, if_true, iSeq_lst, iSeq_tup, iSeq_rdl, iEnu_lst, iEnu_tup]
    refine wb_dec (fun h => ?_) (fun h => ?_)
    · have y0 : 0 < y := by omega
      have em : (x : Int) % (y : Int) = ((x % y : Nat) : Int) := (Int.natCast_emod ..).symm
      have k0 : 0 < k := by
        rcases Nat.eq_zero_or_pos k with e | e
        · subst e
          rcases hk with ⟨h1, h2⟩ | h2
          · have : 0 < x * y := Nat.mul_pos (by omega) y0
            omega
          · omega
        · exact e
      simp (implicitDefEqProofs := false) only [dMod_int (s := s) (i := (x : Int)) (j := (y : Int)) h, em, ↓w_srtT, ↓w_par2, ↓w_par3, ↓w_setd, ↓w_dict1, ↓w_maxDf, ↓w_slT, ↓w_addT, ↓w_dictT, ↓w_dictI, ↓w_get, ↓w_lrg1T, ↓w_lrg2T, ↓w_lrg1, ↓w_lrg2, ↓w_pop0, ↓w_lcT, ↓w_mth, ↓w_calm, ↓w_tryM, ↓w_tm0, ↓w_tmN, ↓w_tmS, ↓w_seq, ↓w_next, ↓w_break, ↓w_cont, ↓w_retN, ↓w_asg, ↓w_expr, ↓w_ret, ↓w_if, ↓w_asgG, ↓w_for, ↓w_put, ↓w_aug, ↓w_augS, ↓w_raise0, ↓w_raise1, ↓w_raise2, ↓w_try, ↓w_tryAs, ↓w_var, ↓w_c, ↓w_op, ↓w_chain, ↓w_notV, ↓w_andV, ↓w_orV, ↓w_ifE, ↓w_tst, ↓w_not, ↓w_and, ↓w_or, ↓w_yes, ↓w_nil, ↓w_cons, ↓w_tup, ↓w_lst, ↓w_lstT, ↓w_cb, ↓w_call, ↓w_callK, ↓w_neg, ↓w_no, ↓w_pt, ↓w_sl, ↓w_fld, ↓w_src, ↓w_rng, ↓w_enu, ↓w_listT, ↓w_app, ↓w_lc, ↓w_xf, ↓w_fldT, ↓w_make, ↓w_makeL, ↓w_run, ↓w_cut, ↓w_pure, ↓w_drop, nth2_eq, nth3_eq, w_ok, w_ex, w_nx, w_rt, w_bk, w_ct, w_exS, w_some, w_v, w_tr, w_fa, w_tb, w_ti, w_tn, w_L, w_L0, wb_not, cn_f, startD, arr, gN_eq, gTp, gCn, gNl, Option.bind_some, List.filterMap_cons, List.filterMap_nil, List.map_cons, List.map_nil, List.replicate_succ, List.replicate_zero, List.cons_append, List.nil_append, List.getElem?_cons_zero, List.getElem?_cons_succ, List.set_cons_zero, List.set_cons_succ, List.length_cons, List.length_nil, Nat.reduceAdd, Nat.reduceSub, Nat.reduceLeDiff, Nat.reduceEqDiff, Int.reducePow, Int.reduceToNat, Int.reduceNeg, Int.reduceAdd, Int.reduceMul, Int.reduceSub, Int.reduceLT, Int.reduceLE, Int.reduceEq, Nat.zero_add, Int.zero_add, big_eq, true_and, and_true, and_self, dSub_int, dAdd_int, dAddI_int, dLt_int, dLe_int, dGt_int, dGe_int, dEqD_int, bInt_int, bLen_lst, bLen_tup, bMin_int, bMax_int, bAbs_int, dIs_non, dIs_int, dIs_nn, Bool.not_true, Bool.not_false, decide_true, decide_false, reduceIte, Bool.false_eq_true, if_false, if_true, iSeq_lst, iSeq_tup, iSeq_rdl, iEnu_lst, iEnu_tup]
      refine ⟨k - 1, by omega, y, x % y, rfl, ?_, ?_⟩
      · rw [Nat.gcd_comm, ← Nat.gcd_rec, Nat.gcd_comm]
        exact hg
      · have e2 : 2 ^ k = 2 * 2 ^ (k - 1) := by
          rw [← Nat.pow_succ', Nat.succ_eq_add_one, Nat.sub_add_cancel k0]
        rcases Nat.lt_or_ge x y with hxy | hxy
        · left
          rw [Nat.mod_eq_of_lt hxy]
          refine ⟨by omega, ?_⟩
          rcases hk with ⟨h1, h2⟩ | h2
          · omega
          · rw [Nat.mul_comm]
            omega
        · left
          have m := mod_half y0 hxy
          refine ⟨Nat.le_of_lt (Nat.mod_lt _ y0), ?_⟩
          have m2 : y * (2 * (x % y)) < y * x := Nat.mul_lt_mul_of_pos_left m y0
          have m3 : y * (2 * (x % y)) = 2 * (y * (x % y)) := by rw [Nat.mul_left_comm]
          have m4 : y * x = x * y := Nat.mul_comm ..
          rcases hk with ⟨h1, h2⟩ | h2 <;> omega
    · have y0 : y = 0 := by omega
      subst y0
      rw [Nat.gcd_zero_right] at hg
      simp (implicitDefEqProofs := false) only [↓w_srtT, ↓w_par2, ↓w_par3, ↓w_setd, ↓w_dict1, ↓w_maxDf, ↓w_slT, ↓w_addT, ↓w_dictT, ↓w_dictI, ↓w_get, ↓w_lrg1T, ↓w_lrg2T, ↓w_lrg1, ↓w_lrg2, ↓w_pop0, ↓w_lcT, ↓w_mth, ↓w_calm, ↓w_tryM, ↓w_tm0, ↓w_tmN, ↓w_tmS, ↓w_seq, ↓w_next, ↓w_break, ↓w_cont, ↓w_retN, ↓w_asg, ↓w_expr, ↓w_ret, ↓w_if, ↓w_asgG, ↓w_for, ↓w_put, ↓w_aug, ↓w_augS, ↓w_raise0, ↓w_raise1, ↓w_raise2, ↓w_try, ↓w_tryAs, ↓w_var, ↓w_c, ↓w_op, ↓w_chain, ↓w_notV, ↓w_andV, ↓w_orV, ↓w_ifE, ↓w_tst, ↓w_not, ↓w_and, ↓w_or, ↓w_yes, ↓w_nil, ↓w_cons, ↓w_tup, ↓w_lst, ↓w_lstT, ↓w_cb, ↓w_call, ↓w_callK, ↓w_neg, ↓w_no, ↓w_pt, ↓w_sl, ↓w_fld, ↓w_src, ↓w_rng, ↓w_enu, ↓w_listT, ↓w_app, ↓w_lc, ↓w_xf, ↓w_fldT, ↓w_make, ↓w_makeL, ↓w_run, ↓w_cut, ↓w_pure, ↓w_drop, nth2_eq, nth3_eq, w_ok, w_ex, w_nx, w_rt, w_bk, w_ct, w_exS, w_some, w_v, w_tr, w_fa, w_tb, w_ti, w_tn, w_L, w_L0, wb_not, cn_f, startD, arr, gN_eq, gTp, gCn, gNl, Option.bind_some, List.filterMap_cons, List.filterMap_nil, List.map_cons, List.map_nil, List.replicate_succ, List.replicate_zero, List.cons_append, List.nil_append, List.getElem?_cons_zero, List.getElem?_cons_succ, List.set_cons_zero, List.set_cons_succ, List.length_cons, List.length_nil, Nat.reduceAdd, Nat.reduceSub, Nat.reduceLeDiff, Nat.reduceEqDiff, Int.reducePow, Int.reduceToNat, Int.reduceNeg, Int.reduceAdd, Int.reduceMul, Int.reduceSub, Int.reduceLT, Int.reduceLE, Int.reduceEq, Nat.zero_add, Int.zero_add, big_eq, true_and, and_true, and_self, dSub_int, dAdd_int, dAddI_int, dLt_int, dLe_int, dGt_int, dGe_int, dEqD_int, bInt_int, bLen_lst, bLen_tup, bMin_int, bMax_int, bAbs_int, dIs_non, dIs_int, dIs_nn, Bool.not_true, Bool.not_false, decide_true, decide_false, reduceIte, Bool.false_eq_true, if_false, if_true, iSeq_lst, iSeq_tup, iSeq_rdl, iEnu_lst, iEnu_tup]
      rw [hg]
end Pg

/-! the same data, of the same types -/
namespace SI
open PySem L2 Pg
variable {c : Cl}
def integerG (c : Cl) : List D → S → R D := runF 1
  ((sRet (fAndV (fCB (bIsi c.cs) (fCons (fVar 0) (fCons (fC (.ty "int")) fNil))) (fNotV (fCB (bIsi c.cs) (fCons (fVar 0) (fCons (fC (.ty "bool")) fNil)))))))
def sameN (c : Cl) : Nat → List D → S → R D
  | 0 => runF 3 sBad
  | n + 1 => runF 3
      ((sSeq (sIf (fTst (fOp (dIs false) (fVar 1) (fC .non))) (sRet (fOp (dIs false) (fVar 0) (fC .non))) sNext)
    (sSeq (sIf (fTst (fCB (bIsi c.cs) (fCons (fVar 1) (fCons (fC (.ty "bool")) fNil)))) (sRet (fAndV (fCB (bIsi c.cs) (fCons (fVar 0) (fCons (fC (.ty "bool")) fNil))) (fOp (dEqD false) (fVar 0) (fVar 1)))) sNext)
    (sSeq (sIf (fTst (fCB (bIsi c.cs) (fCons (fVar 1) (fCons (fC (.ty "int")) fNil)))) (sRet (fAndV (fCall 1 (integerG c) (fCons (fVar 0) fNil)) (fOp (dEqD false) (fVar 0) (fVar 1)))) sNext)
    (sSeq (sIf (fTst (fCB (bIsi c.cs) (fCons (fVar 1) (fCons (fC (.ty "str")) fNil)))) (sRet (fAndV (fCB (bIsi c.cs) (fCons (fVar 0) (fCons (fC (.ty "str")) fNil))) (fOp (dEqD false) (fVar 0) (fVar 1)))) sNext)
    (sSeq (sIf (fAnd (fTst (fCB (bIsi c.cs) (fCons (fVar 1) (fCons (fC (.ty "list")) fNil)))) (fNot (fTst (fCB (bIsi c.cs) (fCons (fVar 0) (fCons (fC (.ty "list")) fNil)))))) (sRet (fC (.bl false))) sNext)
    (sSeq (sIf (fAnd (fTst (fCB (bIsi c.cs) (fCons (fVar 1) (fCons (fC (.ty "tuple")) fNil)))) (fNot (fTst (fCB (bIsi c.cs) (fCons (fVar 0) (fCons (fC (.ty "tuple")) fNil)))))) (sRet (fC (.bl false))) sNext)
    (sSeq (sIf (fTst (fOp (dEqD true) (fCB bLen (fCons (fVar 0) fNil)) (fCB bLen (fCons (fVar 1) fNil)))) (sRet (fC (.bl false))) sNext)
    (sSeq (sFor (fRng dRng1 (fCons (fCB bLen (fCons (fVar 1) fNil)) fNil)) (gN 2) (sIf (fNot (fTst (fCall 2 (sameN c n) (fCons (fOp dIx (fVar 0) (fVar 2)) (fCons (fOp dIx (fVar 1) (fVar 2)) fNil))))) (sRet (fC (.bl false))) sNext))
    (sRet (fC (.bl true))))))))))))
def smOk : Nat → D → Bool
  | 0, _ => false
  | _ + 1, .non => true
  | _ + 1, .bl _ => true
  | _ + 1, .int _ => true
  | _ + 1, .str x => PyData.strOk x
  | n + 1, .tup xs => decide (xs.length ≤ 1000000) && xs.all (smOk n)
  | n + 1, .lst xs => decide (xs.length ≤ 1000000) && xs.all (smOk n)
  | _ + 1, _ => false
theorem it_at (s : S) {xs : List D} {i : Nat} (h : i < xs.length) : dIx s (.tup xs) (.int i) = some xs[i] := by
  rw [dIx_tup, atI_in (by omega) (by omega), Int.toNat_natCast, List.getElem?_eq_getElem h]
theorem il_at (s : S) {xs : List D} {i : Nat} (h : i < xs.length) : dIx s (.lst xs) (.int i) = some xs[i] := by
  rw [dIx_lst, atI_in (by omega) (by omega), Int.toNat_natCast, List.getElem?_eq_getElem h]
theorem eq_bb (s : S) (b : Bool) : dEqD false s (.bl b) (.bl b) = some (.bl true) := by
  cases b <;> rfl
theorem same_refl : ∀ (n : Nat) (d : D), smOk n d = true → ∀ s : S, sameN c n [d, d] s = .ok (.bl true) s
  | 0, d, h, _ => by cases d <;> cases h
  | n + 1, d, h, s => by
    have ih := same_refl n
    apply eq_ok
    rw [sameN]
    have tb : ∀ (xs : List D) (y : String), y ∈ ["bool", "int", "str"] → bIsi c.cs s [.tup xs, .ty y] = some (.bl false) := fun xs y hy => by
      simp only [List.mem_cons, List.not_mem_nil, or_false] at hy
      rcases hy with rfl | rfl | rfl <;> rfl
    have lb : ∀ (xs : List D) (y : String), y ∈ ["bool", "int", "str"] → bIsi c.cs s [.lst xs, .ty y] = some (.bl false) := fun xs y hy => by
      simp only [List.mem_cons, List.not_mem_nil, or_false] at hy
      rcases hy with rfl | rfl | rfl <;> rfl
    cases d with
    | non => simp (implicitDefEqProofs := false) only [↓w_srtT, ↓w_par2, ↓w_par3, ↓w_setd, ↓w_dict1, ↓w_maxDf, ↓w_slT, ↓w_addT, ↓w_dictT, ↓w_dictI, ↓w_get, ↓w_lrg1T, ↓w_lrg2T, ↓w_lrg1, ↓w_lrg2, ↓w_pop0, ↓w_lcT, ↓w_mth, ↓w_calm, ↓w_tryM, ↓w_tm0, ↓w_tmN, ↓w_tmS, ↓w_seq, ↓w_next, ↓w_break, ↓w_cont, ↓w_retN, ↓w_asg, ↓w_expr, ↓w_ret, ↓w_if, ↓w_asgG, ↓w_for, ↓w_put, ↓w_aug, ↓w_augS, ↓w_raise0, ↓w_raise1, ↓w_raise2, ↓w_try, ↓w_tryAs, ↓w_var, ↓w_c, ↓w_op, ↓w_chain, ↓w_notV, ↓w_andV, ↓w_orV, ↓w_ifE, ↓w_tst, ↓w_not, ↓w_and, ↓w_or, ↓w_yes, ↓w_nil, ↓w_cons, ↓w_tup, ↓w_lst, ↓w_lstT, ↓w_cb, ↓w_call, ↓w_callK, ↓w_neg, ↓w_no, ↓w_pt, ↓w_sl, ↓w_fld, ↓w_src, ↓w_rng, ↓w_enu, ↓w_listT, ↓w_app, ↓w_lc, ↓w_xf, ↓w_fldT, ↓w_make, ↓w_makeL, ↓w_run, ↓w_cut, ↓w_pure, ↓w_drop, nth2_eq, nth3_eq, w_ok, w_ex, w_nx, w_rt, w_bk, w_ct, w_exS, w_some, w_v, w_tr, w_fa, w_tb, w_ti, w_tn, w_L, w_L0, wb_not, cn_f, startD, arr, gN_eq, gTp, gCn, gNl, Option.bind_some, List.filterMap_cons, List.filterMap_nil, List.map_cons, List.map_nil, List.replicate_succ, List.replicate_zero, List.cons_append, List.nil_append, List.getElem?_cons_zero, List.getElem?_cons_succ, List.set_cons_zero, List.set_cons_succ, List.length_cons, List.length_nil, Nat.reduceAdd, Nat.reduceSub, Nat.reduceLeDiff, Nat.reduceEqDiff, Int.reducePow, Int.reduceToNat, Int.reduceNeg, Int.reduceAdd, Int.reduceMul, Int.reduceSub, Int.reduceLT, Int.reduceLE, Int.reduceEq, Nat.zero_add, Int.zero_add, big_eq, true_and, and_true, and_self, dSub_int, dAdd_int, dAddI_int, dLt_int, dLe_int, dGt_int, dGe_int, dEqD_int, bInt_int, bLen_lst, bLen_tup, bMin_int, bMax_int, bAbs_int, dIs_non, dIs_int, dIs_nn, Bool.not_true, Bool.not_false, decide_true, decide_false, reduceIte, Bool.false_eq_true, if_false, if_true, iSeq_lst, iSeq_tup, iSeq_rdl, iEnu_lst, iEnu_tup]
    | bl b => simp (implicitDefEqProofs := false) only [show dIs false s (.bl b) .non = some (.bl false) from rfl, isi_blb, eq_bb, ↓w_srtT, ↓w_par2, ↓w_par3, ↓w_setd, ↓w_dict1, ↓w_maxDf, ↓w_slT, ↓w_addT, ↓w_dictT, ↓w_dictI, ↓w_get, ↓w_lrg1T, ↓w_lrg2T, ↓w_lrg1, ↓w_lrg2, ↓w_pop0, ↓w_lcT, ↓w_mth, ↓w_calm, ↓w_tryM, ↓w_tm0, ↓w_tmN, ↓w_tmS, ↓w_seq, ↓w_next, ↓w_break, ↓w_cont, ↓w_retN, ↓w_asg, ↓w_expr, ↓w_ret, ↓w_if, ↓w_asgG, ↓w_for, ↓w_put, ↓w_aug, ↓w_augS, ↓w_raise0, ↓w_raise1, ↓w_raise2, ↓w_try, ↓w_tryAs, ↓w_var, ↓w_c, ↓w_op, ↓w_chain, ↓w_notV, ↓w_andV, ↓w_orV, ↓w_ifE, ↓w_tst, ↓w_not, ↓w_and, ↓w_or, ↓w_yes, ↓w_nil, ↓w_cons, ↓w_tup, ↓w_lst, ↓w_lstT, ↓w_cb, ↓w_call, ↓w_callK, ↓w_neg, ↓w_no, ↓w_pt, ↓w_sl, ↓w_fld, ↓w_src, ↓w_rng, ↓w_enu, ↓w_listT, ↓w_app, ↓w_lc, ↓w_xf, ↓w_fldT, ↓w_make, ↓w_makeL, ↓w_run, ↓w_cut, ↓w_pure, ↓w_drop, nth2_eq, nth3_eq, w_ok, w_ex, w_nx, w_rt, w_bk, w_ct, w_exS, w_some, w_v, w_tr, w_fa, w_tb, w_ti, w_tn, w_L, w_L0, wb_not, cn_f, startD, arr, gN_eq, gTp, gCn, gNl, Option.bind_some, List.filterMap_cons, List.filterMap_nil, List.map_cons, List.map_nil, List.replicate_succ, List.replicate_zero, List.cons_append, List.nil_append, List.getElem?_cons_zero, List.getElem?_cons_succ, List.set_cons_zero, List.set_cons_succ, List.length_cons, List.length_nil, Nat.reduceAdd, Nat.reduceSub, Nat.reduceLeDiff, Nat.reduceEqDiff, Int.reducePow, Int.reduceToNat, Int.reduceNeg, Int.reduceAdd, Int.reduceMul, Int.reduceSub, Int.reduceLT, Int.reduceLE, Int.reduceEq, Nat.zero_add, Int.zero_add, big_eq, true_and, and_true, and_self, dSub_int, dAdd_int, dAddI_int, dLt_int, dLe_int, dGt_int, dGe_int, dEqD_int, bInt_int, bLen_lst, bLen_tup, bMin_int, bMax_int, bAbs_int, dIs_non, dIs_int, dIs_nn, Bool.not_true, Bool.not_false, decide_true, decide_false, reduceIte, Bool.false_eq_true, if_false, if_true, iSeq_lst, iSeq_tup, iSeq_rdl, iEnu_lst, iEnu_tup]
    | int i => simp (implicitDefEqProofs := false) only [isi_int, isi_intb, show integerG c [.int i] s = .ok (.bl true) s from rfl, ↓w_srtT, ↓w_par2, ↓w_par3, ↓w_setd, ↓w_dict1, ↓w_maxDf, ↓w_slT, ↓w_addT, ↓w_dictT, ↓w_dictI, ↓w_get, ↓w_lrg1T, ↓w_lrg2T, ↓w_lrg1, ↓w_lrg2, ↓w_pop0, ↓w_lcT, ↓w_mth, ↓w_calm, ↓w_tryM, ↓w_tm0, ↓w_tmN, ↓w_tmS, ↓w_seq, ↓w_next, ↓w_break, ↓w_cont, ↓w_retN, ↓w_asg, ↓w_expr, ↓w_ret, ↓w_if, ↓w_asgG, ↓w_for, ↓w_put, ↓w_aug, ↓w_augS, ↓w_raise0, ↓w_raise1, ↓w_raise2, ↓w_try, ↓w_tryAs, ↓w_var, ↓w_c, ↓w_op, ↓w_chain, ↓w_notV, ↓w_andV, ↓w_orV, ↓w_ifE, ↓w_tst, ↓w_not, ↓w_and, ↓w_or, ↓w_yes, ↓w_nil, ↓w_cons, ↓w_tup, ↓w_lst, ↓w_lstT, ↓w_cb, ↓w_call, ↓w_callK, ↓w_neg, ↓w_no, ↓w_pt, ↓w_sl, ↓w_fld, ↓w_src, ↓w_rng, ↓w_enu, ↓w_listT, ↓w_app, ↓w_lc, ↓w_xf, ↓w_fldT, ↓w_make, ↓w_makeL, ↓w_run, ↓w_cut, ↓w_pure, ↓w_drop, nth2_eq, nth3_eq, w_ok, w_ex, w_nx, w_rt, w_bk, w_ct, w_exS, w_some, w_v, w_tr, w_fa, w_tb, w_ti, w_tn, w_L, w_L0, wb_not, cn_f, startD, arr, gN_eq, gTp, gCn, gNl, Option.bind_some, List.filterMap_cons, List.filterMap_nil, List.map_cons, List.map_nil, List.replicate_succ, List.replicate_zero, List.cons_append, List.nil_append, List.getElem?_cons_zero, List.getElem?_cons_succ, List.set_cons_zero, List.set_cons_succ, List.length_cons, List.length_nil, Nat.reduceAdd, Nat.reduceSub, Nat.reduceLeDiff, Nat.reduceEqDiff, Int.reducePow, Int.reduceToNat, Int.reduceNeg, Int.reduceAdd, Int.reduceMul, Int.reduceSub, Int.reduceLT, Int.reduceLE, Int.reduceEq, Nat.zero_add, Int.zero_add, big_eq, true_and, and_true, and_self, dSub_int, dAdd_int, dAddI_int, dLt_int, dLe_int, dGt_int, dGe_int, dEqD_int, bInt_int, bLen_lst, bLen_tup, bMin_int, bMax_int, bAbs_int, dIs_non, dIs_int, dIs_nn, Bool.not_true, Bool.not_false, decide_true, decide_false, reduceIte, Bool.false_eq_true, if_false, if_true, iSeq_lst, iSeq_tup, iSeq_rdl, iEnu_lst, iEnu_tup]
    | str x =>
      have hx : PyData.strOk x = true := h
      simp (implicitDefEqProofs := false) only [show dIs false s (.str x) .non = some (.bl false) from rfl, show bIsi c.cs s [.str x, .ty "bool"] = some (.bl false) from rfl, show bIsi c.cs s [.str x, .ty "int"] = some (.bl false) from rfl, show bIsi c.cs s [.str x, .ty "str"] = some (.bl true) from rfl, eqS (s := s) (b := true) hx hx (by simp), ↓w_srtT, ↓w_par2, ↓w_par3, ↓w_setd, ↓w_dict1, ↓w_maxDf, ↓w_slT, ↓w_addT, ↓w_dictT, ↓w_dictI, ↓w_get, ↓w_lrg1T, ↓w_lrg2T, ↓w_lrg1, ↓w_lrg2, ↓w_pop0, ↓w_lcT, ↓w_mth, ↓w_calm, ↓w_tryM, ↓w_tm0, ↓w_tmN, ↓w_tmS, ↓w_seq, ↓w_next, ↓w_break, ↓w_cont, ↓w_retN, ↓w_asg, ↓w_expr, ↓w_ret, ↓w_if, ↓w_asgG, ↓w_for, ↓w_put, ↓w_aug, ↓w_augS, ↓w_raise0, ↓w_raise1, ↓w_raise2, ↓w_try, ↓w_tryAs, ↓w_var, ↓w_c, ↓w_op, ↓w_chain, ↓w_notV, ↓w_andV, ↓w_orV, ↓w_ifE, ↓w_tst, ↓w_not, ↓w_and, ↓w_or, ↓w_yes, ↓w_nil, ↓w_cons, ↓w_tup, ↓w_lst, ↓w_lstT, ↓w_cb, ↓w_call, ↓w_callK, ↓w_neg, ↓w_no, ↓w_pt, ↓w_sl, ↓w_fld, ↓w_src, ↓w_rng, ↓w_enu, ↓w_listT, ↓w_app, ↓w_lc, ↓w_xf, ↓w_fldT, ↓w_make, ↓w_makeL, ↓w_run, ↓w_cut, ↓w_pure, ↓w_drop, nth2_eq, nth3_eq, w_ok, w_ex, w_nx, w_rt, w_bk, w_ct, w_exS, w_some, w_v, w_tr, w_fa, w_tb, w_ti, w_tn, w_L, w_L0, wb_not, cn_f, startD, arr, gN_eq, gTp, gCn, gNl, Option.bind_some, List.filterMap_cons, List.filterMap_nil, List.map_cons, List.map_nil, List.replicate_succ, List.replicate_zero, List.cons_append, List.nil_append, List.getElem?_cons_zero, List.getElem?_cons_succ, List.set_cons_zero, List.set_cons_succ, List.length_cons, List.length_nil, Nat.reduceAdd, Nat.reduceSub, Nat.reduceLeDiff, Nat.reduceEqDiff, Int.reducePow, Int.reduceToNat, Int.reduceNeg, Int.reduceAdd, Int.reduceMul, Int.reduceSub, Int.reduceLT, Int.reduceLE, Int.reduceEq, Nat.zero_add, Int.zero_add, big_eq, true_and, and_true, and_self, dSub_int, dAdd_int, dAddI_int, dLt_int, dLe_int, dGt_int, dGe_int, dEqD_int, bInt_int, bLen_lst, bLen_tup, bMin_int, bMax_int, bAbs_int, dIs_non, dIs_int, dIs_nn, Bool.not_true, Bool.not_false, decide_true, decide_false, reduceIte, Bool.false_eq_true, if_false, if_true, iSeq_lst, iSeq_tup, iSeq_rdl, iEnu_lst, iEnu_tup]
    | tup xs =>
      simp only [smOk, Bool.and_eq_true, decide_eq_true_eq] at h
      obtain ⟨hl, ha⟩ := h
      simp (implicitDefEqProofs := false) only [show dIs false s (.tup xs) .non = some (.bl false) from rfl, tb xs "bool" (by simp), tb xs "int" (by simp), tb xs "str" (by simp), show bIsi c.cs s [.tup xs, .ty "list"] = some (.bl false) from rfl, show bIsi c.cs s [.tup xs, .ty "tuple"] = some (.bl true) from rfl, ↓w_srtT, ↓w_par2, ↓w_par3, ↓w_setd, ↓w_dict1, ↓w_maxDf, ↓w_slT, ↓w_addT, ↓w_dictT, ↓w_dictI, ↓w_get, ↓w_lrg1T, ↓w_lrg2T, ↓w_lrg1, ↓w_lrg2, ↓w_pop0, ↓w_lcT, ↓w_mth, ↓w_calm, ↓w_tryM, ↓w_tm0, ↓w_tmN, ↓w_tmS, ↓w_seq, ↓w_next, ↓w_break, ↓w_cont, ↓w_retN, ↓w_asg, ↓w_expr, ↓w_ret, ↓w_if, ↓w_asgG, ↓w_for, ↓w_put, ↓w_aug, ↓w_augS, ↓w_raise0, ↓w_raise1, ↓w_raise2, ↓w_try, ↓w_tryAs, ↓w_var, ↓w_c, ↓w_op, ↓w_chain, ↓w_notV, ↓w_andV, ↓w_orV, ↓w_ifE, ↓w_tst, ↓w_not, ↓w_and, ↓w_or, ↓w_yes, ↓w_nil, ↓w_cons, ↓w_tup, ↓w_lst, ↓w_lstT, ↓w_cb, ↓w_call, ↓w_callK, ↓w_neg, ↓w_no, ↓w_pt, ↓w_sl, ↓w_fld, ↓w_src, ↓w_rng, ↓w_enu, ↓w_listT, ↓w_app, ↓w_lc, ↓w_xf, ↓w_fldT, ↓w_make, ↓w_makeL, ↓w_run, ↓w_cut, ↓w_pure, ↓w_drop, nth2_eq, nth3_eq, w_ok, w_ex, w_nx, w_rt, w_bk, w_ct, w_exS, w_some, w_v, w_tr, w_fa, w_tb, w_ti, w_tn, w_L, w_L0, wb_not, cn_f, startD, arr, gN_eq, gTp, gCn, gNl, Option.bind_some, List.filterMap_cons, List.filterMap_nil, List.map_cons, List.map_nil, List.replicate_succ, List.replicate_zero, List.cons_append, List.nil_append, List.getElem?_cons_zero, List.getElem?_cons_succ, List.set_cons_zero, List.set_cons_succ, List.length_cons, List.length_nil, Nat.reduceAdd, Nat.reduceSub, Nat.reduceLeDiff, Nat.reduceEqDiff, Int.reducePow, Int.reduceToNat, Int.reduceNeg, Int.reduceAdd, Int.reduceMul, Int.reduceSub, Int.reduceLT, Int.reduceLE, Int.reduceEq, Nat.zero_add, Int.zero_add, big_eq, true_and, and_true, and_self, dSub_int, dAdd_int, dAddI_int, dLt_int, dLe_int, dGt_int, dGe_int, dEqD_int, bInt_int, bLen_lst, bLen_tup, bMin_int, bMax_int, bAbs_int, dIs_non, dIs_int, dIs_nn, Bool.not_true, Bool.not_false, decide_true, decide_false, reduceIte, Bool.false_eq_true, if_false, if_true, iSeq_lst, iSeq_tup, iSeq_rdl, iEnu_lst, iEnu_tup]
      rw [rng1 (by omega) (by omega), w_some, Int.toNat_natCast]
      refine ws_rng (fun i L s' => ∃ y, L = [some (.tup xs), some (.tup xs), y] ∧ s = s') ⟨none, rfl, rfl⟩ ?_ ?_
      · rintro i L s' hi ⟨y, rfl, rfl⟩
        simp (implicitDefEqProofs := false) only [it_at s hi, ih xs[i] (List.all_eq_true.mp ha _ (List.getElem_mem hi)) s, ↓w_srtT, ↓w_par2, ↓w_par3, ↓w_setd, ↓w_dict1, ↓w_maxDf, ↓w_slT, ↓w_addT, ↓w_dictT, ↓w_dictI, ↓w_get, ↓w_lrg1T, ↓w_lrg2T, ↓w_lrg1, ↓w_lrg2, ↓w_pop0, ↓w_lcT, ↓w_mth, ↓w_calm, ↓w_tryM, ↓w_tm0, ↓w_tmN, ↓w_tmS, ↓w_seq, ↓w_next, ↓w_break, ↓w_cont, ↓w_retN, ↓w_asg, ↓w_expr, ↓w_ret, ↓w_if, ↓w_asgG, ↓w_for, ↓w_put, ↓w_aug, ↓w_augS, ↓w_raise0, ↓w_raise1, ↓w_raise2, ↓w_try, ↓w_tryAs, ↓w_var, ↓w_c, ↓w_op, ↓w_chain, ↓w_notV, ↓w_andV, ↓w_orV, ↓w_ifE, ↓w_tst, ↓w_not, ↓w_and, ↓w_or, ↓w_yes, ↓w_nil, ↓w_cons, ↓w_tup, ↓w_lst, ↓w_lstT, ↓w_cb, ↓w_call, ↓w_callK, ↓w_neg, ↓w_no, ↓w_pt, ↓w_sl, ↓w_fld, ↓w_src, ↓w_rng, ↓w_enu, ↓w_listT, ↓w_app, ↓w_lc, ↓w_xf, ↓w_fldT, ↓w_make, ↓w_makeL, ↓w_run, ↓w_cut, ↓w_pure, ↓w_drop, nth2_eq, nth3_eq, w_ok, w_ex, w_nx, w_rt, w_bk, w_ct, w_exS, w_some, w_v, w_tr, w_fa, w_tb, w_ti, w_tn, w_L, w_L0, wb_not, cn_f, startD, arr, gN_eq, gTp, gCn, gNl, Option.bind_some, List.filterMap_cons, List.filterMap_nil, List.map_cons, List.map_nil, List.replicate_succ, List.replicate_zero, List.cons_append, List.nil_append, List.getElem?_cons_zero, List.getElem?_cons_succ, List.set_cons_zero, List.set_cons_succ, List.length_cons, List.length_nil, Nat.reduceAdd, Nat.reduceSub, Nat.reduceLeDiff, Nat.reduceEqDiff, Int.reducePow, Int.reduceToNat, Int.reduceNeg, Int.reduceAdd, Int.reduceMul, Int.reduceSub, Int.reduceLT, Int.reduceLE, Int.reduceEq, Nat.zero_add, Int.zero_add, big_eq, true_and, and_true, and_self, dSub_int, dAdd_int, dAddI_int, dLt_int, dLe_int, dGt_int, dGe_int, dEqD_int, bInt_int, bLen_lst, bLen_tup, bMin_int, bMax_int, bAbs_int, dIs_non, dIs_int, dIs_nn, Bool.not_true, Bool.not_false, decide_true, decide_false, reduceIte, Bool.false_eq_true, if_false, if_true, iSeq_lst, iSeq_tup, iSeq_rdl, iEnu_lst, iEnu_tup]
        exact ⟨_, rfl⟩
      · rintro L s' ⟨y, rfl, rfl⟩
        simp (implicitDefEqProofs := false) only [↓w_srtT, ↓w_par2, ↓w_par3, ↓w_setd, ↓w_dict1, ↓w_maxDf, ↓w_slT, ↓w_addT, ↓w_dictT, ↓w_dictI, ↓w_get, ↓w_lrg1T, ↓w_lrg2T, ↓w_lrg1, ↓w_lrg2, ↓w_pop0, ↓w_lcT, ↓w_mth, ↓w_calm, ↓w_tryM, ↓w_tm0, ↓w_tmN, ↓w_tmS, ↓w_seq, ↓w_next, ↓w_break, ↓w_cont, ↓w_retN, ↓w_asg, ↓w_expr, ↓w_ret, ↓w_if, ↓w_asgG, ↓w_for, ↓w_put, ↓w_aug, ↓w_augS, ↓w_raise0, ↓w_raise1, ↓w_raise2, ↓w_try, ↓w_tryAs, ↓w_var, ↓w_c, ↓w_op, ↓w_chain, ↓w_notV, ↓w_andV, ↓w_orV, ↓w_ifE, ↓w_tst, ↓w_not, ↓w_and, ↓w_or, ↓w_yes, ↓w_nil, ↓w_cons, ↓w_tup, ↓w_lst, ↓w_lstT, ↓w_cb, ↓w_call, ↓w_callK, ↓w_neg, ↓w_no, ↓w_pt, ↓w_sl, ↓w_fld, ↓w_src, ↓w_rng, ↓w_enu, ↓w_listT, ↓w_app, ↓w_lc, ↓w_xf, ↓w_fldT, ↓w_make, ↓w_makeL, ↓w_run, ↓w_cut, ↓w_pure, ↓w_drop, nth2_eq, nth3_eq, w_ok, w_ex, w_nx, w_rt, w_bk, w_ct, w_exS, w_some, w_v, w_tr, w_fa, w_tb, w_ti, w_tn, w_L, w_L0, wb_not, cn_f, startD, arr, gN_eq, gTp, gCn, gNl, Option.bind_some, List.filterMap_cons, List.filterMap_nil, List.map_cons, List.map_nil, List.replicate_succ, List.replicate_zero, List.cons_append, List.nil_append, List.getElem?_cons_zero, List.getElem?_cons_succ, List.set_cons_zero, List.set_cons_succ, List.length_cons, List.length_nil, Nat.reduceAdd, Nat.reduceSub, Nat.reduceLeDiff, Nat.reduceEqDiff, Int.reducePow, Int.reduceToNat, Int.reduceNeg, Int.reduceAdd, Int.reduceMul, Int.reduceSub, Int.reduceLT, Int.reduceLE, Int.reduceEq, Nat.zero_add, Int.zero_add, big_eq, true_and, and_true, and_self, dSub_int, dAdd_int, dAddI_int, dLt_int, dLe_int, dGt_int, dGe_int, dEqD_int, bInt_int, bLen_lst, bLen_tup, bMin_int, bMax_int, bAbs_int, dIs_non, dIs_int, dIs_nn, Bool.not_true, Bool.not_false, decide_true, decide_false, reduceIte, Bool.false_eq_true, if_false, if_true, iSeq_lst, iSeq_tup, iSeq_rdl, iEnu_lst, iEnu_tup]
    | lst xs =>
      simp only [smOk, Bool.and_eq_true, decide_eq_true_eq] at h
      obtain ⟨hl, ha⟩ := h
      simp (implicitDefEqProofs := false) only [show dIs false s (.lst xs) .non = some (.bl false) from rfl, lb xs "bool" (by simp), lb xs "int" (by simp), lb xs "str" (by simp), show bIsi c.cs s [.lst xs, .ty "list"] = some (.bl true) from rfl, show bIsi c.cs s [.lst xs, .ty "tuple"] = some (.bl false) from rfl, ↓w_srtT, ↓w_par2, ↓w_par3, ↓w_setd, ↓w_dict1, ↓w_maxDf, ↓w_slT, ↓w_addT, ↓w_dictT, ↓w_dictI, ↓w_get, ↓w_lrg1T, ↓w_lrg2T, ↓w_lrg1, ↓w_lrg2, ↓w_pop0, ↓w_lcT, ↓w_mth, ↓w_calm, ↓w_tryM, ↓w_tm0, ↓w_tmN, ↓w_tmS, ↓w_seq, ↓w_next, ↓w_break, ↓w_cont, ↓w_retN, ↓w_asg, ↓w_expr, ↓w_ret, ↓w_if, ↓w_asgG, ↓w_for, ↓w_put, ↓w_aug, ↓w_augS, ↓w_raise0, ↓w_raise1, ↓w_raise2, ↓w_try, ↓w_tryAs, ↓w_var, ↓w_c, ↓w_op, ↓w_chain, ↓w_notV, ↓w_andV, ↓w_orV, ↓w_ifE, ↓w_tst, ↓w_not, ↓w_and, ↓w_or, ↓w_yes, ↓w_nil, ↓w_cons, ↓w_tup, ↓w_lst, ↓w_lstT, ↓w_cb, ↓w_call, ↓w_callK, ↓w_neg, ↓w_no, ↓w_pt, ↓w_sl, ↓w_fld, ↓w_src, ↓w_rng, ↓w_enu, ↓w_listT, ↓w_app, ↓w_lc, ↓w_xf, ↓w_fldT, ↓w_make, ↓w_makeL, ↓w_run, ↓w_cut, ↓w_pure, ↓w_drop, nth2_eq, nth3_eq, w_ok, w_ex, w_nx, w_rt, w_bk, w_ct, w_exS, w_some, w_v, w_tr, w_fa, w_tb, w_ti, w_tn, w_L, w_L0, wb_not, cn_f, startD, arr, gN_eq, gTp, gCn, gNl, Option.bind_some, List.filterMap_cons, List.filterMap_nil, List.map_cons, List.map_nil, List.replicate_succ, List.replicate_zero, List.cons_append, List.nil_append, List.getElem?_cons_zero, List.getElem?_cons_succ, List.set_cons_zero, List.set_cons_succ, List.length_cons, List.length_nil, Nat.reduceAdd, Nat.reduceSub, Nat.reduceLeDiff, Nat.reduceEqDiff, Int.reducePow, Int.reduceToNat, Int.reduceNeg, Int.reduceAdd, Int.reduceMul, Int.reduceSub, Int.reduceLT, Int.reduceLE, Int.reduceEq, Nat.zero_add, Int.zero_add, big_eq, true_and, and_true, and_self, dSub_int, dAdd_int, dAddI_int, dLt_int, dLe_int, dGt_int, dGe_int, dEqD_int, bInt_int, bLen_lst, bLen_tup, bMin_int, bMax_int, bAbs_int, dIs_non, dIs_int, dIs_nn, Bool.not_true, Bool.not_false, decide_true, decide_false, reduceIte, Bool.false_eq_true, if_false, if_true, iSeq_lst, iSeq_tup, iSeq_rdl, iEnu_lst, iEnu_tup]
      rw [rng1 (by omega) (by omega), w_some, Int.toNat_natCast]
      refine ws_rng (fun i L s' => ∃ y, L = [some (.lst xs), some (.lst xs), y] ∧ s = s') ⟨none, rfl, rfl⟩ ?_ ?_
      · rintro i L s' hi ⟨y, rfl, rfl⟩
        simp (implicitDefEqProofs := false) only [il_at s hi, ih xs[i] (List.all_eq_true.mp ha _ (List.getElem_mem hi)) s, ↓w_srtT, ↓w_par2, ↓w_par3, ↓w_setd, ↓w_dict1, ↓w_maxDf, ↓w_slT, ↓w_addT, ↓w_dictT, ↓w_dictI, ↓w_get, ↓w_lrg1T, ↓w_lrg2T, ↓w_lrg1, ↓w_lrg2, ↓w_pop0, ↓w_lcT, ↓w_mth, ↓w_calm, ↓w_tryM, ↓w_tm0, ↓w_tmN, ↓w_tmS, ↓w_seq, ↓w_next, ↓w_break, ↓w_cont, ↓w_retN, ↓w_asg, ↓w_expr, ↓w_ret, ↓w_if, ↓w_asgG, ↓w_for, ↓w_put, ↓w_aug, ↓w_augS, ↓w_raise0, ↓w_raise1, ↓w_raise2, ↓w_try, ↓w_tryAs, ↓w_var, ↓w_c, ↓w_op, ↓w_chain, ↓w_notV, ↓w_andV, ↓w_orV, ↓w_ifE, ↓w_tst, ↓w_not, ↓w_and, ↓w_or, ↓w_yes, ↓w_nil, ↓w_cons, ↓w_tup, ↓w_lst, ↓w_lstT, ↓w_cb, ↓w_call, ↓w_callK, ↓w_neg, ↓w_no, ↓w_pt, ↓w_sl, ↓w_fld, ↓w_src, ↓w_rng, ↓w_enu, ↓w_listT, ↓w_app, ↓w_lc, ↓w_xf, ↓w_fldT, ↓w_make, ↓w_makeL, ↓w_run, ↓w_cut, ↓w_pure, ↓w_drop, nth2_eq, nth3_eq, w_ok, w_ex, w_nx, w_rt, w_bk, w_ct, w_exS, w_some, w_v, w_tr, w_fa, w_tb, w_ti, w_tn, w_L, w_L0, wb_not, cn_f, startD, arr, gN_eq, gTp, gCn, gNl, Option.bind_some, List.filterMap_cons, List.filterMap_nil, List.map_cons, List.map_nil, List.replicate_succ, List.replicate_zero, List.cons_append, List.nil_append, List.getElem?_cons_zero, List.getElem?_cons_succ, List.set_cons_zero, List.set_cons_succ, List.length_cons, List.length_nil, Nat.reduceAdd, Nat.reduceSub, Nat.reduceLeDiff, Nat.reduceEqDiff, Int.reducePow, Int.reduceToNat, Int.reduceNeg, Int.reduceAdd, Int.reduceMul, Int.reduceSub, Int.reduceLT, Int.reduceLE, Int.reduceEq, Nat.zero_add, Int.zero_add, big_eq, true_and, and_true, and_self, dSub_int, dAdd_int, dAddI_int, dLt_int, dLe_int, dGt_int, dGe_int, dEqD_int, bInt_int, bLen_lst, bLen_tup, bMin_int, bMax_int, bAbs_int, dIs_non, dIs_int, dIs_nn, Bool.not_true, Bool.not_false, decide_true, decide_false, reduceIte, Bool.false_eq_true, if_false, if_true, iSeq_lst, iSeq_tup, iSeq_rdl, iEnu_lst, iEnu_tup]
        exact ⟨_, rfl⟩
      · rintro L s' ⟨y, rfl, rfl⟩
        simp (implicitDefEqProofs := false) only [↓w_srtT, ↓w_par2, ↓w_par3, ↓w_setd, ↓w_dict1, ↓w_maxDf, ↓w_slT, ↓w_addT, ↓w_dictT, ↓w_dictI, ↓w_get, ↓w_lrg1T, ↓w_lrg2T, ↓w_lrg1, ↓w_lrg2, ↓w_pop0, ↓w_lcT, ↓w_mth, ↓w_calm, ↓w_tryM, ↓w_tm0, ↓w_tmN, ↓w_tmS, ↓w_seq, ↓w_next, ↓w_break, ↓w_cont, ↓w_retN, ↓w_asg, ↓w_expr, ↓w_ret, ↓w_if, ↓w_asgG, ↓w_for, ↓w_put, ↓w_aug, ↓w_augS, ↓w_raise0, ↓w_raise1, ↓w_raise2, ↓w_try, ↓w_tryAs, ↓w_var, ↓w_c, ↓w_op, ↓w_chain, ↓w_notV, ↓w_andV, ↓w_orV, ↓w_ifE, ↓w_tst, ↓w_not, ↓w_and, ↓w_or, ↓w_yes, ↓w_nil, ↓w_cons, ↓w_tup, ↓w_lst, ↓w_lstT, ↓w_cb, ↓w_call, ↓w_callK, ↓w_neg, ↓w_no, ↓w_pt, ↓w_sl, ↓w_fld, ↓w_src, ↓w_rng, ↓w_enu, ↓w_listT, ↓w_app, ↓w_lc, ↓w_xf, ↓w_fldT, ↓w_make, ↓w_makeL, ↓w_run, ↓w_cut, ↓w_pure, ↓w_drop, nth2_eq, nth3_eq, w_ok, w_ex, w_nx, w_rt, w_bk, w_ct, w_exS, w_some, w_v, w_tr, w_fa, w_tb, w_ti, w_tn, w_L, w_L0, wb_not, cn_f, startD, arr, gN_eq, gTp, gCn, gNl, Option.bind_some, List.filterMap_cons, List.filterMap_nil, List.map_cons, List.map_nil, List.replicate_succ, List.replicate_zero, List.cons_append, List.nil_append, List.getElem?_cons_zero, List.getElem?_cons_succ, List.set_cons_zero, List.set_cons_succ, List.length_cons, List.length_nil, Nat.reduceAdd, Nat.reduceSub, Nat.reduceLeDiff, Nat.reduceEqDiff, Int.reducePow, Int.reduceToNat, Int.reduceNeg, Int.reduceAdd, Int.reduceMul, Int.reduceSub, Int.reduceLT, Int.reduceLE, Int.reduceEq, Nat.zero_add, Int.zero_add, big_eq, true_and, and_true, and_self, dSub_int, dAdd_int, dAddI_int, dLt_int, dLe_int, dGt_int, dGe_int, dEqD_int, bInt_int, bLen_lst, bLen_tup, bMin_int, bMax_int, bAbs_int, dIs_non, dIs_int, dIs_nn, Bool.not_true, Bool.not_false, decide_true, decide_false, reduceIte, Bool.false_eq_true, if_false, if_true, iSeq_lst, iSeq_tup, iSeq_rdl, iEnu_lst, iEnu_tup]
    | _ => cases h
end SI

namespace Pg
open PySem L2 SI Mt
variable {c : Cl}
theorem wyR_lt {a : Nat} (ha : 1 ≤ a) (ha1 : a ≤ 40) {b : Nat} (hb : b ≤ 40) : wyR a b < 2 ^ (7 * b + 1) := by
  rw [wyR_bin ha]
  have h1 := bin_le_pow (a - 1 + b) b
  have h2 : (a - 1 + b + 1) ^ b ≤ (2 ^ 7) ^ b := Nat.pow_le_pow_left (by omega) b
  have h3 : (2 ^ 7) ^ b = 2 ^ (7 * b) := (Nat.pow_mul ..).symm
  have h4 : 2 ^ (7 * b) < 2 ^ (7 * b + 1) := Nat.pow_lt_pow_right (by omega) (by omega)
  omega
theorem wyR_pos {a : Nat} (ha : 1 ≤ a) (b : Nat) : 1 ≤ wyR a b := by
  rw [wyR_bin ha]
  exact bin_pos _ _ (by omega)
theorem names_of_pair_ok {a b : Nat} (ha : a ≤ 40) (hb : b ≤ 40) (s : S) : G_names_of_pair c [.int a, .int b] s = .ok (.int (wy a b : Nat)) s := by
  apply eq_ok
  unfold G_names_of_pair
  simp (implicitDefEqProofs := false) only [↓w_srtT, ↓w_par2, ↓w_par3, ↓w_setd, ↓w_dict1, ↓w_maxDf, ↓w_slT, ↓w_addT, ↓w_dictT, ↓w_dictI, ↓w_get, ↓w_lrg1T, ↓w_lrg2T, ↓w_lrg1, ↓w_lrg2, ↓w_pop0, ↓w_lcT, ↓w_mth, ↓w_calm, ↓w_tryM, ↓w_tm0, ↓w_tmN, ↓w_tmS, ↓w_seq, ↓w_next, ↓w_break, ↓w_cont, ↓w_retN, ↓w_asg, ↓w_expr, ↓w_ret, ↓w_if, ↓w_asgG, ↓w_for, ↓w_put, ↓w_aug, ↓w_augS, ↓w_raise0, ↓w_raise1, ↓w_raise2, ↓w_try, ↓w_tryAs, ↓w_var, ↓w_c, ↓w_op, ↓w_chain, ↓w_notV, ↓w_andV, ↓w_orV, ↓w_ifE, ↓w_tst, ↓w_not, ↓w_and, ↓w_or, ↓w_yes, ↓w_nil, ↓w_cons, ↓w_tup, ↓w_lst, ↓w_lstT, ↓w_cb, ↓w_call, ↓w_callK, ↓w_neg, ↓w_no, ↓w_pt, ↓w_sl, ↓w_fld, ↓w_src, ↓w_rng, ↓w_enu, ↓w_listT, ↓w_app, ↓w_lc, ↓w_xf, ↓w_fldT, ↓w_make, ↓w_makeL, ↓w_run, ↓w_cut, ↓w_pure, ↓w_drop, nth2_eq, nth3_eq, w_ok, w_ex, w_nx, w_rt, w_bk, w_ct, w_exS, w_some, w_v, w_tr, w_fa, w_tb, w_ti, w_tn, w_L, w_L0, wb_not, cn_f, startD, arr, gN_eq, gTp, gCn, gNl, Option.bind_some, List.filterMap_cons, List.filterMap_nil, List.map_cons, List.map_nil, List.replicate_succ, List.replicate_zero, List.cons_append, List.nil_append, List.getElem?_cons_zero, List.getElem?_cons_succ, List.set_cons_zero, List.set_cons_succ, List.length_cons, List.length_nil, Nat.reduceAdd, Nat.reduceSub, Nat.reduceLeDiff, Nat.reduceEqDiff, Int.reducePow, Int.reduceToNat, Int.reduceNeg, Int.reduceAdd, Int.reduceMul, Int.reduceSub, Int.reduceLT, Int.reduceLE, Int.reduceEq, Nat.zero_add, Int.zero_add, big_eq, true_and, and_true, and_self, dSub_int, dAdd_int, dAddI_int, dLt_int, dLe_int, dGt_int, dGe_int, dEqD_int, bInt_int, bLen_lst, bLen_tup, bMin_int, bMax_int, bAbs_int, dIs_non, dIs_int, dIs_nn, Bool.not_true, Bool.not_false, decide_true, decide_false, reduceIte, Bool.false_eq_true, if_false, if_true, iSeq_lst, iSeq_tup, iSeq_rdl, iEnu_lst, iEnu_tup]
  refine wb_dec (fun h => ?_) (fun h => ?_)
  · have : a = 0 := by omega
    subst this
    unfold wy
    rw [if_pos rfl]
    by_cases hb0 : b = 0
    · subst hb0
      simp (implicitDefEqProofs := false) only [↓w_srtT, ↓w_par2, ↓w_par3, ↓w_setd, ↓w_dict1, ↓w_maxDf, ↓w_slT, ↓w_addT, ↓w_dictT, ↓w_dictI, ↓w_get, ↓w_lrg1T, ↓w_lrg2T, ↓w_lrg1, ↓w_lrg2, ↓w_pop0, ↓w_lcT, ↓w_mth, ↓w_calm, ↓w_tryM, ↓w_tm0, ↓w_tmN, ↓w_tmS, ↓w_seq, ↓w_next, ↓w_break, ↓w_cont, ↓w_retN, ↓w_asg, ↓w_expr, ↓w_ret, ↓w_if, ↓w_asgG, ↓w_for, ↓w_put, ↓w_aug, ↓w_augS, ↓w_raise0, ↓w_raise1, ↓w_raise2, ↓w_try, ↓w_tryAs, ↓w_var, ↓w_c, ↓w_op, ↓w_chain, ↓w_notV, ↓w_andV, ↓w_orV, ↓w_ifE, ↓w_tst, ↓w_not, ↓w_and, ↓w_or, ↓w_yes, ↓w_nil, ↓w_cons, ↓w_tup, ↓w_lst, ↓w_lstT, ↓w_cb, ↓w_call, ↓w_callK, ↓w_neg, ↓w_no, ↓w_pt, ↓w_sl, ↓w_fld, ↓w_src, ↓w_rng, ↓w_enu, ↓w_listT, ↓w_app, ↓w_lc, ↓w_xf, ↓w_fldT, ↓w_make, ↓w_makeL, ↓w_run, ↓w_cut, ↓w_pure, ↓w_drop, nth2_eq, nth3_eq, w_ok, w_ex, w_nx, w_rt, w_bk, w_ct, w_exS, w_some, w_v, w_tr, w_fa, w_tb, w_ti, w_tn, w_L, w_L0, wb_not, cn_f, startD, arr, gN_eq, gTp, gCn, gNl, Option.bind_some, List.filterMap_cons, List.filterMap_nil, List.map_cons, List.map_nil, List.replicate_succ, List.replicate_zero, List.cons_append, List.nil_append, List.getElem?_cons_zero, List.getElem?_cons_succ, List.set_cons_zero, List.set_cons_succ, List.length_cons, List.length_nil, Nat.reduceAdd, Nat.reduceSub, Nat.reduceLeDiff, Nat.reduceEqDiff, Int.reducePow, Int.reduceToNat, Int.reduceNeg, Int.reduceAdd, Int.reduceMul, Int.reduceSub, Int.reduceLT, Int.reduceLE, Int.reduceEq, Nat.zero_add, Int.zero_add, big_eq, true_and, and_true, and_self, dSub_int, dAdd_int, dAddI_int, dLt_int, dLe_int, dGt_int, dGe_int, dEqD_int, bInt_int, bLen_lst, bLen_tup, bMin_int, bMax_int, bAbs_int, dIs_non, dIs_int, dIs_nn, Bool.not_true, Bool.not_false, decide_true, decide_false, reduceIte, Bool.false_eq_true, if_false, if_true, iSeq_lst, iSeq_tup, iSeq_rdl, iEnu_lst, iEnu_tup]
      trivial
    · rw [if_neg hb0]
      simp (implicitDefEqProofs := false) only [↓w_srtT, ↓w_par2, ↓w_par3, ↓w_setd, ↓w_dict1, ↓w_maxDf, ↓w_slT, ↓w_addT, ↓w_dictT, ↓w_dictI, ↓w_get, ↓w_lrg1T, ↓w_lrg2T, ↓w_lrg1, ↓w_lrg2, ↓w_pop0, ↓w_lcT, ↓w_mth, ↓w_calm, ↓w_tryM, ↓w_tm0, ↓w_tmN, ↓w_tmS, ↓w_seq, ↓w_next, ↓w_break, ↓w_cont, ↓w_retN, ↓w_asg, ↓w_expr, ↓w_ret, ↓w_if, ↓w_asgG, ↓w_for, ↓w_put, ↓w_aug, ↓w_augS, ↓w_raise0, ↓w_raise1, ↓w_raise2, ↓w_try, ↓w_tryAs, ↓w_var, ↓w_c, ↓w_op, ↓w_chain, ↓w_notV, ↓w_andV, ↓w_orV, ↓w_ifE, ↓w_tst, ↓w_not, ↓w_and, ↓w_or, ↓w_yes, ↓w_nil, ↓w_cons, ↓w_tup, ↓w_lst, ↓w_lstT, ↓w_cb, ↓w_call, ↓w_callK, ↓w_neg, ↓w_no, ↓w_pt, ↓w_sl, ↓w_fld, ↓w_src, ↓w_rng, ↓w_enu, ↓w_listT, ↓w_app, ↓w_lc, ↓w_xf, ↓w_fldT, ↓w_make, ↓w_makeL, ↓w_run, ↓w_cut, ↓w_pure, ↓w_drop, nth2_eq, nth3_eq, w_ok, w_ex, w_nx, w_rt, w_bk, w_ct, w_exS, w_some, w_v, w_tr, w_fa, w_tb, w_ti, w_tn, w_L, w_L0, wb_not, cn_f, startD, arr, gN_eq, gTp, gCn, gNl, Option.bind_some, List.filterMap_cons, List.filterMap_nil, List.map_cons, List.map_nil, List.replicate_succ, List.replicate_zero, List.cons_append, List.nil_append, List.getElem?_cons_zero, List.getElem?_cons_succ, List.set_cons_zero, List.set_cons_succ, List.length_cons, List.length_nil, Nat.reduceAdd, Nat.reduceSub, Nat.reduceLeDiff, Nat.reduceEqDiff, Int.reducePow, Int.reduceToNat, Int.reduceNeg, Int.reduceAdd, Int.reduceMul, Int.reduceSub, Int.reduceLT, Int.reduceLE, Int.reduceEq, Nat.zero_add, Int.zero_add, big_eq, true_and, and_true, and_self, dSub_int, dAdd_int, dAddI_int, dLt_int, dLe_int, dGt_int, dGe_int, dEqD_int, bInt_int, bLen_lst, bLen_tup, bMin_int, bMax_int, bAbs_int, dIs_non, dIs_int, dIs_nn, Bool.not_true, Bool.not_false, decide_true, decide_false, reduceIte, Bool.false_eq_true, if_false, if_true, iSeq_lst, iSeq_tup, iSeq_rdl, iEnu_lst, iEnu_tup]
      rw [decide_eq_false (show ¬ (b : Int) = 0 by omega)]
      exact ⟨rfl, rfl⟩
  · have a1 : 1 ≤ a := by omega
    simp (implicitDefEqProofs := false) only [↓w_srtT, ↓w_par2, ↓w_par3, ↓w_setd, ↓w_dict1, ↓w_maxDf, ↓w_slT, ↓w_addT, ↓w_dictT, ↓w_dictI, ↓w_get, ↓w_lrg1T, ↓w_lrg2T, ↓w_lrg1, ↓w_lrg2, ↓w_pop0, ↓w_lcT, ↓w_mth, ↓w_calm, ↓w_tryM, ↓w_tm0, ↓w_tmN, ↓w_tmS, ↓w_seq, ↓w_next, ↓w_break, ↓w_cont, ↓w_retN, ↓w_asg, ↓w_expr, ↓w_ret, ↓w_if, ↓w_asgG, ↓w_for, ↓w_put, ↓w_aug, ↓w_augS, ↓w_raise0, ↓w_raise1, ↓w_raise2, ↓w_try, ↓w_tryAs, ↓w_var, ↓w_c, ↓w_op, ↓w_chain, ↓w_notV, ↓w_andV, ↓w_orV, ↓w_ifE, ↓w_tst, ↓w_not, ↓w_and, ↓w_or, ↓w_yes, ↓w_nil, ↓w_cons, ↓w_tup, ↓w_lst, ↓w_lstT, ↓w_cb, ↓w_call, ↓w_callK, ↓w_neg, ↓w_no, ↓w_pt, ↓w_sl, ↓w_fld, ↓w_src, ↓w_rng, ↓w_enu, ↓w_listT, ↓w_app, ↓w_lc, ↓w_xf, ↓w_fldT, ↓w_make, ↓w_makeL, ↓w_run, ↓w_cut, ↓w_pure, ↓w_drop, nth2_eq, nth3_eq, w_ok, w_ex, w_nx, w_rt, w_bk, w_ct, w_exS, w_some, w_v, w_tr, w_fa, w_tb, w_ti, w_tn, w_L, w_L0, wb_not, cn_f, startD, arr, gN_eq, gTp, gCn, gNl, Option.bind_some, List.filterMap_cons, List.filterMap_nil, List.map_cons, List.map_nil, List.replicate_succ, List.replicate_zero, List.cons_append, List.nil_append, List.getElem?_cons_zero, List.getElem?_cons_succ, List.set_cons_zero, List.set_cons_succ, List.length_cons, List.length_nil, Nat.reduceAdd, Nat.reduceSub, Nat.reduceLeDiff, Nat.reduceEqDiff, Int.reducePow, Int.reduceToNat, Int.reduceNeg, Int.reduceAdd, Int.reduceMul, Int.reduceSub, Int.reduceLT, Int.reduceLE, Int.reduceEq, Nat.zero_add, Int.zero_add, big_eq, true_and, and_true, and_self, dSub_int, dAdd_int, dAddI_int, dLt_int, dLe_int, dGt_int, dGe_int, dEqD_int, bInt_int, bLen_lst, bLen_tup, bMin_int, bMax_int, bAbs_int, dIs_non, dIs_int, dIs_nn, Bool.not_true, Bool.not_false, decide_true, decide_false, reduceIte, Bool.false_eq_true, if_false, if_true, iSeq_lst, iSeq_tup, iSeq_rdl, iEnu_lst, iEnu_tup]
    rw [rng2 (by omega) (by omega) (by omega) (by omega), w_some, show ((b : Int) + 1 - 1).toNat = b by omega]
    refine ws_rng (fun i L s' => ∃ y, L = [some (.int a), some (.int b), some (.int (wyR a i : Nat)), y] ∧ s' = s) ⟨none, rfl, rfl⟩ ?_ ?_
    · rintro i L s' hi ⟨y, rfl, rfl⟩
      simp (implicitDefEqProofs := false) only [↓w_srtT, ↓w_par2, ↓w_par3, ↓w_setd, ↓w_dict1, ↓w_maxDf, ↓w_slT, ↓w_addT, ↓w_dictT, ↓w_dictI, ↓w_get, ↓w_lrg1T, ↓w_lrg2T, ↓w_lrg1, ↓w_lrg2, ↓w_pop0, ↓w_lcT, ↓w_mth, ↓w_calm, ↓w_tryM, ↓w_tm0, ↓w_tmN, ↓w_tmS, ↓w_seq, ↓w_next, ↓w_break, ↓w_cont, ↓w_retN, ↓w_asg, ↓w_expr, ↓w_ret, ↓w_if, ↓w_asgG, ↓w_for, ↓w_put, ↓w_aug, ↓w_augS, ↓w_raise0, ↓w_raise1, ↓w_raise2, ↓w_try, ↓w_tryAs, ↓w_var, ↓w_c, ↓w_op, ↓w_chain, ↓w_notV, ↓w_andV, ↓w_orV, ↓w_ifE, ↓w_tst, ↓w_not, ↓w_and, ↓w_or, ↓w_yes, ↓w_nil, ↓w_cons, ↓w_tup, ↓w_lst, ↓w_lstT, ↓w_cb, ↓w_call, ↓w_callK, ↓w_neg, ↓w_no, ↓w_pt, ↓w_sl, ↓w_fld, ↓w_src, ↓w_rng, ↓w_enu, ↓w_listT, ↓w_app, ↓w_lc, ↓w_xf, ↓w_fldT, ↓w_make, ↓w_makeL, ↓w_run, ↓w_cut, ↓w_pure, ↓w_drop, nth2_eq, nth3_eq, w_ok, w_ex, w_nx, w_rt, w_bk, w_ct, w_exS, w_some, w_v, w_tr, w_fa, w_tb, w_ti, w_tn, w_L, w_L0, wb_not, cn_f, startD, arr, gN_eq, gTp, gCn, gNl, Option.bind_some, List.filterMap_cons, List.filterMap_nil, List.map_cons, List.map_nil, List.replicate_succ, List.replicate_zero, List.cons_append, List.nil_append, List.getElem?_cons_zero, List.getElem?_cons_succ, List.set_cons_zero, List.set_cons_succ, List.length_cons, List.length_nil, Nat.reduceAdd, Nat.reduceSub, Nat.reduceLeDiff, Nat.reduceEqDiff, Int.reducePow, Int.reduceToNat, Int.reduceNeg, Int.reduceAdd, Int.reduceMul, Int.reduceSub, Int.reduceLT, Int.reduceLE, Int.reduceEq, Nat.zero_add, Int.zero_add, big_eq, true_and, and_true, and_self, dSub_int, dAdd_int, dAddI_int, dLt_int, dLe_int, dGt_int, dGe_int, dEqD_int, bInt_int, bLen_lst, bLen_tup, bMin_int, bMax_int, bAbs_int, dIs_non, dIs_int, dIs_nn, Bool.not_true, Bool.not_false, decide_true, decide_false, reduceIte, Bool.false_eq_true, if_false, if_true, iSeq_lst, iSeq_tup, iSeq_rdl, iEnu_lst, iEnu_tup]
      have e1 : (a : Int) - 1 + (1 + i) = ((a + i : Nat) : Int) := by omega
      have e2 : (1 : Int) + i = ((i + 1 : Nat) : Int) := by omega
      have b1 := wyR_lt a1 ha (show i ≤ 40 by omega)
      rw [e1, e2, dMul_ok (b := 40) (bitsN b1) (bitsN (by omega)) (by omega)]
      simp (implicitDefEqProofs := false) only [↓w_srtT, ↓w_par2, ↓w_par3, ↓w_setd, ↓w_dict1, ↓w_maxDf, ↓w_slT, ↓w_addT, ↓w_dictT, ↓w_dictI, ↓w_get, ↓w_lrg1T, ↓w_lrg2T, ↓w_lrg1, ↓w_lrg2, ↓w_pop0, ↓w_lcT, ↓w_mth, ↓w_calm, ↓w_tryM, ↓w_tm0, ↓w_tmN, ↓w_tmS, ↓w_seq, ↓w_next, ↓w_break, ↓w_cont, ↓w_retN, ↓w_asg, ↓w_expr, ↓w_ret, ↓w_if, ↓w_asgG, ↓w_for, ↓w_put, ↓w_aug, ↓w_augS, ↓w_raise0, ↓w_raise1, ↓w_raise2, ↓w_try, ↓w_tryAs, ↓w_var, ↓w_c, ↓w_op, ↓w_chain, ↓w_notV, ↓w_andV, ↓w_orV, ↓w_ifE, ↓w_tst, ↓w_not, ↓w_and, ↓w_or, ↓w_yes, ↓w_nil, ↓w_cons, ↓w_tup, ↓w_lst, ↓w_lstT, ↓w_cb, ↓w_call, ↓w_callK, ↓w_neg, ↓w_no, ↓w_pt, ↓w_sl, ↓w_fld, ↓w_src, ↓w_rng, ↓w_enu, ↓w_listT, ↓w_app, ↓w_lc, ↓w_xf, ↓w_fldT, ↓w_make, ↓w_makeL, ↓w_run, ↓w_cut, ↓w_pure, ↓w_drop, nth2_eq, nth3_eq, w_ok, w_ex, w_nx, w_rt, w_bk, w_ct, w_exS, w_some, w_v, w_tr, w_fa, w_tb, w_ti, w_tn, w_L, w_L0, wb_not, cn_f, startD, arr, gN_eq, gTp, gCn, gNl, Option.bind_some, List.filterMap_cons, List.filterMap_nil, List.map_cons, List.map_nil, List.replicate_succ, List.replicate_zero, List.cons_append, List.nil_append, List.getElem?_cons_zero, List.getElem?_cons_succ, List.set_cons_zero, List.set_cons_succ, List.length_cons, List.length_nil, Nat.reduceAdd, Nat.reduceSub, Nat.reduceLeDiff, Nat.reduceEqDiff, Int.reducePow, Int.reduceToNat, Int.reduceNeg, Int.reduceAdd, Int.reduceMul, Int.reduceSub, Int.reduceLT, Int.reduceLE, Int.reduceEq, Nat.zero_add, Int.zero_add, big_eq, true_and, and_true, and_self, dSub_int, dAdd_int, dAddI_int, dLt_int, dLe_int, dGt_int, dGe_int, dEqD_int, bInt_int, bLen_lst, bLen_tup, bMin_int, bMax_int, bAbs_int, dIs_non, dIs_int, dIs_nn, Bool.not_true, Bool.not_false, decide_true, decide_false, reduceIte, Bool.false_eq_true, if_false, if_true, iSeq_lst, iSeq_tup, iSeq_rdl, iEnu_lst, iEnu_tup]
      rw [dDiv_ok (a := 40) (by omega) (bitsN (show i + 1 < 2 ^ 40 by omega)) (by omega)]
      simp (implicitDefEqProofs := false) only [↓w_srtT, ↓w_par2, ↓w_par3, ↓w_setd, ↓w_dict1, ↓w_maxDf, ↓w_slT, ↓w_addT, ↓w_dictT, ↓w_dictI, ↓w_get, ↓w_lrg1T, ↓w_lrg2T, ↓w_lrg1, ↓w_lrg2, ↓w_pop0, ↓w_lcT, ↓w_mth, ↓w_calm, ↓w_tryM, ↓w_tm0, ↓w_tmN, ↓w_tmS, ↓w_seq, ↓w_next, ↓w_break, ↓w_cont, ↓w_retN, ↓w_asg, ↓w_expr, ↓w_ret, ↓w_if, ↓w_asgG, ↓w_for, ↓w_put, ↓w_aug, ↓w_augS, ↓w_raise0, ↓w_raise1, ↓w_raise2, ↓w_try, ↓w_tryAs, ↓w_var, ↓w_c, ↓w_op, ↓w_chain, ↓w_notV, ↓w_andV, ↓w_orV, ↓w_ifE, ↓w_tst, ↓w_not, ↓w_and, ↓w_or, ↓w_yes, ↓w_nil, ↓w_cons, ↓w_tup, ↓w_lst, ↓w_lstT, ↓w_cb, ↓w_call, ↓w_callK, ↓w_neg, ↓w_no, ↓w_pt, ↓w_sl, ↓w_fld, ↓w_src, ↓w_rng, ↓w_enu, ↓w_listT, ↓w_app, ↓w_lc, ↓w_xf, ↓w_fldT, ↓w_make, ↓w_makeL, ↓w_run, ↓w_cut, ↓w_pure, ↓w_drop, nth2_eq, nth3_eq, w_ok, w_ex, w_nx, w_rt, w_bk, w_ct, w_exS, w_some, w_v, w_tr, w_fa, w_tb, w_ti, w_tn, w_L, w_L0, wb_not, cn_f, startD, arr, gN_eq, gTp, gCn, gNl, Option.bind_some, List.filterMap_cons, List.filterMap_nil, List.map_cons, List.map_nil, List.replicate_succ, List.replicate_zero, List.cons_append, List.nil_append, List.getElem?_cons_zero, List.getElem?_cons_succ, List.set_cons_zero, List.set_cons_succ, List.length_cons, List.length_nil, Nat.reduceAdd, Nat.reduceSub, Nat.reduceLeDiff, Nat.reduceEqDiff, Int.reducePow, Int.reduceToNat, Int.reduceNeg, Int.reduceAdd, Int.reduceMul, Int.reduceSub, Int.reduceLT, Int.reduceLE, Int.reduceEq, Nat.zero_add, Int.zero_add, big_eq, true_and, and_true, and_self, dSub_int, dAdd_int, dAddI_int, dLt_int, dLe_int, dGt_int, dGe_int, dEqD_int, bInt_int, bLen_lst, bLen_tup, bMin_int, bMax_int, bAbs_int, dIs_non, dIs_int, dIs_nn, Bool.not_true, Bool.not_false, decide_true, decide_false, reduceIte, Bool.false_eq_true, if_false, if_true, iSeq_lst, iSeq_tup, iSeq_rdl, iEnu_lst, iEnu_tup]
      exact ⟨_, rfl⟩
    · rintro L s' ⟨y, rfl, rfl⟩
      unfold wy
      rw [if_neg (by omega)]
      simp (implicitDefEqProofs := false) only [↓w_srtT, ↓w_par2, ↓w_par3, ↓w_setd, ↓w_dict1, ↓w_maxDf, ↓w_slT, ↓w_addT, ↓w_dictT, ↓w_dictI, ↓w_get, ↓w_lrg1T, ↓w_lrg2T, ↓w_lrg1, ↓w_lrg2, ↓w_pop0, ↓w_lcT, ↓w_mth, ↓w_calm, ↓w_tryM, ↓w_tm0, ↓w_tmN, ↓w_tmS, ↓w_seq, ↓w_next, ↓w_break, ↓w_cont, ↓w_retN, ↓w_asg, ↓w_expr, ↓w_ret, ↓w_if, ↓w_asgG, ↓w_for, ↓w_put, ↓w_aug, ↓w_augS, ↓w_raise0, ↓w_raise1, ↓w_raise2, ↓w_try, ↓w_tryAs, ↓w_var, ↓w_c, ↓w_op, ↓w_chain, ↓w_notV, ↓w_andV, ↓w_orV, ↓w_ifE, ↓w_tst, ↓w_not, ↓w_and, ↓w_or, ↓w_yes, ↓w_nil, ↓w_cons, ↓w_tup, ↓w_lst, ↓w_lstT, ↓w_cb, ↓w_call, ↓w_callK, ↓w_neg, ↓w_no, ↓w_pt, ↓w_sl, ↓w_fld, ↓w_src, ↓w_rng, ↓w_enu, ↓w_listT, ↓w_app, ↓w_lc, ↓w_xf, ↓w_fldT, ↓w_make, ↓w_makeL, ↓w_run, ↓w_cut, ↓w_pure, ↓w_drop, nth2_eq, nth3_eq, w_ok, w_ex, w_nx, w_rt, w_bk, w_ct, w_exS, w_some, w_v, w_tr, w_fa, w_tb, w_ti, w_tn, w_L, w_L0, wb_not, cn_f, startD, arr, gN_eq, gTp, gCn, gNl, Option.bind_some, List.filterMap_cons, List.filterMap_nil, List.map_cons, List.map_nil, List.replicate_succ, List.replicate_zero, List.cons_append, List.nil_append, List.getElem?_cons_zero, List.getElem?_cons_succ, List.set_cons_zero, List.set_cons_succ, List.length_cons, List.length_nil, Nat.reduceAdd, Nat.reduceSub, Nat.reduceLeDiff, Nat.reduceEqDiff, Int.reducePow, Int.reduceToNat, Int.reduceNeg, Int.reduceAdd, Int.reduceMul, Int.reduceSub, Int.reduceLT, Int.reduceLE, Int.reduceEq, Nat.zero_add, Int.zero_add, big_eq, true_and, and_true, and_self, dSub_int, dAdd_int, dAddI_int, dLt_int, dLe_int, dGt_int, dGe_int, dEqD_int, bInt_int, bLen_lst, bLen_tup, bMin_int, bMax_int, bAbs_int, dIs_non, dIs_int, dIs_nn, Bool.not_true, Bool.not_false, decide_true, decide_false, reduceIte, Bool.false_eq_true, if_false, if_true, iSeq_lst, iSeq_tup, iSeq_rdl, iEnu_lst, iEnu_tup]
theorem inn_ok (l g : Nat) (ss : List Nat) (p : Nat × Nat) : ∀ k, ((inn l g ss p k).1 = none → k ≤ 1) ∧ ((inn l g ss p k).1 ≠ none → (inn l g ss p k).2.1 < k ∧ (inn l g ss p k).2.2 = ss.getD (inn l g ss p k).2.1 0 ∧ ((inn l g ss p k).2.1 = 0 → (inn l g ss p k).2.2 = 0))
  | 0 => ⟨fun _ => by omega, fun h => absurd rfl h⟩
  | k + 1 => by
    have ih := inn_ok l g ss p k
    unfold inn
    generalize inn l g ss p k = z at ih ⊢
    obtain ⟨t, q⟩ := z
    dsimp only at ih ⊢
    by_cases h : k = 0 ∧ ss.getD 0 0 ≠ 0
    · rw [if_pos h]
      refine ⟨fun _ => by omega, fun h1 => ?_⟩
      obtain ⟨h2, h3, h4⟩ := ih.2 h1
      exact ⟨by omega, h3, h4⟩
    · rw [if_neg h]
      have hz : k = 0 → ss.getD k 0 = 0 := fun e => by
        subst e
        by_cases e2 : ss.getD 0 0 = 0
        · exact e2
        · exact absurd ⟨rfl, e2⟩ h
      cases t with
      | none => exact ⟨fun e => (nomatch e), fun _ => ⟨by show k < k + 1; omega, rfl, hz⟩⟩
      | some u =>
        dsimp only
        split
        · exact ⟨fun e => (nomatch e), fun _ => ⟨by show k < k + 1; omega, rfl, hz⟩⟩
        · obtain ⟨h2, h3, h4⟩ := ih.2 (by simp)
          exact ⟨fun e => (nomatch e), fun _ => ⟨by show q.1 < k + 1; have h2 : q.1 < k := h2; omega, h3, h4⟩⟩
theorem inn_skip {l g : Nat} {ss : List Nat} {p : Nat × Nat} {k : Nat} (h : k = 0 ∧ ss.getD 0 0 ≠ 0) : inn l g ss p (k + 1) = inn l g ss p k := by
  conv => lhs; unfold inn
  generalize inn l g ss p k = z
  obtain ⟨t, q⟩ := z
  dsimp only
  rw [if_pos h]
theorem inn_none {l g : Nat} {ss : List Nat} {p q : Nat × Nat} {k : Nat} (h : ¬ (k = 0 ∧ ss.getD 0 0 ≠ 0)) (e : inn l g ss p k = (none, q)) : inn l g ss p (k + 1) = (some (k * l + ss.getD k 0 * g), k, ss.getD k 0) := by
  conv => lhs; unfold inn
  generalize inn l g ss p k = z at e ⊢
  subst e
  dsimp only
  rw [if_neg h]
theorem inn_some {l g : Nat} {ss : List Nat} {p q : Nat × Nat} {k u : Nat} (h : ¬ (k = 0 ∧ ss.getD 0 0 ≠ 0)) (e : inn l g ss p k = (some u, q)) : inn l g ss p (k + 1) = if k * l + ss.getD k 0 * g < u then (some (k * l + ss.getD k 0 * g), k, ss.getD k 0) else (some u, q) := by
  conv => lhs; unfold inn
  generalize inn l g ss p k = z at e ⊢
  subst e
  dsimp only
  rw [if_neg h]
def oD : Option Nat → D
  | none => .non
  | some u => nI u
theorem w_dIx1 {s : S} {ss : List Nat} {k : Nat} (h : k < ss.length) : dIx (s ++ [.lst (ss.map nI)]) (.ref s.length) (.int k) = some (.int (ss.getD k 0 : Nat)) := by
  rw [ap_ix, atI_map (y := ss.getD k 0) (by rw [List.getD_eq_getElem?_getD, List.getElem?_eq_getElem h]; rfl)]
  rfl
theorem w_dIxL1 {s : S} {ss : List Nat} {k : Nat} (h : k < ss.length) : dIxL (s ++ [.lst (ss.map nI)]) (.ref s.length) (.int k) = some (.int (ss.getD k 0 : Nat)) := by
  rw [ap_ixL, atI_map (y := ss.getD k 0) (by rw [List.getD_eq_getElem?_getD, List.getElem?_eq_getElem h]; rfl)]
  rfl
theorem t2_0 (s : S) (a b : D) : dIx s (.tup [a, b]) (.int 0) = some a := rfl
theorem t2_1 (s : S) (a b : D) : dIx s (.tup [a, b]) (.int 1) = some b := rfl
theorem pair_ok {n l g : Nat} (n0 : 2 ≤ n) (n1 : n ≤ 20) (hl : l ≤ 1000) (hg : g ≤ 1000) (s : S) : G_pair_at c [.int n, .int l, .int g] s = .ok (.tup [nI (pairN n l g).1, nI (pairN n l g).2]) s := by
  apply eq_ok
  unfold G_pair_at
  simp (implicitDefEqProofs := false) only [↓w_srtT, ↓w_par2, ↓w_par3, ↓w_setd, ↓w_dict1, ↓w_maxDf, ↓w_slT, ↓w_addT, ↓w_dictT, ↓w_dictI, ↓w_get, ↓w_lrg1T, ↓w_lrg2T, ↓w_lrg1, ↓w_lrg2, ↓w_pop0, ↓w_lcT, ↓w_mth, ↓w_calm, ↓w_tryM, ↓w_tm0, ↓w_tmN, ↓w_tmS, ↓w_seq, ↓w_next, ↓w_break, ↓w_cont, ↓w_retN, ↓w_asg, ↓w_expr, ↓w_ret, ↓w_if, ↓w_asgG, ↓w_for, ↓w_put, ↓w_aug, ↓w_augS, ↓w_raise0, ↓w_raise1, ↓w_raise2, ↓w_try, ↓w_tryAs, ↓w_var, ↓w_c, ↓w_op, ↓w_chain, ↓w_notV, ↓w_andV, ↓w_orV, ↓w_ifE, ↓w_tst, ↓w_not, ↓w_and, ↓w_or, ↓w_yes, ↓w_nil, ↓w_cons, ↓w_tup, ↓w_lst, ↓w_lstT, ↓w_cb, ↓w_call, ↓w_callK, ↓w_neg, ↓w_no, ↓w_pt, ↓w_sl, ↓w_fld, ↓w_src, ↓w_rng, ↓w_enu, ↓w_listT, ↓w_app, ↓w_lc, ↓w_xf, ↓w_fldT, ↓w_make, ↓w_makeL, ↓w_run, ↓w_cut, ↓w_pure, ↓w_drop, nth2_eq, nth3_eq, w_ok, w_ex, w_nx, w_rt, w_bk, w_ct, w_exS, w_some, w_v, w_tr, w_fa, w_tb, w_ti, w_tn, w_L, w_L0, wb_not, cn_f, startD, arr, gN_eq, gTp, gCn, gNl, Option.bind_some, List.filterMap_cons, List.filterMap_nil, List.map_cons, List.map_nil, List.replicate_succ, List.replicate_zero, List.cons_append, List.nil_append, List.getElem?_cons_zero, List.getElem?_cons_succ, List.set_cons_zero, List.set_cons_succ, List.length_cons, List.length_nil, Nat.reduceAdd, Nat.reduceSub, Nat.reduceLeDiff, Nat.reduceEqDiff, Int.reducePow, Int.reduceToNat, Int.reduceNeg, Int.reduceAdd, Int.reduceMul, Int.reduceSub, Int.reduceLT, Int.reduceLE, Int.reduceEq, Nat.zero_add, Int.zero_add, big_eq, true_and, and_true, and_self, dSub_int, dAdd_int, dAddI_int, dLt_int, dLe_int, dGt_int, dGe_int, dEqD_int, bInt_int, bLen_lst, bLen_tup, bMin_int, bMax_int, bAbs_int, dIs_non, dIs_int, dIs_nn, Bool.not_true, Bool.not_false, decide_true, decide_false, reduceIte, Bool.false_eq_true, if_false, if_true, iSeq_lst, iSeq_tup, iSeq_rdl, iEnu_lst, iEnu_tup]
  rw [rng1 (by omega) (by omega), w_some, Int.toNat_natCast]
  refine lcT_all (List.range n) (fun k : Nat => D.int (0 + (k : Int))) (fun _ => nI 0) rfl (fun acc => rfl) (by simp; omega) (fun x hx acc => ?_) ?_
  · simp (implicitDefEqProofs := false) only [↓w_srtT, ↓w_par2, ↓w_par3, ↓w_setd, ↓w_dict1, ↓w_maxDf, ↓w_slT, ↓w_addT, ↓w_dictT, ↓w_dictI, ↓w_get, ↓w_lrg1T, ↓w_lrg2T, ↓w_lrg1, ↓w_lrg2, ↓w_pop0, ↓w_lcT, ↓w_mth, ↓w_calm, ↓w_tryM, ↓w_tm0, ↓w_tmN, ↓w_tmS, ↓w_seq, ↓w_next, ↓w_break, ↓w_cont, ↓w_retN, ↓w_asg, ↓w_expr, ↓w_ret, ↓w_if, ↓w_asgG, ↓w_for, ↓w_put, ↓w_aug, ↓w_augS, ↓w_raise0, ↓w_raise1, ↓w_raise2, ↓w_try, ↓w_tryAs, ↓w_var, ↓w_c, ↓w_op, ↓w_chain, ↓w_notV, ↓w_andV, ↓w_orV, ↓w_ifE, ↓w_tst, ↓w_not, ↓w_and, ↓w_or, ↓w_yes, ↓w_nil, ↓w_cons, ↓w_tup, ↓w_lst, ↓w_lstT, ↓w_cb, ↓w_call, ↓w_callK, ↓w_neg, ↓w_no, ↓w_pt, ↓w_sl, ↓w_fld, ↓w_src, ↓w_rng, ↓w_enu, ↓w_listT, ↓w_app, ↓w_lc, ↓w_xf, ↓w_fldT, ↓w_make, ↓w_makeL, ↓w_run, ↓w_cut, ↓w_pure, ↓w_drop, nth2_eq, nth3_eq, w_ok, w_ex, w_nx, w_rt, w_bk, w_ct, w_exS, w_some, w_v, w_tr, w_fa, w_tb, w_ti, w_tn, w_L, w_L0, wb_not, cn_f, startD, arr, gN_eq, gTp, gCn, gNl, Option.bind_some, List.filterMap_cons, List.filterMap_nil, List.map_cons, List.map_nil, List.replicate_succ, List.replicate_zero, List.cons_append, List.nil_append, List.getElem?_cons_zero, List.getElem?_cons_succ, List.set_cons_zero, List.set_cons_succ, List.length_cons, List.length_nil, Nat.reduceAdd, Nat.reduceSub, Nat.reduceLeDiff, Nat.reduceEqDiff, Int.reducePow, Int.reduceToNat, Int.reduceNeg, Int.reduceAdd, Int.reduceMul, Int.reduceSub, Int.reduceLT, Int.reduceLE, Int.reduceEq, Nat.zero_add, Int.zero_add, big_eq, true_and, and_true, and_self, dSub_int, dAdd_int, dAddI_int, dLt_int, dLe_int, dGt_int, dGe_int, dEqD_int, bInt_int, bLen_lst, bLen_tup, bMin_int, bMax_int, bAbs_int, dIs_non, dIs_int, dIs_nn, Bool.not_true, Bool.not_false, decide_true, decide_false, reduceIte, Bool.false_eq_true, if_false, if_true, iSeq_lst, iSeq_tup, iSeq_rdl, iEnu_lst, iEnu_tup]
    trivial
  have e0 : (List.range n).map (fun _ => nI 0) = (List.replicate n 0).map nI := by
    rw [List.map_const', List.length_range, List.map_replicate]
  rw [e0]
  simp (implicitDefEqProofs := false) only [↓w_srtT, ↓w_par2, ↓w_par3, ↓w_setd, ↓w_dict1, ↓w_maxDf, ↓w_slT, ↓w_addT, ↓w_dictT, ↓w_dictI, ↓w_get, ↓w_lrg1T, ↓w_lrg2T, ↓w_lrg1, ↓w_lrg2, ↓w_pop0, ↓w_lcT, ↓w_mth, ↓w_calm, ↓w_tryM, ↓w_tm0, ↓w_tmN, ↓w_tmS, ↓w_seq, ↓w_next, ↓w_break, ↓w_cont, ↓w_retN, ↓w_asg, ↓w_expr, ↓w_ret, ↓w_if, ↓w_asgG, ↓w_for, ↓w_put, ↓w_aug, ↓w_augS, ↓w_raise0, ↓w_raise1, ↓w_raise2, ↓w_try, ↓w_tryAs, ↓w_var, ↓w_c, ↓w_op, ↓w_chain, ↓w_notV, ↓w_andV, ↓w_orV, ↓w_ifE, ↓w_tst, ↓w_not, ↓w_and, ↓w_or, ↓w_yes, ↓w_nil, ↓w_cons, ↓w_tup, ↓w_lst, ↓w_lstT, ↓w_cb, ↓w_call, ↓w_callK, ↓w_neg, ↓w_no, ↓w_pt, ↓w_sl, ↓w_fld, ↓w_src, ↓w_rng, ↓w_enu, ↓w_listT, ↓w_app, ↓w_lc, ↓w_xf, ↓w_fldT, ↓w_make, ↓w_makeL, ↓w_run, ↓w_cut, ↓w_pure, ↓w_drop, nth2_eq, nth3_eq, w_ok, w_ex, w_nx, w_rt, w_bk, w_ct, w_exS, w_some, w_v, w_tr, w_fa, w_tb, w_ti, w_tn, w_L, w_L0, wb_not, cn_f, startD, arr, gN_eq, gTp, gCn, gNl, Option.bind_some, List.filterMap_cons, List.filterMap_nil, List.map_cons, List.map_nil, List.replicate_succ, List.replicate_zero, List.cons_append, List.nil_append, List.getElem?_cons_zero, List.getElem?_cons_succ, List.set_cons_zero, List.set_cons_succ, List.length_cons, List.length_nil, Nat.reduceAdd, Nat.reduceSub, Nat.reduceLeDiff, Nat.reduceEqDiff, Int.reducePow, Int.reduceToNat, Int.reduceNeg, Int.reduceAdd, Int.reduceMul, Int.reduceSub, Int.reduceLT, Int.reduceLE, Int.reduceEq, Nat.zero_add, Int.zero_add, big_eq, true_and, and_true, and_self, dSub_int, dAdd_int, dAddI_int, dLt_int, dLe_int, dGt_int, dGe_int, dEqD_int, bInt_int, bLen_lst, bLen_tup, bMin_int, bMax_int, bAbs_int, dIs_non, dIs_int, dIs_nn, Bool.not_true, Bool.not_false, decide_true, decide_false, reduceIte, Bool.false_eq_true, if_false, if_true, iSeq_lst, iSeq_tup, iSeq_rdl, iEnu_lst, iEnu_tup]
  refine ws_while (fun j L s' => ∃ (left : Int) (ss : List Nat) (p : Nat × Nat) (y6 y7 y8 : Option D), L = [some (.int n), some (.int l), some (.int g), some (.ref s.length), some (.int left), some (.tup [nI p.1, nI p.2]), y6, y7, y8] ∧ s' = s ++ [.lst (ss.map nI)] ∧ ss.length = n ∧ left ≤ j ∧ j ≤ n ∧ (∀ i, ss.getD i 0 + j ≤ n) ∧ prun n l g n (n, List.replicate n 0, 0, 0) = prun n l g j (left, ss, p)) 100000 n ⟨n, List.replicate n 0, (0, 0), none, none, none, rfl, rfl, List.length_replicate .., Int.le_refl _, Nat.le_refl _, fun i => ?_, rfl⟩ (by omega) ?_
  · rw [List.getD_eq_getElem?_getD, List.getElem?_replicate]
    split <;> simp
  rintro j L s' ⟨left, ss, p, y6, y7, y8, rfl, rfl, hlen, hlj, hjn, hss, hrun⟩
  simp (implicitDefEqProofs := false) only [↓w_srtT, ↓w_par2, ↓w_par3, ↓w_setd, ↓w_dict1, ↓w_maxDf, ↓w_slT, ↓w_addT, ↓w_dictT, ↓w_dictI, ↓w_get, ↓w_lrg1T, ↓w_lrg2T, ↓w_lrg1, ↓w_lrg2, ↓w_pop0, ↓w_lcT, ↓w_mth, ↓w_calm, ↓w_tryM, ↓w_tm0, ↓w_tmN, ↓w_tmS, ↓w_seq, ↓w_next, ↓w_break, ↓w_cont, ↓w_retN, ↓w_asg, ↓w_expr, ↓w_ret, ↓w_if, ↓w_asgG, ↓w_for, ↓w_put, ↓w_aug, ↓w_augS, ↓w_raise0, ↓w_raise1, ↓w_raise2, ↓w_try, ↓w_tryAs, ↓w_var, ↓w_c, ↓w_op, ↓w_chain, ↓w_notV, ↓w_andV, ↓w_orV, ↓w_ifE, ↓w_tst, ↓w_not, ↓w_and, ↓w_or, ↓w_yes, ↓w_nil, ↓w_cons, ↓w_tup, ↓w_lst, ↓w_lstT, ↓w_cb, ↓w_call, ↓w_callK, ↓w_neg, ↓w_no, ↓w_pt, ↓w_sl, ↓w_fld, ↓w_src, ↓w_rng, ↓w_enu, ↓w_listT, ↓w_app, ↓w_lc, ↓w_xf, ↓w_fldT, ↓w_make, ↓w_makeL, ↓w_run, ↓w_cut, ↓w_pure, ↓w_drop, nth2_eq, nth3_eq, w_ok, w_ex, w_nx, w_rt, w_bk, w_ct, w_exS, w_some, w_v, w_tr, w_fa, w_tb, w_ti, w_tn, w_L, w_L0, wb_not, cn_f, startD, arr, gN_eq, gTp, gCn, gNl, Option.bind_some, List.filterMap_cons, List.filterMap_nil, List.map_cons, List.map_nil, List.replicate_succ, List.replicate_zero, List.cons_append, List.nil_append, List.getElem?_cons_zero, List.getElem?_cons_succ, List.set_cons_zero, List.set_cons_succ, List.length_cons, List.length_nil, Nat.reduceAdd, Nat.reduceSub, Nat.reduceLeDiff, Nat.reduceEqDiff, Int.reducePow, Int.reduceToNat, Int.reduceNeg, Int.reduceAdd, Int.reduceMul, Int.reduceSub, Int.reduceLT, Int.reduceLE, Int.reduceEq, Nat.zero_add, Int.zero_add, big_eq, true_and, and_true, and_self, dSub_int, dAdd_int, dAddI_int, dLt_int, dLe_int, dGt_int, dGe_int, dEqD_int, bInt_int, bLen_lst, bLen_tup, bMin_int, bMax_int, bAbs_int, dIs_non, dIs_int, dIs_nn, Bool.not_true, Bool.not_false, decide_true, decide_false, reduceIte, Bool.false_eq_true, if_false, if_true, iSeq_lst, iSeq_tup, iSeq_rdl, iEnu_lst, iEnu_tup]
  refine wb_dec (fun h => ?_) (fun h => ?_)
  · simp (implicitDefEqProofs := false) only [↓w_srtT, ↓w_par2, ↓w_par3, ↓w_setd, ↓w_dict1, ↓w_maxDf, ↓w_slT, ↓w_addT, ↓w_dictT, ↓w_dictI, ↓w_get, ↓w_lrg1T, ↓w_lrg2T, ↓w_lrg1, ↓w_lrg2, ↓w_pop0, ↓w_lcT, ↓w_mth, ↓w_calm, ↓w_tryM, ↓w_tm0, ↓w_tmN, ↓w_tmS, ↓w_seq, ↓w_next, ↓w_break, ↓w_cont, ↓w_retN, ↓w_asg, ↓w_expr, ↓w_ret, ↓w_if, ↓w_asgG, ↓w_for, ↓w_put, ↓w_aug, ↓w_augS, ↓w_raise0, ↓w_raise1, ↓w_raise2, ↓w_try, ↓w_tryAs, ↓w_var, ↓w_c, ↓w_op, ↓w_chain, ↓w_notV, ↓w_andV, ↓w_orV, ↓w_ifE, ↓w_tst, ↓w_not, ↓w_and, ↓w_or, ↓w_yes, ↓w_nil, ↓w_cons, ↓w_tup, ↓w_lst, ↓w_lstT, ↓w_cb, ↓w_call, ↓w_callK, ↓w_neg, ↓w_no, ↓w_pt, ↓w_sl, ↓w_fld, ↓w_src, ↓w_rng, ↓w_enu, ↓w_listT, ↓w_app, ↓w_lc, ↓w_xf, ↓w_fldT, ↓w_make, ↓w_makeL, ↓w_run, ↓w_cut, ↓w_pure, ↓w_drop, nth2_eq, nth3_eq, w_ok, w_ex, w_nx, w_rt, w_bk, w_ct, w_exS, w_some, w_v, w_tr, w_fa, w_tb, w_ti, w_tn, w_L, w_L0, wb_not, cn_f, startD, arr, gN_eq, gTp, gCn, gNl, Option.bind_some, List.filterMap_cons, List.filterMap_nil, List.map_cons, List.map_nil, List.replicate_succ, List.replicate_zero, List.cons_append, List.nil_append, List.getElem?_cons_zero, List.getElem?_cons_succ, List.set_cons_zero, List.set_cons_succ, List.length_cons, List.length_nil, Nat.reduceAdd, Nat.reduceSub, Nat.reduceLeDiff, Nat.reduceEqDiff, Int.reducePow, Int.reduceToNat, Int.reduceNeg, Int.reduceAdd, Int.reduceMul, Int.reduceSub, Int.reduceLT, Int.reduceLE, Int.reduceEq, Nat.zero_add, Int.zero_add, big_eq, true_and, and_true, and_self, dSub_int, dAdd_int, dAddI_int, dLt_int, dLe_int, dGt_int, dGe_int, dEqD_int, bInt_int, bLen_lst, bLen_tup, bMin_int, bMax_int, bAbs_int, dIs_non, dIs_int, dIs_nn, Bool.not_true, Bool.not_false, decide_true, decide_false, reduceIte, Bool.false_eq_true, if_false, if_true, iSeq_lst, iSeq_tup, iSeq_rdl, iEnu_lst, iEnu_tup]
    rw [rng1 (by omega) (by omega), w_some, Int.toNat_natCast]
    refine ws_rng (fun k L s' => ∃ (t : Option Nat) (q : Nat × Nat) (y7 y8 : Option D), L = [some (.int n), some (.int l), some (.int g), some (.ref s.length), some (.int left), some (.tup [nI q.1, nI q.2]), some (oD t), y7, y8] ∧ s' = s ++ [.lst (ss.map nI)] ∧ inn l g ss p k = (t, q)) ⟨none, p, y7, y8, rfl, rfl, rfl⟩ ?_ ?_
    · rintro k L s' hk ⟨t, q, y7, y8, rfl, rfl, hi⟩
      have hki : (0 : Int) + (k : Int) = (k : Int) := by omega
      have ek := w_dIx1 (s := s) (ss := ss) (k := k) (by omega)
      have e0 : dIx (s ++ [.lst (ss.map nI)]) (.ref s.length) (.int 0) = some (.int (ss.getD 0 0 : Nat)) := w_dIx1 (s := s) (ss := ss) (k := 0) (by omega)
      have hs1 : ss.getD k 0 ≤ 20 := by have := hss k; omega
      have m1 : dMul (s ++ [.lst (ss.map nI)]) (.int k) (.int l) = some (.int (k * l : Nat)) := by
        rw [dMul_small (by omega) (by omega) (by omega) (by omega)]
        push_cast
        rfl
      have m2 : dMul (s ++ [.lst (ss.map nI)]) (.int (ss.getD k 0 : Nat)) (.int g) = some (.int (ss.getD k 0 * g : Nat)) := by
        rw [dMul_small (by omega) (by omega) (by omega) (by omega)]
        push_cast
        rfl
      have a1 : dAdd (s ++ [.lst (ss.map nI)]) (.int (k * l : Nat)) (.int (ss.getD k 0 * g : Nat)) = some (.int (k * l + ss.getD k 0 * g : Nat)) := by
        push_cast
        rfl
      have i1 := @inn_skip l g ss p k
      have i2 := @inn_none l g ss p q k
      have i3 := fun u => @inn_some l g ss p q k u
      generalize hx : ss.getD k 0 = x at *
      generalize hf : k * l + x * g = f at *
      simp (implicitDefEqProofs := false) only [hki, ↓w_srtT, ↓w_par2, ↓w_par3, ↓w_setd, ↓w_dict1, ↓w_maxDf, ↓w_slT, ↓w_addT, ↓w_dictT, ↓w_dictI, ↓w_get, ↓w_lrg1T, ↓w_lrg2T, ↓w_lrg1, ↓w_lrg2, ↓w_pop0, ↓w_lcT, ↓w_mth, ↓w_calm, ↓w_tryM, ↓w_tm0, ↓w_tmN, ↓w_tmS, ↓w_seq, ↓w_next, ↓w_break, ↓w_cont, ↓w_retN, ↓w_asg, ↓w_expr, ↓w_ret, ↓w_if, ↓w_asgG, ↓w_for, ↓w_put, ↓w_aug, ↓w_augS, ↓w_raise0, ↓w_raise1, ↓w_raise2, ↓w_try, ↓w_tryAs, ↓w_var, ↓w_c, ↓w_op, ↓w_chain, ↓w_notV, ↓w_andV, ↓w_orV, ↓w_ifE, ↓w_tst, ↓w_not, ↓w_and, ↓w_or, ↓w_yes, ↓w_nil, ↓w_cons, ↓w_tup, ↓w_lst, ↓w_lstT, ↓w_cb, ↓w_call, ↓w_callK, ↓w_neg, ↓w_no, ↓w_pt, ↓w_sl, ↓w_fld, ↓w_src, ↓w_rng, ↓w_enu, ↓w_listT, ↓w_app, ↓w_lc, ↓w_xf, ↓w_fldT, ↓w_make, ↓w_makeL, ↓w_run, ↓w_cut, ↓w_pure, ↓w_drop, nth2_eq, nth3_eq, w_ok, w_ex, w_nx, w_rt, w_bk, w_ct, w_exS, w_some, w_v, w_tr, w_fa, w_tb, w_ti, w_tn, w_L, w_L0, wb_not, cn_f, startD, arr, gN_eq, gTp, gCn, gNl, Option.bind_some, List.filterMap_cons, List.filterMap_nil, List.map_cons, List.map_nil, List.replicate_succ, List.replicate_zero, List.cons_append, List.nil_append, List.getElem?_cons_zero, List.getElem?_cons_succ, List.set_cons_zero, List.set_cons_succ, List.length_cons, List.length_nil, Nat.reduceAdd, Nat.reduceSub, Nat.reduceLeDiff, Nat.reduceEqDiff, Int.reducePow, Int.reduceToNat, Int.reduceNeg, Int.reduceAdd, Int.reduceMul, Int.reduceSub, Int.reduceLT, Int.reduceLE, Int.reduceEq, Nat.zero_add, Int.zero_add, big_eq, true_and, and_true, and_self, dSub_int, dAdd_int, dAddI_int, dLt_int, dLe_int, dGt_int, dGe_int, dEqD_int, bInt_int, bLen_lst, bLen_tup, bMin_int, bMax_int, bAbs_int, dIs_non, dIs_int, dIs_nn, Bool.not_true, Bool.not_false, decide_true, decide_false, reduceIte, Bool.false_eq_true, if_false, if_true, iSeq_lst, iSeq_tup, iSeq_rdl, iEnu_lst, iEnu_tup]
      refine wb_dec (fun h1 => ?_) (fun h1 => ?_)
      · cases t with
        | none =>
          rw [show oD none = D.non from rfl]
          simp (implicitDefEqProofs := false) only [ek, m1, m2, a1, ↓w_srtT, ↓w_par2, ↓w_par3, ↓w_setd, ↓w_dict1, ↓w_maxDf, ↓w_slT, ↓w_addT, ↓w_dictT, ↓w_dictI, ↓w_get, ↓w_lrg1T, ↓w_lrg2T, ↓w_lrg1, ↓w_lrg2, ↓w_pop0, ↓w_lcT, ↓w_mth, ↓w_calm, ↓w_tryM, ↓w_tm0, ↓w_tmN, ↓w_tmS, ↓w_seq, ↓w_next, ↓w_break, ↓w_cont, ↓w_retN, ↓w_asg, ↓w_expr, ↓w_ret, ↓w_if, ↓w_asgG, ↓w_for, ↓w_put, ↓w_aug, ↓w_augS, ↓w_raise0, ↓w_raise1, ↓w_raise2, ↓w_try, ↓w_tryAs, ↓w_var, ↓w_c, ↓w_op, ↓w_chain, ↓w_notV, ↓w_andV, ↓w_orV, ↓w_ifE, ↓w_tst, ↓w_not, ↓w_and, ↓w_or, ↓w_yes, ↓w_nil, ↓w_cons, ↓w_tup, ↓w_lst, ↓w_lstT, ↓w_cb, ↓w_call, ↓w_callK, ↓w_neg, ↓w_no, ↓w_pt, ↓w_sl, ↓w_fld, ↓w_src, ↓w_rng, ↓w_enu, ↓w_listT, ↓w_app, ↓w_lc, ↓w_xf, ↓w_fldT, ↓w_make, ↓w_makeL, ↓w_run, ↓w_cut, ↓w_pure, ↓w_drop, nth2_eq, nth3_eq, w_ok, w_ex, w_nx, w_rt, w_bk, w_ct, w_exS, w_some, w_v, w_tr, w_fa, w_tb, w_ti, w_tn, w_L, w_L0, wb_not, cn_f, startD, arr, gN_eq, gTp, gCn, gNl, Option.bind_some, List.filterMap_cons, List.filterMap_nil, List.map_cons, List.map_nil, List.replicate_succ, List.replicate_zero, List.cons_append, List.nil_append, List.getElem?_cons_zero, List.getElem?_cons_succ, List.set_cons_zero, List.set_cons_succ, List.length_cons, List.length_nil, Nat.reduceAdd, Nat.reduceSub, Nat.reduceLeDiff, Nat.reduceEqDiff, Int.reducePow, Int.reduceToNat, Int.reduceNeg, Int.reduceAdd, Int.reduceMul, Int.reduceSub, Int.reduceLT, Int.reduceLE, Int.reduceEq, Nat.zero_add, Int.zero_add, big_eq, true_and, and_true, and_self, dSub_int, dAdd_int, dAddI_int, dLt_int, dLe_int, dGt_int, dGe_int, dEqD_int, bInt_int, bLen_lst, bLen_tup, bMin_int, bMax_int, bAbs_int, dIs_non, dIs_int, dIs_nn, Bool.not_true, Bool.not_false, decide_true, decide_false, reduceIte, Bool.false_eq_true, if_false, if_true, iSeq_lst, iSeq_tup, iSeq_rdl, iEnu_lst, iEnu_tup]
          exact ⟨some f, (k, x), _, _, rfl, i2 (fun z => by omega) hi⟩
        | some u =>
          have i4 := i3 u (fun z => by omega) hi
          rw [show oD (some u) = D.int u from rfl]
          simp (implicitDefEqProofs := false) only [ek, m1, m2, a1, ↓w_srtT, ↓w_par2, ↓w_par3, ↓w_setd, ↓w_dict1, ↓w_maxDf, ↓w_slT, ↓w_addT, ↓w_dictT, ↓w_dictI, ↓w_get, ↓w_lrg1T, ↓w_lrg2T, ↓w_lrg1, ↓w_lrg2, ↓w_pop0, ↓w_lcT, ↓w_mth, ↓w_calm, ↓w_tryM, ↓w_tm0, ↓w_tmN, ↓w_tmS, ↓w_seq, ↓w_next, ↓w_break, ↓w_cont, ↓w_retN, ↓w_asg, ↓w_expr, ↓w_ret, ↓w_if, ↓w_asgG, ↓w_for, ↓w_put, ↓w_aug, ↓w_augS, ↓w_raise0, ↓w_raise1, ↓w_raise2, ↓w_try, ↓w_tryAs, ↓w_var, ↓w_c, ↓w_op, ↓w_chain, ↓w_notV, ↓w_andV, ↓w_orV, ↓w_ifE, ↓w_tst, ↓w_not, ↓w_and, ↓w_or, ↓w_yes, ↓w_nil, ↓w_cons, ↓w_tup, ↓w_lst, ↓w_lstT, ↓w_cb, ↓w_call, ↓w_callK, ↓w_neg, ↓w_no, ↓w_pt, ↓w_sl, ↓w_fld, ↓w_src, ↓w_rng, ↓w_enu, ↓w_listT, ↓w_app, ↓w_lc, ↓w_xf, ↓w_fldT, ↓w_make, ↓w_makeL, ↓w_run, ↓w_cut, ↓w_pure, ↓w_drop, nth2_eq, nth3_eq, w_ok, w_ex, w_nx, w_rt, w_bk, w_ct, w_exS, w_some, w_v, w_tr, w_fa, w_tb, w_ti, w_tn, w_L, w_L0, wb_not, cn_f, startD, arr, gN_eq, gTp, gCn, gNl, Option.bind_some, List.filterMap_cons, List.filterMap_nil, List.map_cons, List.map_nil, List.replicate_succ, List.replicate_zero, List.cons_append, List.nil_append, List.getElem?_cons_zero, List.getElem?_cons_succ, List.set_cons_zero, List.set_cons_succ, List.length_cons, List.length_nil, Nat.reduceAdd, Nat.reduceSub, Nat.reduceLeDiff, Nat.reduceEqDiff, Int.reducePow, Int.reduceToNat, Int.reduceNeg, Int.reduceAdd, Int.reduceMul, Int.reduceSub, Int.reduceLT, Int.reduceLE, Int.reduceEq, Nat.zero_add, Int.zero_add, big_eq, true_and, and_true, and_self, dSub_int, dAdd_int, dAddI_int, dLt_int, dLe_int, dGt_int, dGe_int, dEqD_int, bInt_int, bLen_lst, bLen_tup, bMin_int, bMax_int, bAbs_int, dIs_non, dIs_int, dIs_nn, Bool.not_true, Bool.not_false, decide_true, decide_false, reduceIte, Bool.false_eq_true, if_false, if_true, iSeq_lst, iSeq_tup, iSeq_rdl, iEnu_lst, iEnu_tup]
          refine wb_dec (fun h2 => ?_) (fun h2 => ?_)
          · rw [if_pos (by omega)] at i4
            simp (implicitDefEqProofs := false) only [ek, ↓w_srtT, ↓w_par2, ↓w_par3, ↓w_setd, ↓w_dict1, ↓w_maxDf, ↓w_slT, ↓w_addT, ↓w_dictT, ↓w_dictI, ↓w_get, ↓w_lrg1T, ↓w_lrg2T, ↓w_lrg1, ↓w_lrg2, ↓w_pop0, ↓w_lcT, ↓w_mth, ↓w_calm, ↓w_tryM, ↓w_tm0, ↓w_tmN, ↓w_tmS, ↓w_seq, ↓w_next, ↓w_break, ↓w_cont, ↓w_retN, ↓w_asg, ↓w_expr, ↓w_ret, ↓w_if, ↓w_asgG, ↓w_for, ↓w_put, ↓w_aug, ↓w_augS, ↓w_raise0, ↓w_raise1, ↓w_raise2, ↓w_try, ↓w_tryAs, ↓w_var, ↓w_c, ↓w_op, ↓w_chain, ↓w_notV, ↓w_andV, ↓w_orV, ↓w_ifE, ↓w_tst, ↓w_not, ↓w_and, ↓w_or, ↓w_yes, ↓w_nil, ↓w_cons, ↓w_tup, ↓w_lst, ↓w_lstT, ↓w_cb, ↓w_call, ↓w_callK, ↓w_neg, ↓w_no, ↓w_pt, ↓w_sl, ↓w_fld, ↓w_src, ↓w_rng, ↓w_enu, ↓w_listT, ↓w_app, ↓w_lc, ↓w_xf, ↓w_fldT, ↓w_make, ↓w_makeL, ↓w_run, ↓w_cut, ↓w_pure, ↓w_drop, nth2_eq, nth3_eq, w_ok, w_ex, w_nx, w_rt, w_bk, w_ct, w_exS, w_some, w_v, w_tr, w_fa, w_tb, w_ti, w_tn, w_L, w_L0, wb_not, cn_f, startD, arr, gN_eq, gTp, gCn, gNl, Option.bind_some, List.filterMap_cons, List.filterMap_nil, List.map_cons, List.map_nil, List.replicate_succ, List.replicate_zero, List.cons_append, List.nil_append, List.getElem?_cons_zero, List.getElem?_cons_succ, List.set_cons_zero, List.set_cons_succ, List.length_cons, List.length_nil, Nat.reduceAdd, Nat.reduceSub, Nat.reduceLeDiff, Nat.reduceEqDiff, Int.reducePow, Int.reduceToNat, Int.reduceNeg, Int.reduceAdd, Int.reduceMul, Int.reduceSub, Int.reduceLT, Int.reduceLE, Int.reduceEq, Nat.zero_add, Int.zero_add, big_eq, true_and, and_true, and_self, dSub_int, dAdd_int, dAddI_int, dLt_int, dLe_int, dGt_int, dGe_int, dEqD_int, bInt_int, bLen_lst, bLen_tup, bMin_int, bMax_int, bAbs_int, dIs_non, dIs_int, dIs_nn, Bool.not_true, Bool.not_false, decide_true, decide_false, reduceIte, Bool.false_eq_true, if_false, if_true, iSeq_lst, iSeq_tup, iSeq_rdl, iEnu_lst, iEnu_tup]
            exact ⟨some f, (k, x), _, _, rfl, i4⟩
          · rw [if_neg (by omega)] at i4
            simp (implicitDefEqProofs := false) only [↓w_srtT, ↓w_par2, ↓w_par3, ↓w_setd, ↓w_dict1, ↓w_maxDf, ↓w_slT, ↓w_addT, ↓w_dictT, ↓w_dictI, ↓w_get, ↓w_lrg1T, ↓w_lrg2T, ↓w_lrg1, ↓w_lrg2, ↓w_pop0, ↓w_lcT, ↓w_mth, ↓w_calm, ↓w_tryM, ↓w_tm0, ↓w_tmN, ↓w_tmS, ↓w_seq, ↓w_next, ↓w_break, ↓w_cont, ↓w_retN, ↓w_asg, ↓w_expr, ↓w_ret, ↓w_if, ↓w_asgG, ↓w_for, ↓w_put, ↓w_aug, ↓w_augS, ↓w_raise0, ↓w_raise1, ↓w_raise2, ↓w_try, ↓w_tryAs, ↓w_var, ↓w_c, ↓w_op, ↓w_chain, ↓w_notV, ↓w_andV, ↓w_orV, ↓w_ifE, ↓w_tst, ↓w_not, ↓w_and, ↓w_or, ↓w_yes, ↓w_nil, ↓w_cons, ↓w_tup, ↓w_lst, ↓w_lstT, ↓w_cb, ↓w_call, ↓w_callK, ↓w_neg, ↓w_no, ↓w_pt, ↓w_sl, ↓w_fld, ↓w_src, ↓w_rng, ↓w_enu, ↓w_listT, ↓w_app, ↓w_lc, ↓w_xf, ↓w_fldT, ↓w_make, ↓w_makeL, ↓w_run, ↓w_cut, ↓w_pure, ↓w_drop, nth2_eq, nth3_eq, w_ok, w_ex, w_nx, w_rt, w_bk, w_ct, w_exS, w_some, w_v, w_tr, w_fa, w_tb, w_ti, w_tn, w_L, w_L0, wb_not, cn_f, startD, arr, gN_eq, gTp, gCn, gNl, Option.bind_some, List.filterMap_cons, List.filterMap_nil, List.map_cons, List.map_nil, List.replicate_succ, List.replicate_zero, List.cons_append, List.nil_append, List.getElem?_cons_zero, List.getElem?_cons_succ, List.set_cons_zero, List.set_cons_succ, List.length_cons, List.length_nil, Nat.reduceAdd, Nat.reduceSub, Nat.reduceLeDiff, Nat.reduceEqDiff, Int.reducePow, Int.reduceToNat, Int.reduceNeg, Int.reduceAdd, Int.reduceMul, Int.reduceSub, Int.reduceLT, Int.reduceLE, Int.reduceEq, Nat.zero_add, Int.zero_add, big_eq, true_and, and_true, and_self, dSub_int, dAdd_int, dAddI_int, dLt_int, dLe_int, dGt_int, dGe_int, dEqD_int, bInt_int, bLen_lst, bLen_tup, bMin_int, bMax_int, bAbs_int, dIs_non, dIs_int, dIs_nn, Bool.not_true, Bool.not_false, decide_true, decide_false, reduceIte, Bool.false_eq_true, if_false, if_true, iSeq_lst, iSeq_tup, iSeq_rdl, iEnu_lst, iEnu_tup]
            exact ⟨some u, q, _, _, rfl, i4⟩
      · have k0 : k = 0 := by omega
        subst k0
        cases hi
        rw [show oD none = D.non from rfl]
        simp (implicitDefEqProofs := false) only [e0, ↓w_srtT, ↓w_par2, ↓w_par3, ↓w_setd, ↓w_dict1, ↓w_maxDf, ↓w_slT, ↓w_addT, ↓w_dictT, ↓w_dictI, ↓w_get, ↓w_lrg1T, ↓w_lrg2T, ↓w_lrg1, ↓w_lrg2, ↓w_pop0, ↓w_lcT, ↓w_mth, ↓w_calm, ↓w_tryM, ↓w_tm0, ↓w_tmN, ↓w_tmS, ↓w_seq, ↓w_next, ↓w_break, ↓w_cont, ↓w_retN, ↓w_asg, ↓w_expr, ↓w_ret, ↓w_if, ↓w_asgG, ↓w_for, ↓w_put, ↓w_aug, ↓w_augS, ↓w_raise0, ↓w_raise1, ↓w_raise2, ↓w_try, ↓w_tryAs, ↓w_var, ↓w_c, ↓w_op, ↓w_chain, ↓w_notV, ↓w_andV, ↓w_orV, ↓w_ifE, ↓w_tst, ↓w_not, ↓w_and, ↓w_or, ↓w_yes, ↓w_nil, ↓w_cons, ↓w_tup, ↓w_lst, ↓w_lstT, ↓w_cb, ↓w_call, ↓w_callK, ↓w_neg, ↓w_no, ↓w_pt, ↓w_sl, ↓w_fld, ↓w_src, ↓w_rng, ↓w_enu, ↓w_listT, ↓w_app, ↓w_lc, ↓w_xf, ↓w_fldT, ↓w_make, ↓w_makeL, ↓w_run, ↓w_cut, ↓w_pure, ↓w_drop, nth2_eq, nth3_eq, w_ok, w_ex, w_nx, w_rt, w_bk, w_ct, w_exS, w_some, w_v, w_tr, w_fa, w_tb, w_ti, w_tn, w_L, w_L0, wb_not, cn_f, startD, arr, gN_eq, gTp, gCn, gNl, Option.bind_some, List.filterMap_cons, List.filterMap_nil, List.map_cons, List.map_nil, List.replicate_succ, List.replicate_zero, List.cons_append, List.nil_append, List.getElem?_cons_zero, List.getElem?_cons_succ, List.set_cons_zero, List.set_cons_succ, List.length_cons, List.length_nil, Nat.reduceAdd, Nat.reduceSub, Nat.reduceLeDiff, Nat.reduceEqDiff, Int.reducePow, Int.reduceToNat, Int.reduceNeg, Int.reduceAdd, Int.reduceMul, Int.reduceSub, Int.reduceLT, Int.reduceLE, Int.reduceEq, Nat.zero_add, Int.zero_add, big_eq, true_and, and_true, and_self, dSub_int, dAdd_int, dAddI_int, dLt_int, dLe_int, dGt_int, dGe_int, dEqD_int, bInt_int, bLen_lst, bLen_tup, bMin_int, bMax_int, bAbs_int, dIs_non, dIs_int, dIs_nn, Bool.not_true, Bool.not_false, decide_true, decide_false, reduceIte, Bool.false_eq_true, if_false, if_true, iSeq_lst, iSeq_tup, iSeq_rdl, iEnu_lst, iEnu_tup]
        refine wb_dec (fun h2 => ?_) (fun h2 => ?_)
        · have h3 : ss.getD 0 0 = 0 := by omega
          simp (implicitDefEqProofs := false) only [ek, m1, m2, a1, ↓w_srtT, ↓w_par2, ↓w_par3, ↓w_setd, ↓w_dict1, ↓w_maxDf, ↓w_slT, ↓w_addT, ↓w_dictT, ↓w_dictI, ↓w_get, ↓w_lrg1T, ↓w_lrg2T, ↓w_lrg1, ↓w_lrg2, ↓w_pop0, ↓w_lcT, ↓w_mth, ↓w_calm, ↓w_tryM, ↓w_tm0, ↓w_tmN, ↓w_tmS, ↓w_seq, ↓w_next, ↓w_break, ↓w_cont, ↓w_retN, ↓w_asg, ↓w_expr, ↓w_ret, ↓w_if, ↓w_asgG, ↓w_for, ↓w_put, ↓w_aug, ↓w_augS, ↓w_raise0, ↓w_raise1, ↓w_raise2, ↓w_try, ↓w_tryAs, ↓w_var, ↓w_c, ↓w_op, ↓w_chain, ↓w_notV, ↓w_andV, ↓w_orV, ↓w_ifE, ↓w_tst, ↓w_not, ↓w_and, ↓w_or, ↓w_yes, ↓w_nil, ↓w_cons, ↓w_tup, ↓w_lst, ↓w_lstT, ↓w_cb, ↓w_call, ↓w_callK, ↓w_neg, ↓w_no, ↓w_pt, ↓w_sl, ↓w_fld, ↓w_src, ↓w_rng, ↓w_enu, ↓w_listT, ↓w_app, ↓w_lc, ↓w_xf, ↓w_fldT, ↓w_make, ↓w_makeL, ↓w_run, ↓w_cut, ↓w_pure, ↓w_drop, nth2_eq, nth3_eq, w_ok, w_ex, w_nx, w_rt, w_bk, w_ct, w_exS, w_some, w_v, w_tr, w_fa, w_tb, w_ti, w_tn, w_L, w_L0, wb_not, cn_f, startD, arr, gN_eq, gTp, gCn, gNl, Option.bind_some, List.filterMap_cons, List.filterMap_nil, List.map_cons, List.map_nil, List.replicate_succ, List.replicate_zero, List.cons_append, List.nil_append, List.getElem?_cons_zero, List.getElem?_cons_succ, List.set_cons_zero, List.set_cons_succ, List.length_cons, List.length_nil, Nat.reduceAdd, Nat.reduceSub, Nat.reduceLeDiff, Nat.reduceEqDiff, Int.reducePow, Int.reduceToNat, Int.reduceNeg, Int.reduceAdd, Int.reduceMul, Int.reduceSub, Int.reduceLT, Int.reduceLE, Int.reduceEq, Nat.zero_add, Int.zero_add, big_eq, true_and, and_true, and_self, dSub_int, dAdd_int, dAddI_int, dLt_int, dLe_int, dGt_int, dGe_int, dEqD_int, bInt_int, bLen_lst, bLen_tup, bMin_int, bMax_int, bAbs_int, dIs_non, dIs_int, dIs_nn, Bool.not_true, Bool.not_false, decide_true, decide_false, reduceIte, Bool.false_eq_true, if_false, if_true, iSeq_lst, iSeq_tup, iSeq_rdl, iEnu_lst, iEnu_tup]
          exact ⟨some f, (0, x), _, _, rfl, i2 (fun z => z.2 h3) rfl⟩
        · simp (implicitDefEqProofs := false) only [↓w_srtT, ↓w_par2, ↓w_par3, ↓w_setd, ↓w_dict1, ↓w_maxDf, ↓w_slT, ↓w_addT, ↓w_dictT, ↓w_dictI, ↓w_get, ↓w_lrg1T, ↓w_lrg2T, ↓w_lrg1, ↓w_lrg2, ↓w_pop0, ↓w_lcT, ↓w_mth, ↓w_calm, ↓w_tryM, ↓w_tm0, ↓w_tmN, ↓w_tmS, ↓w_seq, ↓w_next, ↓w_break, ↓w_cont, ↓w_retN, ↓w_asg, ↓w_expr, ↓w_ret, ↓w_if, ↓w_asgG, ↓w_for, ↓w_put, ↓w_aug, ↓w_augS, ↓w_raise0, ↓w_raise1, ↓w_raise2, ↓w_try, ↓w_tryAs, ↓w_var, ↓w_c, ↓w_op, ↓w_chain, ↓w_notV, ↓w_andV, ↓w_orV, ↓w_ifE, ↓w_tst, ↓w_not, ↓w_and, ↓w_or, ↓w_yes, ↓w_nil, ↓w_cons, ↓w_tup, ↓w_lst, ↓w_lstT, ↓w_cb, ↓w_call, ↓w_callK, ↓w_neg, ↓w_no, ↓w_pt, ↓w_sl, ↓w_fld, ↓w_src, ↓w_rng, ↓w_enu, ↓w_listT, ↓w_app, ↓w_lc, ↓w_xf, ↓w_fldT, ↓w_make, ↓w_makeL, ↓w_run, ↓w_cut, ↓w_pure, ↓w_drop, nth2_eq, nth3_eq, w_ok, w_ex, w_nx, w_rt, w_bk, w_ct, w_exS, w_some, w_v, w_tr, w_fa, w_tb, w_ti, w_tn, w_L, w_L0, wb_not, cn_f, startD, arr, gN_eq, gTp, gCn, gNl, Option.bind_some, List.filterMap_cons, List.filterMap_nil, List.map_cons, List.map_nil, List.replicate_succ, List.replicate_zero, List.cons_append, List.nil_append, List.getElem?_cons_zero, List.getElem?_cons_succ, List.set_cons_zero, List.set_cons_succ, List.length_cons, List.length_nil, Nat.reduceAdd, Nat.reduceSub, Nat.reduceLeDiff, Nat.reduceEqDiff, Int.reducePow, Int.reduceToNat, Int.reduceNeg, Int.reduceAdd, Int.reduceMul, Int.reduceSub, Int.reduceLT, Int.reduceLE, Int.reduceEq, Nat.zero_add, Int.zero_add, big_eq, true_and, and_true, and_self, dSub_int, dAdd_int, dAddI_int, dLt_int, dLe_int, dGt_int, dGe_int, dEqD_int, bInt_int, bLen_lst, bLen_tup, bMin_int, bMax_int, bAbs_int, dIs_non, dIs_int, dIs_nn, Bool.not_true, Bool.not_false, decide_true, decide_false, reduceIte, Bool.false_eq_true, if_false, if_true, iSeq_lst, iSeq_tup, iSeq_rdl, iEnu_lst, iEnu_tup]
          exact ⟨none, p, _, _, rfl, i1 ⟨rfl, by omega⟩⟩
    · rintro L s' ⟨t, q, y7, y8, rfl, rfl, hi⟩
      obtain ⟨a, b⟩ := q
      have ok := inn_ok l g ss p n
      rw [hi] at ok
      have ht : t ≠ none := fun e => by
        have := ok.1 e
        omega
      obtain ⟨ha, hb, hab⟩ := ok.2 ht
      dsimp only at ha hb hab
      have hsa := hss a
      have hj0 : 1 ≤ j := by omega
      have nm := names_of_pair_ok (c := c) (a := a) (b := b) (by omega) (by omega) (s ++ [.lst (ss.map nI)])
      have il := w_dIxL1 (s := s) (ss := ss) (k := a) (by omega)
      rw [← hb] at il
      have pt := ap_put (r := s) (xs := ss.map nI) (k := a) (by rw [List.length_map]; omega) (nI (b + 1))
      have ws : 1 ≤ wy a b := by
        unfold wy
        split
        · rename_i e
          rw [hab e]
          decide
        · exact wyR_pos (by omega) b
      have hstp : pstp n l g (left, ss, p) = (left - (wy a b : Nat), ss.set a (b + 1), a, b) := by
        unfold pstp
        dsimp only
        rw [hi]
      have hrun' : prun n l g j (left, ss, p) = prun n l g (j - 1) (left - (wy a b : Nat), ss.set a (b + 1), a, b) := by
        obtain ⟨i, rfl⟩ : ∃ i, j = i + 1 := ⟨j - 1, by omega⟩
        rw [prun, if_pos h, hstp]
        rfl
      have hset : (ss.set a (b + 1)).map nI = (ss.map nI).set a (nI (b + 1)) := List.map_set ..
      have e1 : (b : Int) + 1 = ((b + 1 : Nat) : Int) := by omega
      have pt : dPut (s ++ [.lst (ss.map nI)]) (.ref s.length) (.int a) (.int (b + 1 : Nat)) = some (s ++ [.lst ((ss.set a (b + 1)).map nI)]) := by rw [hset]; exact pt
      rw [show nI a = D.int a from rfl, show nI b = D.int b from rfl]
      simp (implicitDefEqProofs := false) only [t2_0, t2_1, nm, il, e1, pt, ↓w_srtT, ↓w_par2, ↓w_par3, ↓w_setd, ↓w_dict1, ↓w_maxDf, ↓w_slT, ↓w_addT, ↓w_dictT, ↓w_dictI, ↓w_get, ↓w_lrg1T, ↓w_lrg2T, ↓w_lrg1, ↓w_lrg2, ↓w_pop0, ↓w_lcT, ↓w_mth, ↓w_calm, ↓w_tryM, ↓w_tm0, ↓w_tmN, ↓w_tmS, ↓w_seq, ↓w_next, ↓w_break, ↓w_cont, ↓w_retN, ↓w_asg, ↓w_expr, ↓w_ret, ↓w_if, ↓w_asgG, ↓w_for, ↓w_put, ↓w_aug, ↓w_augS, ↓w_raise0, ↓w_raise1, ↓w_raise2, ↓w_try, ↓w_tryAs, ↓w_var, ↓w_c, ↓w_op, ↓w_chain, ↓w_notV, ↓w_andV, ↓w_orV, ↓w_ifE, ↓w_tst, ↓w_not, ↓w_and, ↓w_or, ↓w_yes, ↓w_nil, ↓w_cons, ↓w_tup, ↓w_lst, ↓w_lstT, ↓w_cb, ↓w_call, ↓w_callK, ↓w_neg, ↓w_no, ↓w_pt, ↓w_sl, ↓w_fld, ↓w_src, ↓w_rng, ↓w_enu, ↓w_listT, ↓w_app, ↓w_lc, ↓w_xf, ↓w_fldT, ↓w_make, ↓w_makeL, ↓w_run, ↓w_cut, ↓w_pure, ↓w_drop, nth2_eq, nth3_eq, w_ok, w_ex, w_nx, w_rt, w_bk, w_ct, w_exS, w_some, w_v, w_tr, w_fa, w_tb, w_ti, w_tn, w_L, w_L0, wb_not, cn_f, startD, arr, gN_eq, gTp, gCn, gNl, Option.bind_some, List.filterMap_cons, List.filterMap_nil, List.map_cons, List.map_nil, List.replicate_succ, List.replicate_zero, List.cons_append, List.nil_append, List.getElem?_cons_zero, List.getElem?_cons_succ, List.set_cons_zero, List.set_cons_succ, List.length_cons, List.length_nil, Nat.reduceAdd, Nat.reduceSub, Nat.reduceLeDiff, Nat.reduceEqDiff, Int.reducePow, Int.reduceToNat, Int.reduceNeg, Int.reduceAdd, Int.reduceMul, Int.reduceSub, Int.reduceLT, Int.reduceLE, Int.reduceEq, Nat.zero_add, Int.zero_add, big_eq, true_and, and_true, and_self, dSub_int, dAdd_int, dAddI_int, dLt_int, dLe_int, dGt_int, dGe_int, dEqD_int, bInt_int, bLen_lst, bLen_tup, bMin_int, bMax_int, bAbs_int, dIs_non, dIs_int, dIs_nn, Bool.not_true, Bool.not_false, decide_true, decide_false, reduceIte, Bool.false_eq_true, if_false, if_true, iSeq_lst, iSeq_tup, iSeq_rdl, iEnu_lst, iEnu_tup]
      refine ⟨j - 1, by omega, left - (wy a b : Nat), ss.set a (b + 1), (a, b), _, _, _, rfl, rfl, by rw [List.length_set, hlen], by omega, by omega, fun i => ?_, by rw [hrun, hrun']⟩
      have hi' := hss i
      by_cases hia : a = i
      · subst hia
        rw [List.getD_eq_getElem?_getD, List.getElem?_set_self (by omega)]
        show b + 1 + (j - 1) ≤ n
        omega
      · rw [List.getD_eq_getElem?_getD, List.getElem?_set_ne hia, ← List.getD_eq_getElem?_getD]
        omega
  · simp (implicitDefEqProofs := false) only [↓w_srtT, ↓w_par2, ↓w_par3, ↓w_setd, ↓w_dict1, ↓w_maxDf, ↓w_slT, ↓w_addT, ↓w_dictT, ↓w_dictI, ↓w_get, ↓w_lrg1T, ↓w_lrg2T, ↓w_lrg1, ↓w_lrg2, ↓w_pop0, ↓w_lcT, ↓w_mth, ↓w_calm, ↓w_tryM, ↓w_tm0, ↓w_tmN, ↓w_tmS, ↓w_seq, ↓w_next, ↓w_break, ↓w_cont, ↓w_retN, ↓w_asg, ↓w_expr, ↓w_ret, ↓w_if, ↓w_asgG, ↓w_for, ↓w_put, ↓w_aug, ↓w_augS, ↓w_raise0, ↓w_raise1, ↓w_raise2, ↓w_try, ↓w_tryAs, ↓w_var, ↓w_c, ↓w_op, ↓w_chain, ↓w_notV, ↓w_andV, ↓w_orV, ↓w_ifE, ↓w_tst, ↓w_not, ↓w_and, ↓w_or, ↓w_yes, ↓w_nil, ↓w_cons, ↓w_tup, ↓w_lst, ↓w_lstT, ↓w_cb, ↓w_call, ↓w_callK, ↓w_neg, ↓w_no, ↓w_pt, ↓w_sl, ↓w_fld, ↓w_src, ↓w_rng, ↓w_enu, ↓w_listT, ↓w_app, ↓w_lc, ↓w_xf, ↓w_fldT, ↓w_make, ↓w_makeL, ↓w_run, ↓w_cut, ↓w_pure, ↓w_drop, nth2_eq, nth3_eq, w_ok, w_ex, w_nx, w_rt, w_bk, w_ct, w_exS, w_some, w_v, w_tr, w_fa, w_tb, w_ti, w_tn, w_L, w_L0, wb_not, cn_f, startD, arr, gN_eq, gTp, gCn, gNl, Option.bind_some, List.filterMap_cons, List.filterMap_nil, List.map_cons, List.map_nil, List.replicate_succ, List.replicate_zero, List.cons_append, List.nil_append, List.getElem?_cons_zero, List.getElem?_cons_succ, List.set_cons_zero, List.set_cons_succ, List.length_cons, List.length_nil, Nat.reduceAdd, Nat.reduceSub, Nat.reduceLeDiff, Nat.reduceEqDiff, Int.reducePow, Int.reduceToNat, Int.reduceNeg, Int.reduceAdd, Int.reduceMul, Int.reduceSub, Int.reduceLT, Int.reduceLE, Int.reduceEq, Nat.zero_add, Int.zero_add, big_eq, true_and, and_true, and_self, dSub_int, dAdd_int, dAddI_int, dLt_int, dLe_int, dGt_int, dGe_int, dEqD_int, bInt_int, bLen_lst, bLen_tup, bMin_int, bMax_int, bAbs_int, dIs_non, dIs_int, dIs_nn, Bool.not_true, Bool.not_false, decide_true, decide_false, reduceIte, Bool.false_eq_true, if_false, if_true, iSeq_lst, iSeq_tup, iSeq_rdl, iEnu_lst, iEnu_tup]
    unfold pairN
    rw [hrun]
    have : prun n l g j (left, ss, p) = p := by
      cases j with
      | zero => rfl
      | succ j => rw [prun, if_neg h]
    rw [this]
    refine ⟨by simp, ?_⟩
    rw [fin2_pur (pur_tup fun x hx => by
      simp only [List.mem_cons, List.not_mem_nil, or_false] at hx
      rcases hx with rfl | rfl <;> exact pur_int _)]
    exact ⟨rfl, rfl⟩
end Pg

/-! the ratios at which two pairs may meet -/
namespace Pg
open PySem L2 SI Mt
variable {c : Cl}
def rtD (r : Rt) : D := .tup [nI r.1, nI r.2]
theorem rtD_pur (r : Rt) : Pur (rtD r) := pur_tup fun x hx => by
  simp only [List.mem_cons, List.not_mem_nil, or_false] at hx
  rcases hx with rfl | rfl <;> exact pur_int _
theorem isr_perm (r : Rt) : ∀ l, (isr r l).Perm (r :: l)
  | [] => .refl _
  | y :: ys => by
    unfold isr
    split
    · exact .refl _
    · exact ((isr_perm r ys).cons y).trans (.swap ..)
theorem srt_perm : ∀ l, (srt l).Perm l
  | [] => .refl _
  | x :: xs => (isr_perm x (srt xs)).trans ((srt_perm xs).cons x)
theorem isr_srt (r : Rt) : ∀ {l : List Rt}, l.Pairwise (fun a b => rky a ≤ rky b) → (isr r l).Pairwise fun a b => rky a ≤ rky b
  | [], _ => by
    unfold isr
    exact List.pairwise_singleton ..
  | y :: ys, h => by
    unfold isr
    rw [List.pairwise_cons] at h
    split
    · rename_i e
      refine List.pairwise_cons.mpr ⟨fun z hz => ?_, List.pairwise_cons.mpr h⟩
      rcases List.mem_cons.mp hz with rfl | hz
      · exact e
      · have := h.1 z hz
        omega
    · rename_i e
      refine List.pairwise_cons.mpr ⟨fun z hz => ?_, isr_srt r h.2⟩
      rcases List.mem_cons.mp ((isr_perm r ys).mem_iff.mp hz) with rfl | hz
      · omega
      · exact h.1 z hz
theorem srt_srt : ∀ l : List Rt, (srt l).Pairwise fun a b => rky a ≤ rky b
  | [] => .nil
  | x :: xs => isr_srt x (srt_srt xs)
theorem rky_inj {a b : Rt} (ha : Nat.gcd a.1 a.2 = 1) (hb : Nat.gcd b.1 b.2 = 1) (a2 : 1 ≤ a.2) (a3 : a.2 ≤ 18) (b2 : 1 ≤ b.2) (b3 : b.2 ≤ 18) (h : rky a = rky b) : a = b := by
  obtain ⟨p, q⟩ := a
  obtain ⟨u, v⟩ := b
  unfold rky at h
  dsimp only at *
  have h1 := Nat.div_add_mod (p * 10000) q
  have h2 := Nat.mod_lt (p * 10000) (show 0 < q by omega)
  have h3 := Nat.div_add_mod (u * 10000) v
  have h4 := Nat.mod_lt (u * 10000) (show 0 < v by omega)
  rw [← h] at h3
  generalize p * 10000 / q = k at *
  generalize p * 10000 % q = m at *
  generalize u * 10000 % v = w at *
  have e1 : (q * k + m) * v = p * v * 10000 := by rw [h1, Nat.mul_right_comm]
  have e2 : (v * k + w) * q = u * q * 10000 := by rw [h3, Nat.mul_right_comm]
  rw [Nat.add_mul] at e1 e2
  have e3 : v * k * q = q * k * v := by rw [Nat.mul_comm (v * k), Nat.mul_comm v k, Nat.mul_assoc]
  have m1 : m * v ≤ 18 * 18 := Nat.mul_le_mul (by omega) b3
  have m2 : w * q ≤ 18 * 18 := Nat.mul_le_mul (by omega) a3
  have e : p * v = u * q := by omega
  have d1 : p ∣ u := Nat.Coprime.dvd_of_dvd_mul_right ha (by rw [← e]; exact Nat.dvd_mul_right ..)
  have d2 : u ∣ p := Nat.Coprime.dvd_of_dvd_mul_right hb (by rw [e]; exact Nat.dvd_mul_right ..)
  have ep := Nat.dvd_antisymm d1 d2
  subst ep
  have d3 : q ∣ v := Nat.Coprime.dvd_of_dvd_mul_left (Nat.Coprime.symm ha) (by rw [e]; exact Nat.dvd_mul_left ..)
  have d4 : v ∣ q := Nat.Coprime.dvd_of_dvd_mul_left (Nat.Coprime.symm hb) (by rw [← e]; exact Nat.dvd_mul_left ..)
  rw [Nat.dvd_antisymm d3 d4]
theorem rawN_mem {n : Nat} (hn : n ≤ 20) {r : Rt} (h : r ∈ rawN n) : Nat.gcd r.1 r.2 = 1 ∧ 1 ≤ r.1 ∧ r.1 ≤ 18 ∧ 1 ≤ r.2 ∧ r.2 ≤ 18 := by
  unfold rawN at h
  obtain ⟨u, hu, h⟩ := List.mem_flatMap.mp h
  obtain ⟨d, hd, rfl⟩ := List.mem_map.mp h
  obtain ⟨h1, h2⟩ := List.mem_filter.mp hd
  have h3 := List.mem_range'_1.mp hu
  have h4 := List.mem_range'_1.mp h1
  exact ⟨of_decide_eq_true h2, h3.1, by show u ≤ 18; omega, h4.1, by show d ≤ 18; omega⟩
def rtI (r : Rt) : Int × Int := (r.1, r.2)
theorem srt_ok {n : Nat} (hn : n ≤ 20) : srtRat 10000 ((rawN n).map rtI) = (crossN n).map rtI := by
  unfold srtRat
  rw [← List.map_mergeSort (r := fun a b => decide (rky a ≤ rky b)) (f := rtI) (fun a _ b _ => by
    unfold ratK rtI rky
    dsimp only
    congr 1
    rw [eq_iff_iff]
    constructor
    · intro h
      exact_mod_cast h
    · intro h
      exact_mod_cast h)]
  congr 1
  refine List.Perm.eq_of_pairwise (le := fun a b => rky a ≤ rky b) (fun a b ha hb h1 h2 => ?_) ?_ (srt_srt _) ((List.mergeSort_perm ..).trans (srt_perm _).symm)
  · have h3 := rawN_mem hn ((List.mergeSort_perm ..).mem_iff.mp ha)
    have h4 := rawN_mem hn ((srt_perm _).mem_iff.mp hb)
    exact rky_inj h3.1 h4.1 h3.2.2.2.1 h3.2.2.2.2 h4.2.2.2.1 h4.2.2.2.2 (by omega)
  · have := List.pairwise_mergeSort (le := fun a b : Rt => decide (rky a ≤ rky b)) (fun a b c h1 h2 => by
      simp only [decide_eq_true_eq] at *
      omega) (fun a b => by
      simp only [Bool.or_eq_true, decide_eq_true_eq]
      omega) (rawN n)
    exact this.imp fun h => of_decide_eq_true h
theorem rat_all : ∀ {l : List Rt}, (∀ r ∈ l, 1 ≤ r.1 ∧ r.1 ≤ 18 ∧ 1 ≤ r.2 ∧ r.2 ≤ 18) → ratAll (l.map rtD) = some (l.map rtI)
  | [], _ => rfl
  | r :: l, h => by
    have ih := rat_all fun x hx => h x (List.mem_cons_of_mem _ hx)
    have h1 := h r (List.mem_cons_self ..)
    rw [List.map_cons, ratAll, ih]
    have : rat2 (rtD r) = some (rtI r) := by
      unfold rtD rat2 nI
      dsimp only
      rw [if_pos (by omega)]
      rfl
    rw [this]
    rfl
def rowN (u m : Nat) : List Rt := ((List.range' 1 m).filter fun d => Nat.gcd u d = 1).map fun d => (u, d)
theorem rowN_s (u m : Nat) : rowN u (m + 1) = rowN u m ++ (if Nat.gcd u (m + 1) = 1 then [(u, m + 1)] else []) := by
  unfold rowN
  rw [List.range'_1_concat, List.filter_append, List.map_append, Nat.add_comm 1 m]
  congr 1
  by_cases h : Nat.gcd u (m + 1) = 1
  · rw [if_pos h, List.filter_cons_of_pos (by simpa using h)]
    rfl
  · rw [if_neg h, List.filter_cons_of_neg (by simpa using h)]
    rfl
theorem rowN_len (u m : Nat) : (rowN u m).length ≤ m := by
  unfold rowN
  rw [List.length_map]
  exact Nat.le_trans (List.length_filter_le ..) (by rw [List.length_range']; exact Nat.le_refl _)
def rwsN (m : Nat) (k : Nat) : List Rt := (List.range' 1 k).flatMap fun u => rowN u m
theorem rwsN_s (m k : Nat) : rwsN m (k + 1) = rwsN m k ++ rowN (k + 1) m := by
  unfold rwsN
  rw [List.range'_1_concat, List.flatMap_append, Nat.add_comm 1 k]
  congr 1
  rw [List.flatMap_cons, List.flatMap_nil, List.append_nil]
theorem rwsN_len (m : Nat) : ∀ k, (rwsN m k).length ≤ k * m
  | 0 => Nat.zero_le _
  | k + 1 => by
    have := rwsN_len m k
    have := rowN_len (k + 1) m
    rw [rwsN_s, List.length_append, Nat.add_mul, Nat.one_mul]
    omega
theorem crossings_ok {n : Nat} (n0 : 2 ≤ n) (n1 : n ≤ 20) (s : S) : G_crossings c [.int n] s = .ok (.lst ((crossN n).map rtD)) s := by
  apply eq_ok
  unfold G_crossings
  have r2 : dRng2 [.int 1, .int ((n : Int) - 1)] = some ⟨rgItems 1 (n - 2), none⟩ := by
    rw [rng2 (by omega) (by omega) (by omega) (by omega), show ((n : Int) - 1 - 1).toNat = n - 2 by omega]
  have hgc : ∀ (u d : Nat) (s : S), u ≤ 20 → d ≤ 20 → G_common_divisor c [.int u, .int d] s = .ok (.int (Nat.gcd u d)) s := fun u d s h1 h2 => gcd_ok (Nat.lt_of_le_of_lt h1 (by decide +kernel)) (Nat.lt_of_le_of_lt h2 (by decide +kernel)) s
  generalize G_common_divisor c = gG at *
  generalize hK : fSortR 10000 (fCons (fVar 1) fNil) = fK
  simp (implicitDefEqProofs := false) only [r2, ↓w_srtT, ↓w_par2, ↓w_par3, ↓w_setd, ↓w_dict1, ↓w_maxDf, ↓w_slT, ↓w_addT, ↓w_dictT, ↓w_dictI, ↓w_get, ↓w_lrg1T, ↓w_lrg2T, ↓w_lrg1, ↓w_lrg2, ↓w_pop0, ↓w_lcT, ↓w_mth, ↓w_calm, ↓w_tryM, ↓w_tm0, ↓w_tmN, ↓w_tmS, ↓w_seq, ↓w_next, ↓w_break, ↓w_cont, ↓w_retN, ↓w_asg, ↓w_expr, ↓w_ret, ↓w_if, ↓w_asgG, ↓w_for, ↓w_put, ↓w_aug, ↓w_augS, ↓w_raise0, ↓w_raise1, ↓w_raise2, ↓w_try, ↓w_tryAs, ↓w_var, ↓w_c, ↓w_op, ↓w_chain, ↓w_notV, ↓w_andV, ↓w_orV, ↓w_ifE, ↓w_tst, ↓w_not, ↓w_and, ↓w_or, ↓w_yes, ↓w_nil, ↓w_cons, ↓w_tup, ↓w_lst, ↓w_lstT, ↓w_cb, ↓w_call, ↓w_callK, ↓w_neg, ↓w_no, ↓w_pt, ↓w_sl, ↓w_fld, ↓w_src, ↓w_rng, ↓w_enu, ↓w_listT, ↓w_app, ↓w_lc, ↓w_xf, ↓w_fldT, ↓w_make, ↓w_makeL, ↓w_run, ↓w_cut, ↓w_pure, ↓w_drop, nth2_eq, nth3_eq, w_ok, w_ex, w_nx, w_rt, w_bk, w_ct, w_exS, w_some, w_v, w_tr, w_fa, w_tb, w_ti, w_tn, w_L, w_L0, wb_not, cn_f, startD, arr, gN_eq, gTp, gCn, gNl, Option.bind_some, List.filterMap_cons, List.filterMap_nil, List.map_cons, List.map_nil, List.replicate_succ, List.replicate_zero, List.cons_append, List.nil_append, List.getElem?_cons_zero, List.getElem?_cons_succ, List.set_cons_zero, List.set_cons_succ, List.length_cons, List.length_nil, Nat.reduceAdd, Nat.reduceSub, Nat.reduceLeDiff, Nat.reduceEqDiff, Int.reducePow, Int.reduceToNat, Int.reduceNeg, Int.reduceAdd, Int.reduceMul, Int.reduceSub, Int.reduceLT, Int.reduceLE, Int.reduceEq, Nat.zero_add, Int.zero_add, big_eq, true_and, and_true, and_self, dSub_int, dAdd_int, dAddI_int, dLt_int, dLe_int, dGt_int, dGe_int, dEqD_int, bInt_int, bLen_lst, bLen_tup, bMin_int, bMax_int, bAbs_int, dIs_non, dIs_int, dIs_nn, Bool.not_true, Bool.not_false, decide_true, decide_false, reduceIte, Bool.false_eq_true, if_false, if_true, iSeq_lst, iSeq_tup, iSeq_rdl, iEnu_lst, iEnu_tup]
  refine ws_rng (fun k L s' => ∃ y2 y3 : Option D, L = [some (.int n), some (.ref s.length), y2, y3] ∧ s' = s ++ [.lst ((rwsN (n - 2) k).map rtD)]) ⟨none, none, rfl, rfl⟩ ?_ ?_
  · rintro k L s' hk ⟨y2, y3, rfl, rfl⟩
    rw [show (1 : Int) + k = ((k + 1 : Nat) : Int) by omega]
    simp (implicitDefEqProofs := false) only [r2, ↓w_srtT, ↓w_par2, ↓w_par3, ↓w_setd, ↓w_dict1, ↓w_maxDf, ↓w_slT, ↓w_addT, ↓w_dictT, ↓w_dictI, ↓w_get, ↓w_lrg1T, ↓w_lrg2T, ↓w_lrg1, ↓w_lrg2, ↓w_pop0, ↓w_lcT, ↓w_mth, ↓w_calm, ↓w_tryM, ↓w_tm0, ↓w_tmN, ↓w_tmS, ↓w_seq, ↓w_next, ↓w_break, ↓w_cont, ↓w_retN, ↓w_asg, ↓w_expr, ↓w_ret, ↓w_if, ↓w_asgG, ↓w_for, ↓w_put, ↓w_aug, ↓w_augS, ↓w_raise0, ↓w_raise1, ↓w_raise2, ↓w_try, ↓w_tryAs, ↓w_var, ↓w_c, ↓w_op, ↓w_chain, ↓w_notV, ↓w_andV, ↓w_orV, ↓w_ifE, ↓w_tst, ↓w_not, ↓w_and, ↓w_or, ↓w_yes, ↓w_nil, ↓w_cons, ↓w_tup, ↓w_lst, ↓w_lstT, ↓w_cb, ↓w_call, ↓w_callK, ↓w_neg, ↓w_no, ↓w_pt, ↓w_sl, ↓w_fld, ↓w_src, ↓w_rng, ↓w_enu, ↓w_listT, ↓w_app, ↓w_lc, ↓w_xf, ↓w_fldT, ↓w_make, ↓w_makeL, ↓w_run, ↓w_cut, ↓w_pure, ↓w_drop, nth2_eq, nth3_eq, w_ok, w_ex, w_nx, w_rt, w_bk, w_ct, w_exS, w_some, w_v, w_tr, w_fa, w_tb, w_ti, w_tn, w_L, w_L0, wb_not, cn_f, startD, arr, gN_eq, gTp, gCn, gNl, Option.bind_some, List.filterMap_cons, List.filterMap_nil, List.map_cons, List.map_nil, List.replicate_succ, List.replicate_zero, List.cons_append, List.nil_append, List.getElem?_cons_zero, List.getElem?_cons_succ, List.set_cons_zero, List.set_cons_succ, List.length_cons, List.length_nil, Nat.reduceAdd, Nat.reduceSub, Nat.reduceLeDiff, Nat.reduceEqDiff, Int.reducePow, Int.reduceToNat, Int.reduceNeg, Int.reduceAdd, Int.reduceMul, Int.reduceSub, Int.reduceLT, Int.reduceLE, Int.reduceEq, Nat.zero_add, Int.zero_add, big_eq, true_and, and_true, and_self, dSub_int, dAdd_int, dAddI_int, dLt_int, dLe_int, dGt_int, dGe_int, dEqD_int, bInt_int, bLen_lst, bLen_tup, bMin_int, bMax_int, bAbs_int, dIs_non, dIs_int, dIs_nn, Bool.not_true, Bool.not_false, decide_true, decide_false, reduceIte, Bool.false_eq_true, if_false, if_true, iSeq_lst, iSeq_tup, iSeq_rdl, iEnu_lst, iEnu_tup]
    refine ws_rng (fun i L s' => ∃ y3 : Option D, L = [some (.int n), some (.ref s.length), some (.int (k + 1 : Nat)), y3] ∧ s' = s ++ [.lst ((rwsN (n - 2) k ++ rowN (k + 1) i).map rtD)]) ⟨y3, rfl, by rw [show rowN (k + 1) 0 = [] from rfl, List.append_nil]⟩ ?_ ?_
    · rintro i L s' hi ⟨y3, rfl, rfl⟩
      rw [show (1 : Int) + i = ((i + 1 : Nat) : Int) by omega]
      have l1 := rwsN_len (n - 2) k
      have l2 := rowN_len (k + 1) i
      have l3 : k * (n - 2) ≤ 20 * 20 := Nat.mul_le_mul (by omega) (by omega)
      have ap := ap_app (r := s) (xs := (rwsN (n - 2) k ++ rowN (k + 1) i).map rtD) (.tup [.int (k + 1 : Nat), .int (i + 1 : Nat)]) (by rw [List.length_map, List.length_append]; omega)
      have rs := rowN_s (k + 1) i
      have is := ap_isl (r := s) (xs := (rwsN (n - 2) k ++ rowN (k + 1) i).map rtD)
      generalize hk1 : k + 1 = k' at *
      generalize hi1 : i + 1 = i' at *
      simp (implicitDefEqProofs := false) only [hgc k' i' _ (by omega) (by omega), ↓w_srtT, ↓w_par2, ↓w_par3, ↓w_setd, ↓w_dict1, ↓w_maxDf, ↓w_slT, ↓w_addT, ↓w_dictT, ↓w_dictI, ↓w_get, ↓w_lrg1T, ↓w_lrg2T, ↓w_lrg1, ↓w_lrg2, ↓w_pop0, ↓w_lcT, ↓w_mth, ↓w_calm, ↓w_tryM, ↓w_tm0, ↓w_tmN, ↓w_tmS, ↓w_seq, ↓w_next, ↓w_break, ↓w_cont, ↓w_retN, ↓w_asg, ↓w_expr, ↓w_ret, ↓w_if, ↓w_asgG, ↓w_for, ↓w_put, ↓w_aug, ↓w_augS, ↓w_raise0, ↓w_raise1, ↓w_raise2, ↓w_try, ↓w_tryAs, ↓w_var, ↓w_c, ↓w_op, ↓w_chain, ↓w_notV, ↓w_andV, ↓w_orV, ↓w_ifE, ↓w_tst, ↓w_not, ↓w_and, ↓w_or, ↓w_yes, ↓w_nil, ↓w_cons, ↓w_tup, ↓w_lst, ↓w_lstT, ↓w_cb, ↓w_call, ↓w_callK, ↓w_neg, ↓w_no, ↓w_pt, ↓w_sl, ↓w_fld, ↓w_src, ↓w_rng, ↓w_enu, ↓w_listT, ↓w_app, ↓w_lc, ↓w_xf, ↓w_fldT, ↓w_make, ↓w_makeL, ↓w_run, ↓w_cut, ↓w_pure, ↓w_drop, nth2_eq, nth3_eq, w_ok, w_ex, w_nx, w_rt, w_bk, w_ct, w_exS, w_some, w_v, w_tr, w_fa, w_tb, w_ti, w_tn, w_L, w_L0, wb_not, cn_f, startD, arr, gN_eq, gTp, gCn, gNl, Option.bind_some, List.filterMap_cons, List.filterMap_nil, List.map_cons, List.map_nil, List.replicate_succ, List.replicate_zero, List.cons_append, List.nil_append, List.getElem?_cons_zero, List.getElem?_cons_succ, List.set_cons_zero, List.set_cons_succ, List.length_cons, List.length_nil, Nat.reduceAdd, Nat.reduceSub, Nat.reduceLeDiff, Nat.reduceEqDiff, Int.reducePow, Int.reduceToNat, Int.reduceNeg, Int.reduceAdd, Int.reduceMul, Int.reduceSub, Int.reduceLT, Int.reduceLE, Int.reduceEq, Nat.zero_add, Int.zero_add, big_eq, true_and, and_true, and_self, dSub_int, dAdd_int, dAddI_int, dLt_int, dLe_int, dGt_int, dGe_int, dEqD_int, bInt_int, bLen_lst, bLen_tup, bMin_int, bMax_int, bAbs_int, dIs_non, dIs_int, dIs_nn, Bool.not_true, Bool.not_false, decide_true, decide_false, reduceIte, Bool.false_eq_true, if_false, if_true, iSeq_lst, iSeq_tup, iSeq_rdl, iEnu_lst, iEnu_tup]
      refine wb_dec (fun h => ?_) (fun h => ?_)
      · simp (implicitDefEqProofs := false) only [ap, is, ↓w_srtT, ↓w_par2, ↓w_par3, ↓w_setd, ↓w_dict1, ↓w_maxDf, ↓w_slT, ↓w_addT, ↓w_dictT, ↓w_dictI, ↓w_get, ↓w_lrg1T, ↓w_lrg2T, ↓w_lrg1, ↓w_lrg2, ↓w_pop0, ↓w_lcT, ↓w_mth, ↓w_calm, ↓w_tryM, ↓w_tm0, ↓w_tmN, ↓w_tmS, ↓w_seq, ↓w_next, ↓w_break, ↓w_cont, ↓w_retN, ↓w_asg, ↓w_expr, ↓w_ret, ↓w_if, ↓w_asgG, ↓w_for, ↓w_put, ↓w_aug, ↓w_augS, ↓w_raise0, ↓w_raise1, ↓w_raise2, ↓w_try, ↓w_tryAs, ↓w_var, ↓w_c, ↓w_op, ↓w_chain, ↓w_notV, ↓w_andV, ↓w_orV, ↓w_ifE, ↓w_tst, ↓w_not, ↓w_and, ↓w_or, ↓w_yes, ↓w_nil, ↓w_cons, ↓w_tup, ↓w_lst, ↓w_lstT, ↓w_cb, ↓w_call, ↓w_callK, ↓w_neg, ↓w_no, ↓w_pt, ↓w_sl, ↓w_fld, ↓w_src, ↓w_rng, ↓w_enu, ↓w_listT, ↓w_app, ↓w_lc, ↓w_xf, ↓w_fldT, ↓w_make, ↓w_makeL, ↓w_run, ↓w_cut, ↓w_pure, ↓w_drop, nth2_eq, nth3_eq, w_ok, w_ex, w_nx, w_rt, w_bk, w_ct, w_exS, w_some, w_v, w_tr, w_fa, w_tb, w_ti, w_tn, w_L, w_L0, wb_not, cn_f, startD, arr, gN_eq, gTp, gCn, gNl, Option.bind_some, List.filterMap_cons, List.filterMap_nil, List.map_cons, List.map_nil, List.replicate_succ, List.replicate_zero, List.cons_append, List.nil_append, List.getElem?_cons_zero, List.getElem?_cons_succ, List.set_cons_zero, List.set_cons_succ, List.length_cons, List.length_nil, Nat.reduceAdd, Nat.reduceSub, Nat.reduceLeDiff, Nat.reduceEqDiff, Int.reducePow, Int.reduceToNat, Int.reduceNeg, Int.reduceAdd, Int.reduceMul, Int.reduceSub, Int.reduceLT, Int.reduceLE, Int.reduceEq, Nat.zero_add, Int.zero_add, big_eq, true_and, and_true, and_self, dSub_int, dAdd_int, dAddI_int, dLt_int, dLe_int, dGt_int, dGe_int, dEqD_int, bInt_int, bLen_lst, bLen_tup, bMin_int, bMax_int, bAbs_int, dIs_non, dIs_int, dIs_nn, Bool.not_true, Bool.not_false, decide_true, decide_false, reduceIte, Bool.false_eq_true, if_false, if_true, iSeq_lst, iSeq_tup, iSeq_rdl, iEnu_lst, iEnu_tup]
        refine ⟨_, rfl, ?_⟩
        rw [rs, if_pos (by omega), ← List.append_assoc]
        simp only [List.map_append]
        rfl
      · simp (implicitDefEqProofs := false) only [↓w_srtT, ↓w_par2, ↓w_par3, ↓w_setd, ↓w_dict1, ↓w_maxDf, ↓w_slT, ↓w_addT, ↓w_dictT, ↓w_dictI, ↓w_get, ↓w_lrg1T, ↓w_lrg2T, ↓w_lrg1, ↓w_lrg2, ↓w_pop0, ↓w_lcT, ↓w_mth, ↓w_calm, ↓w_tryM, ↓w_tm0, ↓w_tmN, ↓w_tmS, ↓w_seq, ↓w_next, ↓w_break, ↓w_cont, ↓w_retN, ↓w_asg, ↓w_expr, ↓w_ret, ↓w_if, ↓w_asgG, ↓w_for, ↓w_put, ↓w_aug, ↓w_augS, ↓w_raise0, ↓w_raise1, ↓w_raise2, ↓w_try, ↓w_tryAs, ↓w_var, ↓w_c, ↓w_op, ↓w_chain, ↓w_notV, ↓w_andV, ↓w_orV, ↓w_ifE, ↓w_tst, ↓w_not, ↓w_and, ↓w_or, ↓w_yes, ↓w_nil, ↓w_cons, ↓w_tup, ↓w_lst, ↓w_lstT, ↓w_cb, ↓w_call, ↓w_callK, ↓w_neg, ↓w_no, ↓w_pt, ↓w_sl, ↓w_fld, ↓w_src, ↓w_rng, ↓w_enu, ↓w_listT, ↓w_app, ↓w_lc, ↓w_xf, ↓w_fldT, ↓w_make, ↓w_makeL, ↓w_run, ↓w_cut, ↓w_pure, ↓w_drop, nth2_eq, nth3_eq, w_ok, w_ex, w_nx, w_rt, w_bk, w_ct, w_exS, w_some, w_v, w_tr, w_fa, w_tb, w_ti, w_tn, w_L, w_L0, wb_not, cn_f, startD, arr, gN_eq, gTp, gCn, gNl, Option.bind_some, List.filterMap_cons, List.filterMap_nil, List.map_cons, List.map_nil, List.replicate_succ, List.replicate_zero, List.cons_append, List.nil_append, List.getElem?_cons_zero, List.getElem?_cons_succ, List.set_cons_zero, List.set_cons_succ, List.length_cons, List.length_nil, Nat.reduceAdd, Nat.reduceSub, Nat.reduceLeDiff, Nat.reduceEqDiff, Int.reducePow, Int.reduceToNat, Int.reduceNeg, Int.reduceAdd, Int.reduceMul, Int.reduceSub, Int.reduceLT, Int.reduceLE, Int.reduceEq, Nat.zero_add, Int.zero_add, big_eq, true_and, and_true, and_self, dSub_int, dAdd_int, dAddI_int, dLt_int, dLe_int, dGt_int, dGe_int, dEqD_int, bInt_int, bLen_lst, bLen_tup, bMin_int, bMax_int, bAbs_int, dIs_non, dIs_int, dIs_nn, Bool.not_true, Bool.not_false, decide_true, decide_false, reduceIte, Bool.false_eq_true, if_false, if_true, iSeq_lst, iSeq_tup, iSeq_rdl, iEnu_lst, iEnu_tup]
        refine ⟨_, rfl, ?_⟩
        rw [rs, if_neg (by omega), List.append_nil]
    · rintro L s' ⟨y3, rfl, rfl⟩
      exact ⟨_, _, rfl, by rw [rwsN_s]⟩
  · rintro L s' ⟨y2, y3, rfl, rfl⟩
    have er : rwsN (n - 2) (n - 2) = rawN n := rfl
    rw [er]
    have e : fK [some (.int n), some (.ref s.length), y2, y3] (s ++ [.lst ((rawN n).map rtD)]) = .ok (.lst ((crossN n).map rtD)) (s ++ [.lst ((rawN n).map rtD)]) := by
      subst hK
      have e1 : (fCons (fVar 1) fNil : F (List D)) [some (.int n), some (.ref s.length), y2, y3] (s ++ [.lst ((rawN n).map rtD)]) = .ok [.ref s.length] (s ++ [.lst ((rawN n).map rtD)]) := rfl
      unfold fSortR
      rw [e1, R_bind_ok]
      have e2 : lstOf (s ++ [.lst ((rawN n).map rtD)]) (.ref s.length) = some ((rawN n).map rtD) := by
        unfold lstOf
        dsimp only
        rw [List.getElem?_append_right (Nat.le_refl _), Nat.sub_self]
        rfl
      dsimp only
      rw [e2, Option.bind_some, rat_all fun r hr => (rawN_mem n1 hr).2]
      dsimp only
      rw [srt_ok n1, List.map_map]
      congr 2
    simp (implicitDefEqProofs := false) only [e, ↓w_srtT, ↓w_par2, ↓w_par3, ↓w_setd, ↓w_dict1, ↓w_maxDf, ↓w_slT, ↓w_addT, ↓w_dictT, ↓w_dictI, ↓w_get, ↓w_lrg1T, ↓w_lrg2T, ↓w_lrg1, ↓w_lrg2, ↓w_pop0, ↓w_lcT, ↓w_mth, ↓w_calm, ↓w_tryM, ↓w_tm0, ↓w_tmN, ↓w_tmS, ↓w_seq, ↓w_next, ↓w_break, ↓w_cont, ↓w_retN, ↓w_asg, ↓w_expr, ↓w_ret, ↓w_if, ↓w_asgG, ↓w_for, ↓w_put, ↓w_aug, ↓w_augS, ↓w_raise0, ↓w_raise1, ↓w_raise2, ↓w_try, ↓w_tryAs, ↓w_var, ↓w_c, ↓w_op, ↓w_chain, ↓w_notV, ↓w_andV, ↓w_orV, ↓w_ifE, ↓w_tst, ↓w_not, ↓w_and, ↓w_or, ↓w_yes, ↓w_nil, ↓w_cons, ↓w_tup, ↓w_lst, ↓w_lstT, ↓w_cb, ↓w_call, ↓w_callK, ↓w_neg, ↓w_no, ↓w_pt, ↓w_sl, ↓w_fld, ↓w_src, ↓w_rng, ↓w_enu, ↓w_listT, ↓w_app, ↓w_lc, ↓w_xf, ↓w_fldT, ↓w_make, ↓w_makeL, ↓w_run, ↓w_cut, ↓w_pure, ↓w_drop, nth2_eq, nth3_eq, w_ok, w_ex, w_nx, w_rt, w_bk, w_ct, w_exS, w_some, w_v, w_tr, w_fa, w_tb, w_ti, w_tn, w_L, w_L0, wb_not, cn_f, startD, arr, gN_eq, gTp, gCn, gNl, Option.bind_some, List.filterMap_cons, List.filterMap_nil, List.map_cons, List.map_nil, List.replicate_succ, List.replicate_zero, List.cons_append, List.nil_append, List.getElem?_cons_zero, List.getElem?_cons_succ, List.set_cons_zero, List.set_cons_succ, List.length_cons, List.length_nil, Nat.reduceAdd, Nat.reduceSub, Nat.reduceLeDiff, Nat.reduceEqDiff, Int.reducePow, Int.reduceToNat, Int.reduceNeg, Int.reduceAdd, Int.reduceMul, Int.reduceSub, Int.reduceLT, Int.reduceLE, Int.reduceEq, Nat.zero_add, Int.zero_add, big_eq, true_and, and_true, and_self, dSub_int, dAdd_int, dAddI_int, dLt_int, dLe_int, dGt_int, dGe_int, dEqD_int, bInt_int, bLen_lst, bLen_tup, bMin_int, bMax_int, bAbs_int, dIs_non, dIs_int, dIs_nn, Bool.not_true, Bool.not_false, decide_true, decide_false, reduceIte, Bool.false_eq_true, if_false, if_true, iSeq_lst, iSeq_tup, iSeq_rdl, iEnu_lst, iEnu_tup]
    refine ⟨by simp, ?_⟩
    rw [fin2_pur (pur_lst fun x hx => by
      obtain ⟨r, _, rfl⟩ := List.mem_map.mp hx
      exact rtD_pur r)]
    exact ⟨rfl, rfl⟩
end Pg

/-! the place of a name -/
namespace Pg
open Mt SI
variable {M : Mc} {t : Option Nat}
/-- hands of depth d known just at T, over the roots -/
def SR (M : Mc) (t : Option Nat) (T : Int) (d : Nat) : List Int → Int
  | [] => 0
  | r :: rs => KJ M t d (T - r - d * M.letter) + SR M t T d rs
theorem SR_take (M : Mc) (t : Option Nat) (T : Int) (d : Nat) : ∀ (rs : List Int) (i : Nat) (hi : i < rs.length), SR M t T d (rs.take (i + 1)) = SR M t T d (rs.take i) + KJ M t d (T - rs[i] - d * M.letter)
  | [], i, hi => by simp at hi
  | r :: rs, 0, _ => by simp [SR]
  | r :: rs, i + 1, hi => by
    have := SR_take M t T d rs i (by simpa using hi)
    simp only [List.take_succ_cons, SR, List.getElem_cons_succ] at this ⊢
    omega
theorem SR_nonneg (hM : M.Ok) (T : Int) (d : Nat) : ∀ rs : List Int, 0 ≤ SR M t T d rs
  | [] => Int.le_refl _
  | r :: rs => by
    have := SR_nonneg hM T d rs
    have := KJ_nonneg (t := t) hM d (T - r - d * M.letter)
    simp only [SR]
    omega
theorem SR_take_le (hM : M.Ok) (T : Int) (d : Nat) : ∀ (rs : List Int) (i : Nat), SR M t T d (rs.take i) ≤ SR M t T d rs
  | [], i => by simp
  | r :: rs, 0 => by
    have := SR_nonneg (t := t) hM T d (r :: rs)
    simpa [SR] using this
  | r :: rs, i + 1 => by
    have := SR_take_le hM T d rs i
    simp only [List.take_succ_cons, SR]
    omega
theorem SR_take_mono (hM : M.Ok) (T : Int) (d : Nat) (rs : List Int) {i j : Nat} (h : i ≤ j) : SR M t T d (rs.take i) ≤ SR M t T d (rs.take j) := by
  have := SR_take_le (t := t) hM T d (rs.take j) i
  rw [List.take_take, Nat.min_eq_left h] at this
  exact this
def P1 (M : Mc) (t : Option Nat) (T : Int) (rs : List Int) (d : Nat) : Int := smZ d fun d' => SR M t T d' rs
theorem P1_s (T : Int) (rs : List Int) (d : Nat) : P1 M t T rs (d + 1) = P1 M t T rs d + SR M t T d rs := rfl
theorem P1_mono (hM : M.Ok) (T : Int) (rs : List Int) {d e : Nat} (h : d ≤ e) : P1 M t T rs d ≤ P1 M t T rs e := smZ_shorter h fun _ _ => SR_nonneg hM ..
theorem LY_ext (hM : M.Ok) {x : Int} {N : Nat} (h : (x / M.letter + 1).toNat ≤ N) : LY M t x = smZ N fun d => KJ M t d (x - d * M.letter) := by
  unfold LY
  refine (smZ_extend h fun d h1 _ => KJ_neg hM ?_).symm
  have l0 := hM.letter0
  have h2 : x / M.letter + 1 ≤ d := by omega
  have h3 : x < (x / M.letter + 1) * M.letter := by
    have := Int.lt_ediv_add_one_mul_self x (show 0 < M.letter by omega)
    exact this
  have h4 : (x / M.letter + 1) * M.letter ≤ d * M.letter := Int.mul_le_mul_of_nonneg_right h2 (by omega)
  omega
theorem P1_all (hM : M.Ok) {T : Int} {N : Nat} (h : (T / M.letter + 1).toNat ≤ N) : ∀ {rs : List Int}, (∀ r ∈ rs, 0 ≤ r ∧ r ≤ 1000000000000) → P1 M t T rs N = LYs M t T rs
  | [], _ => by
    unfold P1
    exact smZ_zero fun _ _ => rfl
  | r :: rs, hr => by
    have ih := P1_all hM h (rs := rs) fun z hz => hr z (List.mem_cons_of_mem _ hz)
    have l0 := hM.letter0
    have hr0 := hr r (List.mem_cons_self ..)
    have e : P1 M t T (r :: rs) N = smZ N (fun d => KJ M t d (T - r - d * M.letter)) + P1 M t T rs N := by
      unfold P1
      rw [← smZ_add]
      rfl
    have hd : (T - r) / M.letter ≤ T / M.letter := Int.ediv_le_ediv (by omega) (by omega)
    rw [e, ih, LYs, ← LY_ext hM (x := T - r) (N := N) (by omega)]
def PL (M : Mc) (t : Option Nat) (rs : List Int) (r : Nat) (ns : List Nat) : Int := FRs M t (TM M rs r ns - 1) rs + P1 M t (TM M rs r ns) rs ns.length + SR M t (TM M rs r ns) ns.length (rs.take r) + RK t ns
/-- a name whose time is known -/
structure VN (M : Mc) (t : Option Nat) (rs : List Int) (r : Nat) (ns : List Nat) : Prop where
  r : r < rs.length
  b : ∀ n ∈ ns, Bel t n
theorem OkN.vn {rs : List Int} {r : Nat} {ns : List Nat} (h : OkN t rs.length r ns) : VN M t rs r ns := ⟨h.r, fun n hn k e => by
  have := h.m n hn
  subst e
  simp only [lastN] at this
  omega⟩
theorem VN.kj (hM : M.Ok) (ht : OkT t) {rs : List Int} {r : Nat} {ns : List Nat} (h : VN M t rs r ns) : KJ M t ns.length (TM M rs r ns - rs[r]'h.r - ns.length * M.letter) = ex t ns.length (smN ns) := by
  have g0 := hM.gap0
  have e : TM M rs r ns - rs[r]'h.r - ns.length * M.letter = smN ns * M.gap := by
    unfold TM
    rw [List.getD_eq_getElem?_getD, List.getElem?_eq_getElem h.r, Option.getD_some]
    omega
  rw [e, KJ_ex hM ht (Int.mul_nonneg (by omega) (by omega)) (Int.mul_emod_left ..), Int.mul_ediv_cancel _ (by omega), Int.toNat_natCast]
theorem TM_nonneg (hM : M.Ok) {rs : List Int} (hr : ∀ r ∈ rs, 0 ≤ r ∧ r ≤ 1000000000000) {r : Nat} (h : r < rs.length) (ns : List Nat) : rs[r] ≤ TM M rs r ns ∧ (ns.length : Int) * M.letter ≤ TM M rs r ns ∧ (smN ns : Int) * M.gap ≤ TM M rs r ns := by
  have g0 := hM.gap0
  have l0 := hM.letter0
  have a := Int.mul_nonneg (show (0 : Int) ≤ ns.length by omega) (show 0 ≤ M.letter by omega)
  have b := Int.mul_nonneg (show (0 : Int) ≤ smN ns by omega) (show 0 ≤ M.gap by omega)
  have d := hr _ (List.getElem_mem h)
  unfold TM
  rw [List.getD_eq_getElem?_getD, List.getElem?_eq_getElem h, Option.getD_some]
  omega
theorem PL_ge (hM : M.Ok) (rs : List Int) (r : Nat) (ns : List Nat) : FRs M t (TM M rs r ns - 1) rs ≤ PL M t rs r ns := by
  have a := P1_mono (t := t) hM (TM M rs r ns) rs (Nat.zero_le ns.length)
  have b := SR_nonneg (t := t) hM (TM M rs r ns) ns.length (rs.take r)
  have e : P1 M t (TM M rs r ns) rs 0 = 0 := rfl
  unfold PL
  omega
/-- the place within (depth, root) -/
theorem PL_in (hM : M.Ok) (ht : OkT t) {rs : List Int} {r : Nat} {ns : List Nat} (h : VN M t rs r ns) : PL M t rs r ns < FRs M t (TM M rs r ns - 1) rs + P1 M t (TM M rs r ns) rs ns.length + SR M t (TM M rs r ns) ns.length (rs.take (r + 1)) := by
  have a := RK_lt h.b
  rw [SR_take _ _ _ _ _ _ h.r, h.kj hM ht]
  unfold PL
  omega
theorem PL_lt (hM : M.Ok) (ht : OkT t) {rs : List Int} (hr : ∀ r ∈ rs, 0 ≤ r ∧ r ≤ 1000000000000) {r : Nat} {ns : List Nat} (h : VN M t rs r ns) : PL M t rs r ns < FRs M t (TM M rs r ns) rs := by
  have a := PL_in hM ht h
  have b := SR_take_le (t := t) hM (TM M rs r ns) ns.length rs (r + 1)
  have e := LYs_eq (t := t) hM (TM M rs r ns) rs
  obtain ⟨N, eN⟩ : ∃ N : Nat, N = max (ns.length + 1) (TM M rs r ns / M.letter + 1).toNat := ⟨_, rfl⟩
  have d := P1_mono (t := t) hM (TM M rs r ns) rs (show ns.length + 1 ≤ N by omega)
  rw [P1_s, P1_all (N := N) hM (by omega) hr] at d
  omega
/-- names in their order -/
inductive Lt3 (M : Mc) (rs : List Int) (r : Nat) (ns : List Nat) (r' : Nat) (ns' : List Nat) : Prop
  | time (h : TM M rs r ns < TM M rs r' ns')
  | depth (h : TM M rs r ns = TM M rs r' ns') (hd : ns.length < ns'.length)
  | tup (h : TM M rs r ns = TM M rs r' ns') (hd : ns.length = ns'.length) (hl : ltN (r :: ns) (r' :: ns'))
theorem sum_eq (hM : M.Ok) {rs : List Int} {r : Nat} {ns ns' : List Nat} (hd : ns.length = ns'.length) (h : TM M rs r ns = TM M rs r ns') : smN ns = smN ns' := by
  have g0 := hM.gap0
  unfold TM at h
  rw [hd] at h
  have e : (smN ns : Int) * M.gap = smN ns' * M.gap := by omega
  have := Int.eq_of_mul_eq_mul_right (by omega) e
  omega
theorem PL_ord (hM : M.Ok) (ht : OkT t) {rs : List Int} (hr : ∀ r ∈ rs, 0 ≤ r ∧ r ≤ 1000000000000) {r r' : Nat} {ns ns' : List Nat} (h : VN M t rs r ns) (h' : VN M t rs r' ns') (hl : Lt3 M rs r ns r' ns') : PL M t rs r ns < PL M t rs r' ns' := by
  cases hl with
  | time hT =>
    have a := PL_lt hM ht hr h
    have b := PL_ge (t := t) hM rs r' ns'
    have d := FRs_mono (t := t) hM (show TM M rs r ns ≤ TM M rs r' ns' - 1 by omega) rs
    omega
  | depth hT hd =>
    have a := PL_in hM ht h
    have b := SR_take_le (t := t) hM (TM M rs r ns) ns.length rs (r + 1)
    have d := P1_mono (t := t) hM (TM M rs r ns) rs (show ns.length + 1 ≤ ns'.length by omega)
    rw [P1_s] at d
    have e := SR_nonneg (t := t) hM (TM M rs r' ns') ns'.length (rs.take r')
    have f : PL M t rs r' ns' = FRs M t (TM M rs r' ns' - 1) rs + P1 M t (TM M rs r' ns') rs ns'.length + SR M t (TM M rs r' ns') ns'.length (rs.take r') + RK t ns' := rfl
    rw [← hT] at e f
    omega
  | tup hT hd hl =>
    rcases hl with hl | ⟨rfl, hl⟩
    · have a := PL_in hM ht h
      have b := SR_take_mono (t := t) hM (TM M rs r ns) ns.length rs (show r + 1 ≤ r' by omega)
      have f : PL M t rs r' ns' = FRs M t (TM M rs r' ns' - 1) rs + P1 M t (TM M rs r' ns') rs ns'.length + SR M t (TM M rs r' ns') ns'.length (rs.take r') + RK t ns' := rfl
      rw [← hT, ← hd] at f
      omega
    · have a := RK_ord hd (sum_eq hM hd hT) h.b h'.b hl
      have f : PL M t rs r ns' = FRs M t (TM M rs r ns' - 1) rs + P1 M t (TM M rs r ns') rs ns'.length + SR M t (TM M rs r ns') ns'.length (rs.take r) + RK t ns' := rfl
      have g : PL M t rs r ns = FRs M t (TM M rs r ns - 1) rs + P1 M t (TM M rs r ns) rs ns.length + SR M t (TM M rs r ns) ns.length (rs.take r) + RK t ns := rfl
      rw [← hT, ← hd] at f
      omega
theorem Lt3_tri (M : Mc) (rs : List Int) (r : Nat) (ns : List Nat) (r' : Nat) (ns' : List Nat) : (r = r' ∧ ns = ns') ∨ Lt3 M rs r ns r' ns' ∨ Lt3 M rs r' ns' r ns := by
  rcases Int.lt_trichotomy (TM M rs r ns) (TM M rs r' ns') with h | h | h
  · exact .inr (.inl (.time h))
  · rcases Nat.lt_trichotomy ns.length ns'.length with h2 | h2 | h2
    · exact .inr (.inl (.depth h h2))
    · rcases ltN_tri (r :: ns) (r' :: ns') with e | e | e
      · injection e with e1 e2
        exact .inl ⟨e1, e2⟩
      · exact .inr (.inl (.tup h h2 e))
      · exact .inr (.inr (.tup h.symm h2.symm e))
    · exact .inr (.inr (.depth h.symm h2))
  · exact .inr (.inr (.time h))
theorem PL_inj (hM : M.Ok) (ht : OkT t) {rs : List Int} (hr : ∀ r ∈ rs, 0 ≤ r ∧ r ≤ 1000000000000) {r r' : Nat} {ns ns' : List Nat} (h : VN M t rs r ns) (h' : VN M t rs r' ns') (e : PL M t rs r ns = PL M t rs r' ns') : r = r' ∧ ns = ns' := by
  rcases Lt3_tri M rs r ns r' ns' with h1 | h1 | h1
  · exact h1
  · have := PL_ord hM ht hr h h' h1
    omega
  · have := PL_ord hM ht hr h' h h1
    omega
/-- the time of the name at a place -/
theorem PL_LT (hM : M.Ok) (ht : OkT t) {rs : List Int} (hr : ∀ r ∈ rs, 0 ≤ r ∧ r ≤ 1000000000000) {r : Nat} {ns : List Nat} (h : VN M t rs r ns) (hh : TM M rs r ns ≤ hor M t) : LT M t rs (PL M t rs r ns + 1) (TM M rs r ns) := by
  have a := PL_lt hM ht hr h
  have b := PL_ge (t := t) hM rs r ns
  have d := TM_nonneg hM hr h.r ns
  have e := hr _ (List.getElem_mem h.r)
  exact ⟨by omega, hh, by omega, by omega⟩
end Pg

/-! place_of, name_at -/
namespace SI
open PySem L2 Pg Mt
variable {c : Cl} {M : Mc} {t : Option Nat}
theorem cut_to (xs : List D) (n : Nat) (s : S) : dSl s (.lst xs) none (some (n : Int)) = some (.lst (xs.take n)) := by
  show some (D.lst (cutD xs none (some (n : Int)))) = _
  unfold cutD
  rw [HT.sIx_none, HT.sIx_nat]
  simp
end SI

/-! name_at -/
namespace SI
open PySem L2 Pg Mt
variable {c : Cl} {M : Mc} {t : Option Nat}
/-- the name at a place -/
structure NmAt (M : Mc) (t : Option Nat) (rs : List Int) (x : Int) (r : Nat) (ns : List Nat) : Prop where
  ok : OkN t rs.length r ns
  hor : TM M rs r ns ≤ hor M t
  pl : PL M t rs r ns = x
theorem NmAt.lt (hM : M.Ok) (ht : OkT t) {rs : List Int} (hr : OkR rs) {x : Int} {r : Nat} {ns : List Nat} (h : NmAt M t rs x r ns) : LT M t rs (x + 1) (TM M rs r ns) := by
  have := PL_LT hM ht hr.mem (Pg.OkN.vn (M := M) h.ok) h.hor
  rw [h.pl] at this
  exact this
end SI

/-! next_time: both answers; there is always a next hand -/
namespace SI
open PySem L2 Pg Mt
variable {c : Cl} {M : Mc} {t : Option Nat}
end SI

/-! names with a last item -/
namespace SI
open PySem L2 Pg Mt
variable {c : Cl} {M : Mc} {t : Option Nat}
theorem TM_snoc (M : Mc) (rs : List Int) (r : Nat) (ms : List Nat) (n : Nat) : TM M rs r (ms ++ [n]) = TM M rs r ms + M.letter + n * M.gap := by
  unfold TM
  rw [List.length_append, List.length_singleton, smN_app, smN, smN]
  push_cast
  rw [Int.add_mul, Int.add_mul, Int.one_mul, Int.add_zero]
  omega
theorem PL_nonneg (hM : M.Ok) (rs : List Int) (r : Nat) (ns : List Nat) : 0 ≤ PL M t rs r ns := by
  have := PL_ge (t := t) hM rs r ns
  have := FRs_nonneg M t (TM M rs r ns - 1) rs
  omega
end SI

/-! names in their order: those that wait, the first of them out, its next ones in -/
namespace Pg
open PySem L2 SI Mt
variable {M : Mc} {t : Option Nat} {rs : List Int}
abbrev NP := Nat × List Nat
def Vn (M : Mc) (t : Option Nat) (rs : List Int) (x : NP) : Prop := VN M t rs x.1 x.2
def PP (M : Mc) (t : Option Nat) (rs : List Int) (x : NP) : Int := PL M t rs x.1 x.2
def TmN (M : Mc) (rs : List Int) (x : NP) : Int := TM M rs x.1 x.2
def nxt (t : Option Nat) (n : Nat) : Bool := match t with
  | none => true
  | some k => decide (n + 1 < k)
theorem nxt_bel {n : Nat} : nxt t n = true ↔ Bel t (n + 1) := by
  unfold nxt Bel
  cases t with
  | none => simp
  | some k => simp
/-- the next one of the same sender -/
def sib (t : Option Nat) (x : NP) : List NP := match x.2.getLast? with
  | none => []
  | some n => if nxt t n = true then [(x.1, x.2.dropLast ++ [n + 1])] else []
def kids (t : Option Nat) (x : NP) : List NP := (x.1, x.2 ++ [0]) :: sib t x
theorem sib_snoc (r : Nat) (ms : List Nat) (n : Nat) : sib t (r, ms ++ [n]) = if nxt t n = true then [(r, ms ++ [n + 1])] else [] := by
  unfold sib
  rw [List.getLast?_concat]
  simp
theorem last_cases (xs : List Nat) : xs = [] ∨ ∃ ms n, xs = ms ++ [n] := by
  rcases List.eq_nil_or_concat xs with h | ⟨ms, n, h⟩
  · exact .inl h
  · exact .inr ⟨ms, n, by rw [h, List.concat_eq_append]⟩
theorem mem_kids {x z : NP} : z ∈ kids t x ↔ z = (x.1, x.2 ++ [0]) ∨ ∃ ms n, x.2 = ms ++ [n] ∧ nxt t n = true ∧ z = (x.1, ms ++ [n + 1]) := by
  obtain ⟨r, xs⟩ := x
  unfold kids
  rw [List.mem_cons]
  refine or_congr Iff.rfl ?_
  rcases last_cases xs with rfl | ⟨ms, n, rfl⟩
  · simp [sib]
  · rw [sib_snoc]
    constructor
    · intro h
      split at h
      · rename_i hn
        exact ⟨ms, n, rfl, hn, List.mem_singleton.mp h⟩
      · cases h
    · rintro ⟨ms', n', e, hn, rfl⟩
      obtain ⟨rfl, e2⟩ := List.append_inj' e rfl
      cases e2
      rw [if_pos hn]
      exact .head _
theorem kids_vn (ht : OkT t) {x z : NP} (hx : Vn M t rs x) (hz : z ∈ kids t x) : Vn M t rs z := by
  rcases mem_kids.mp hz with rfl | ⟨ms, n, e, hn, rfl⟩
  · refine ⟨hx.r, fun m hm => ?_⟩
    rcases List.mem_append.mp hm with h | h
    · exact hx.b m h
    · rw [List.mem_singleton.mp h]
      intro k e
      have := (ht k e).1
      omega
  · refine ⟨hx.r, fun m hm => ?_⟩
    rcases List.mem_append.mp hm with h | h
    · exact hx.b m (by rw [e]; exact List.mem_append_left _ h)
    · rw [List.mem_singleton.mp h]
      exact nxt_bel.mp hn
theorem kids_tm (hM : M.Ok) {x z : NP} (hz : z ∈ kids t x) : TmN M rs x < TmN M rs z := by
  have l0 := hM.letter0
  have g0 := hM.gap0
  rcases mem_kids.mp hz with rfl | ⟨ms, n, e, hn, rfl⟩
  · unfold TmN
    rw [TM_snoc]
    dsimp only
    omega
  · obtain ⟨r, xs⟩ := x
    dsimp only at e
    subst e
    unfold TmN
    rw [TM_snoc, TM_snoc]
    have : ((n + 1 : Nat) : Int) * M.gap = n * M.gap + M.gap := by
      rw [Int.natCast_add, Int.add_mul]
      omega
    dsimp only
    omega
section
variable (hM : M.Ok) (ht : OkT t) (hr : OkR rs)
include hM ht hr
theorem kids_pp {x z : NP} (hx : Vn M t rs x) (hz : z ∈ kids t x) : PP M t rs x < PP M t rs z :=
  PL_ord hM ht hr.mem hx (kids_vn ht hx hz) (.time (kids_tm hM hz))
theorem pp_inj {x y : NP} (hx : Vn M t rs x) (hy : Vn M t rs y) (e : PP M t rs x = PP M t rs y) : x = y := by
  obtain ⟨h1, h2⟩ := PL_inj hM ht hr.mem hx hy e
  exact Prod.ext h1 h2
omit hM ht hr in
/-- from whom a name comes -/
theorem pred_of {x : NP} (hx : Vn M t rs x) : x.2 = [] ∨ ∃ y, Vn M t rs y ∧ x ∈ kids t y := by
  obtain ⟨r, xs⟩ := x
  rcases last_cases xs with h | ⟨ms, n, rfl⟩
  · exact .inl h
  · refine .inr ?_
    have hm : ∀ m ∈ ms, Bel t m := fun m hm => hx.b m (List.mem_append_left _ hm)
    have hn : Bel t n := hx.b n (by simp)
    cases n with
    | zero => exact ⟨(r, ms), ⟨hx.r, hm⟩, mem_kids.mpr (.inl rfl)⟩
    | succ n =>
      refine ⟨(r, ms ++ [n]), ⟨hx.r, fun m h => ?_⟩, mem_kids.mpr (.inr ⟨ms, n, rfl, nxt_bel.mpr hn, rfl⟩)⟩
      rcases List.mem_append.mp h with h | h
      · exact hm m h
      · rw [List.mem_singleton.mp h]
        intro k e
        have := hn k e
        omega
omit hM ht hr in
theorem kids_one {x y z : NP} (hx : z ∈ kids t x) (hy : z ∈ kids t y) : x = y := by
  obtain ⟨r, xs⟩ := x
  obtain ⟨r', ys⟩ := y
  rcases mem_kids.mp hx with rfl | ⟨ms, n, e, hn, rfl⟩
  · rcases mem_kids.mp hy with e | ⟨ms', n', e', hn', e⟩
    · obtain ⟨e1, e2⟩ := Prod.mk.inj e
      exact Prod.ext e1 (List.append_inj' e2 rfl).1
    · obtain ⟨e1, e2⟩ := Prod.mk.inj e
      have := (List.append_inj' e2 rfl).2
      simp at this
  · rcases mem_kids.mp hy with e' | ⟨ms', n', e', hn', e''⟩
    · obtain ⟨e1, e2⟩ := Prod.mk.inj e'
      have := (List.append_inj' e2 rfl).2
      simp at this
    · obtain ⟨e1, e2⟩ := Prod.mk.inj e''
      obtain ⟨e3, e4⟩ := List.append_inj' e2 rfl
      simp at e4
      dsimp only at e e' e1 e3
      rw [e, e', e1, e3, e4]
structure St (M : Mc) (t : Option Nat) (rs : List Int) (i : Nat) (Y W : List NP) : Prop where
  hy : ∀ y ∈ Y, Vn M t rs y
  hw : ∀ w ∈ W, Vn M t rs w ∧ ∀ y ∈ Y, PP M t rs y < PP M t rs w
  rt : ∀ r, r < rs.length → (r, []) ∈ Y ∨ (r, []) ∈ W
  kd : ∀ y ∈ Y, ∀ z ∈ kids t y, z ∈ Y ∨ z ∈ W
  pr : ∀ w ∈ W, w.2 = [] ∨ ∃ y ∈ Y, w ∈ kids t y
  nd : W.Nodup
  ly : Y.length = i
  lw : W.length ≤ rs.length + i
  w0 : W ≠ []
  sm : ∀ w ∈ W, w.2.length ≤ i ∧ ∀ n ∈ w.2, n ≤ i
theorem St.cl {i : Nat} {Y W : List NP} (h : St M t rs i Y W) : ∀ (k : Nat) {x : NP}, PP M t rs x ≤ k → Vn M t rs x → x ∈ Y ∨ ∃ w ∈ W, PP M t rs w ≤ PP M t rs x
  | k, x, hk, hx => by
    rcases pred_of hx with e | ⟨y, hy, hxy⟩
    · have : x = (x.1, []) := Prod.ext rfl e
      rw [this]
      rcases h.rt x.1 hx.r with h1 | h1
      · exact .inl h1
      · exact .inr ⟨_, h1, Int.le_refl _⟩
    · have hp := kids_pp hM ht hr hy hxy
      have h0 : 0 ≤ PP M t rs y := PL_nonneg hM ..
      match k, hk with
      | 0, hk => omega
      | k + 1, hk =>
        rcases St.cl h k (x := y) (by omega) hy with h1 | ⟨w, hw, h2⟩
        · rcases h.kd y h1 x hxy with h3 | h3
          · exact .inl h3
          · exact .inr ⟨x, h3, Int.le_refl _⟩
        · exact .inr ⟨w, hw, by omega⟩
/-- the least of those that wait is the least of all that are left -/
theorem St.least {i : Nat} {Y W : List NP} (h : St M t rs i Y W) {m : NP} (hl : ∀ w ∈ W, PP M t rs m ≤ PP M t rs w) {x : NP} (hx : Vn M t rs x) (hn : x ∉ Y) : PP M t rs m ≤ PP M t rs x := by
  have h0 : 0 ≤ PP M t rs x := PL_nonneg hM ..
  rcases h.cl hM ht hr (PP M t rs x).toNat (by omega) hx with h1 | ⟨w, hw, h2⟩
  · exact absurd h1 hn
  · have := hl w hw
    omega
theorem St.step {i : Nat} {Y W : List NP} (h : St M t rs i Y W) {j : Nat} (hj : j < W.length) (hl : ∀ w ∈ W, PP M t rs W[j] ≤ PP M t rs w) : St M t rs (i + 1) (Y ++ [W[j]]) (W.eraseIdx j ++ kids t W[j]) := by
  have hm : W[j] ∈ W := List.getElem_mem hj
  obtain ⟨hv, hlt⟩ := h.hw _ hm
  have hdec : W = W.take j ++ W[j] :: W.drop (j + 1) := by rw [← List.drop_eq_getElem_cons hj, List.take_append_drop]
  have hn := h.nd
  rw [hdec] at hn
  have hn1 := List.nodup_append.mp hn
  have hn2 := List.nodup_cons.mp hn1.2.1
  have her : ∀ w ∈ W.eraseIdx j, w ∈ W ∧ w ≠ W[j] := fun w hw => by
    rw [List.eraseIdx_eq_take_drop_succ] at hw
    rcases List.mem_append.mp hw with hw | hw
    · exact ⟨List.mem_of_mem_take hw, fun e => hn1.2.2 w hw _ (List.mem_cons_self ..) e⟩
    · exact ⟨List.mem_of_mem_drop hw, fun e => hn2.1 (by rw [← e]; exact hw)⟩
  have hin : ∀ w ∈ W, w = W[j] ∨ w ∈ W.eraseIdx j := fun w hw => by
    rw [hdec] at hw
    rw [List.eraseIdx_eq_take_drop_succ]
    rcases List.mem_append.mp hw with hw | hw
    · exact .inr (List.mem_append_left _ hw)
    · rcases List.mem_cons.mp hw with e | hw
      · exact .inl e
      · exact .inr (List.mem_append_right _ hw)
  have hmn : W[j] ∉ Y := fun hy => Int.lt_irrefl _ (hlt _ hy)
  have hkw : ∀ z ∈ kids t W[j], z ∉ W := fun z hz hw => by
    rcases h.pr z hw with e | ⟨y, hy, hyz⟩
    · rcases mem_kids.mp hz with e2 | ⟨ms, n, _, _, e2⟩ <;> rw [e2] at e <;> simp at e
    · exact hmn (by rw [kids_one hz hyz]; exact hy)
  have hkl : (kids t W[j]).length ≤ 2 := by
    unfold kids sib
    split
    · simp
    · split <;> simp
  have hsm := h.sm _ hm
  have hel : (W.eraseIdx j).length = W.length - 1 := by rw [List.length_eraseIdx, if_pos hj]
  refine ⟨fun y hy => ?_, fun w hw => ?_, fun r hr' => ?_, fun y hy z hz => ?_, fun w hw => ?_, ?_, ?_, ?_, ?_, fun w hw => ?_⟩
  · rcases List.mem_append.mp hy with hy | hy
    · exact h.hy y hy
    · rw [List.mem_singleton.mp hy]
      exact hv
  · rcases List.mem_append.mp hw with hw | hw
    · obtain ⟨h1, h2⟩ := her w hw
      obtain ⟨h3, h4⟩ := h.hw w h1
      refine ⟨h3, fun y hy => ?_⟩
      rcases List.mem_append.mp hy with hy | hy
      · exact h4 y hy
      · rw [List.mem_singleton.mp hy]
        rcases Int.lt_or_eq_of_le (hl w h1) with h5 | h5
        · exact h5
        · exact absurd (pp_inj hM ht hr hv h3 h5).symm h2
    · refine ⟨kids_vn ht hv hw, fun y hy => ?_⟩
      have := kids_pp hM ht hr hv hw
      rcases List.mem_append.mp hy with hy | hy
      · have := hlt y hy
        omega
      · rw [List.mem_singleton.mp hy]
        exact this
  · rcases h.rt r hr' with h1 | h1
    · exact .inl (List.mem_append_left _ h1)
    · rcases hin _ h1 with e | h2
      · exact .inl (List.mem_append_right _ (by rw [e]; exact .head _))
      · exact .inr (List.mem_append_left _ h2)
  · rcases List.mem_append.mp hy with hy | hy
    · rcases h.kd y hy z hz with h1 | h1
      · exact .inl (List.mem_append_left _ h1)
      · rcases hin _ h1 with e | h2
        · exact .inl (List.mem_append_right _ (by rw [e]; exact .head _))
        · exact .inr (List.mem_append_left _ h2)
    · rw [List.mem_singleton.mp hy] at hz
      exact .inr (List.mem_append_right _ hz)
  · rcases List.mem_append.mp hw with hw | hw
    · rcases h.pr w (her w hw).1 with e | ⟨y, hy, hyw⟩
      · exact .inl e
      · exact .inr ⟨y, List.mem_append_left _ hy, hyw⟩
    · exact .inr ⟨_, List.mem_append_right _ (.head _), hw⟩
  · refine List.nodup_append.mpr ⟨h.nd.sublist (List.eraseIdx_sublist ..), ?_, fun a ha b hb e => hkw b hb (by rw [← e]; exact (her a ha).1)⟩
    unfold kids sib
    split
    · simp
    · split
      · rename_i n e _
        refine List.nodup_cons.mpr ⟨fun hz => ?_, by simp⟩
        have := (Prod.mk.inj (List.mem_singleton.mp hz)).2
        have := (List.append_inj' this rfl).2
        simp at this
      · simp
  · rw [List.length_append, h.ly]
    rfl
  · rw [List.length_append, hel]
    have := h.lw
    omega
  · intro e
    have := congrArg List.length e
    rw [List.length_append] at this
    unfold kids at this
    simp at this
  · rcases List.mem_append.mp hw with hw | hw
    · have := h.sm w (her w hw).1
      exact ⟨by omega, fun n hn => by have := this.2 n hn; omega⟩
    · rcases mem_kids.mp hw with rfl | ⟨ms, n, e, hnx, rfl⟩
      · refine ⟨by rw [List.length_append, List.length_singleton]; omega, fun n hn => ?_⟩
        rcases List.mem_append.mp hn with h1 | h1
        · have := hsm.2 n h1
          omega
        · rw [List.mem_singleton.mp h1]
          omega
      · have h1 := hsm.1
        rw [e, List.length_append, List.length_singleton] at h1
        refine ⟨by rw [List.length_append, List.length_singleton]; omega, fun m hm => ?_⟩
        rcases List.mem_append.mp hm with h2 | h2
        · have := hsm.2 m (by rw [e]; exact List.mem_append_left _ h2)
          omega
        · rw [List.mem_singleton.mp h2]
          have := hsm.2 n (by rw [e]; simp)
          omega
/-- those that wait at first -/
def rts (rs : List Int) : List NP := (List.range rs.length).map fun r => (r, [])
omit ht in
theorem St.zero : St M t rs 0 [] (rts rs) := by
  have hl0 := hr.l0
  refine ⟨fun y hy => (nomatch hy), fun w hw => ?_, fun r hr' => ?_, fun y hy => (nomatch hy), fun w hw => ?_, ?_, rfl, by simp [rts], ?_, fun w hw => ?_⟩
  · obtain ⟨r, h1, rfl⟩ := List.mem_map.mp hw
    exact ⟨⟨List.mem_range.mp h1, fun n hn => (nomatch hn)⟩, fun y hy => (nomatch hy)⟩
  · exact .inr (List.mem_map.mpr ⟨r, List.mem_range.mpr hr', rfl⟩)
  · obtain ⟨r, h1, rfl⟩ := List.mem_map.mp hw
    exact .inl rfl
  · unfold rts List.Nodup
    rw [List.pairwise_map]
    exact List.Pairwise.imp (fun {a b} h e => h (Prod.mk.inj e).1) List.nodup_range
  · intro e
    have h1 : (rts rs).length = rs.length := by simp [rts]
    rw [e] at h1
    have h1 : 0 = rs.length := h1
    omega
  · obtain ⟨r, h1, rfl⟩ := List.mem_map.mp hw
    exact ⟨Nat.le_refl _, fun n hn => (nomatch hn)⟩
end
end Pg

/-! for .. in a generator def, by an invariant -/
namespace SI
open PySem L2
end SI
namespace Pg
open PySem L2 SI Mt
variable {c : Cl} {M : Mc} {t : Option Nat} {rs : List Int}
def kD (M : Mc) (rs : List Int) (x : NP) : D := .tup [.int (TmN M rs x), .int x.2.length, nmD x.1 x.2]
/-! remove -/
theorem eqv_n : ∀ a b : List Nat, PyData.eqvAll (a.map fun (n : Nat) => PyData.int (n : Int)) (b.map fun (n : Nat) => PyData.int (n : Int)) = decide (a = b)
  | [], [] => by simp [PyData.eqvAll]
  | [], _ :: _ => by simp [PyData.eqvAll]
  | _ :: _, [] => by simp [PyData.eqvAll]
  | x :: xs, y :: ys => by
    have ih := eqv_n xs ys
    simp only [List.map_cons, PyData.eqvAll, ih, eqv_int]
    by_cases h : x = y
    · subst h
      simp
    · have h' : ¬ (x : Int) = y := by omega
      simp [h, h']
end Pg

/-! a sequence: a list, a tuple, or a list of the store -/
namespace Pg
open PySem L2 SI Mt
variable {c : Cl} {M : Mc}
def Pfx (s s' : S) : Prop := ∃ t, s' = s ++ t
theorem pfx_app (s t : S) : Pfx s (s ++ t) := ⟨t, rfl⟩
theorem pfx_refl (s : S) : Pfx s s := ⟨[], by simp⟩
theorem Pfx.trans {a b d : S} (h1 : Pfx a b) (h2 : Pfx b d) : Pfx a d := by
  obtain ⟨x, rfl⟩ := h1
  obtain ⟨y, rfl⟩ := h2
  exact ⟨x ++ y, by simp⟩
theorem Pfx.get {s s' : S} (h : Pfx s s') {n : Nat} {o : O} (e : s[n]? = some o) : s'[n]? = some o := by
  obtain ⟨t, rfl⟩ := h
  rw [List.getElem?_append_left ((List.getElem?_eq_some_iff.mp e).1)]
  exact e
/-- the part up to a place -/
def slD (d : D) (xs : List D) : D := match d with
  | .tup _ => .tup xs
  | _ => .lst xs
theorem slD_seq (s : S) (d : D) (xs : List D) : iSeq s (slD d xs) = some ⟨xs, none⟩ := by
  cases d <;> rfl
structure Sq (s : S) (d : D) (xs : List D) (rr : Option (Nat × List D)) : Prop where
  seq : ∀ {s'}, Pfx s s' → seqOf s' d = some xs
  src : ∀ {s'}, Pfx s s' → iSeq s' d = some ⟨xs, rr⟩
  enu : ∀ {s'}, Pfx s s' → iEnu s' d = some ⟨enumI 0 xs, rr⟩
  ck : ∀ {s'} (on : List D), Pfx s s' → chk ⟨on, rr⟩ s' = true
  isT : ∀ {s'} {cs : List Addr}, Pfx s s' → bIsiT cs s' [d, .tup [.ty "list", .ty "tuple"]] = some (.bl true)
  sl : ∀ {s'} {n : Nat}, Pfx s s' → dSl s' d none (some (n : Int)) = some (slD d (xs.take n))
  nostr : ∀ z, d ≠ .str z
theorem cut_t (xs : List D) (n : Nat) : cutD xs none (some (n : Int)) = xs.take n := by
  unfold cutD
  rw [HT.sIx_none, HT.sIx_nat]
  simp
section
variable {s : S} {d : D} {xs : List D} {rr : Option (Nat × List D)}
theorem Sq.len (h : Sq s d xs rr) {s' : S} (p : Pfx s s') : bLen s' [d] = some (.int xs.length) := by
  have e : bLen s' [d] = (seqOf s' d).map fun xs => .int xs.length := by
    cases d <;> try rfl
    exact absurd rfl (h.nostr _)
  rw [e, h.seq p]
  rfl
theorem Sq.ls (h : Sq s d xs rr) {s' : S} (p : Pfx s s') : bList s' [d] = some (.lst xs) := by
  show (seqOf s' d).map _ = _
  rw [h.seq p]
  rfl
theorem Sq.ix (h : Sq s d xs rr) {s' : S} (p : Pfx s s') {i : Nat} (hi : i < xs.length) : dIx s' d (.int i) = some xs[i] := by
  have e : dIx s' d (.int i) = (seqOf s' d).bind fun xs => L2.atI xs i := by
    cases d <;> try rfl
    exact absurd rfl (h.nostr _)
  rw [e, h.seq p]
  show L2.atI xs i = _
  rw [atI_in (by omega) (by omega), Int.toNat_natCast, List.getElem?_eq_getElem hi]
theorem Sq.mono (h : Sq s d xs rr) {s' : S} (p : Pfx s s') : Sq s' d xs rr :=
  ⟨fun q => h.seq (p.trans q), fun q => h.src (p.trans q), fun q => h.enu (p.trans q), fun on q => h.ck on (p.trans q), fun q => h.isT (p.trans q), fun q => h.sl (p.trans q), h.nostr⟩
end
theorem sq_lst (s : S) (xs : List D) : Sq s (.lst xs) xs none :=
  ⟨fun _ => rfl, fun _ => rfl, fun _ => rfl, fun _ _ => rfl, fun _ => rfl, fun _ => by rw [cut_to]; rfl, fun z h => by cases h⟩
theorem sq_tup (s : S) (xs : List D) : Sq s (.tup xs) xs none :=
  ⟨fun _ => rfl, fun _ => rfl, fun _ => rfl, fun _ _ => rfl, fun _ => rfl, fun _ => by unfold dSl; simp only [cut_t]; rfl, fun z h => by cases h⟩
theorem sq_ref {s : S} {n : Nat} {xs : List D} (e : s[n]? = some (.lst xs)) : Sq s (.ref n) xs (some (n, xs)) where
  seq p := by
    unfold seqOf
    simp only [p.get e]
  src p := by
    unfold iSeq
    simp only [p.get e]
  enu p := by
    unfold iEnu
    simp only [p.get e]
  ck on p := by
    unfold chk
    simp [p.get e]
  isT {s'} {cs} p := by
    have t : tyD s' (.ref n) = tyD s' (.lst []) := by simp only [tyD, p.get e]
    unfold bIsiT isiAny isi1
    simp only [t]
    rfl
  sl p := by
    unfold dSl lstOf
    simp only [p.get e, Option.map_some, cut_t]
    rfl
  nostr z h := by cases h
end Pg

/-! faults of plans whose rows are three ints -/
namespace Pg
open PySem L2 SI Mt
variable {c : Cl} {M : Mc}
/-- the first number below k for which p says yes -/
def fst1 (p : Nat → Bool) : Nat → Option Nat
  | 0 => none
  | k + 1 => match fst1 p k with
    | some i => some i
    | none => if p k = true then some k else none
theorem fst1_none {p : Nat → Bool} : ∀ {k : Nat}, fst1 p k = none ↔ ∀ j, j < k → p j = false
  | 0 => ⟨fun _ j h => by omega, fun _ => rfl⟩
  | k + 1 => by
    have ih := fst1_none (p := p) (k := k)
    constructor
    · intro h j hj
      rw [fst1] at h
      cases e : fst1 p k with
      | some i =>
        rw [e] at h
        cases h
      | none =>
        rw [e] at h
        dsimp only at h
        split at h
        · cases h
        · rename_i hp
          rcases Nat.lt_or_ge j k with z | z
          · exact ih.mp e j z
          · have : j = k := by omega
            subst this
            simpa using hp
    · intro h
      rw [fst1, ih.mpr fun j hj => h j (by omega)]
      dsimp only
      rw [if_neg (by rw [h k (by omega)]; simp)]
theorem fst1_some {p : Nat → Bool} {i : Nat} (hp : p i = true) (hb : ∀ j, j < i → p j = false) : ∀ {k : Nat}, i < k → fst1 p k = some i
  | 0, h => by omega
  | k + 1, h => by
    rw [fst1]
    rcases Nat.lt_or_ge i k with z | z
    · rw [fst1_some hp hb z]
    · have : i = k := by omega
      subst this
      rw [fst1_none.mpr hb]
      dsimp only
      rw [if_pos hp]
abbrev Rw := Int × Int × Int
def rwT (z : Rw) : D := .tup [.int z.1, .int z.2.1, .int z.2.2]
/-- the item of a list of rows -/
def rAt (zs : List Rw) (i : Nat) : Rw := zs.getD i (0, 0, 0)
theorem rAt_eq {zs : List Rw} {i : Nat} (h : i < zs.length) : rAt zs i = zs[i] := by
  unfold rAt
  rw [List.getD_eq_getElem?_getD, List.getElem?_eq_getElem h]
  rfl
/-- the six kinds -/
def pForm (zs : List Rw) (i : Nat) : Bool := !(decide (0 ≤ (rAt zs i).2.2) && decide ((rAt zs i).2.2 ≤ 1000000000000000))
def pHand (n : Int) (zs : List Rw) (i : Nat) : Bool := !(decide (0 ≤ (rAt zs i).1) && decide ((rAt zs i).1 < n)) || (!(decide (0 < (rAt zs i).2.1) && decide ((rAt zs i).2.1 < n)) || decide ((rAt zs i).1 = (rAt zs i).2.1))
def rcs (zs : List Rw) : List Int := zs.map fun z => z.2.1
def pAgain (zs : List Rw) (i : Nat) : Bool := decide ((rAt zs i).2.1 ∈ rcs (zs.take i))
def pNobody (zs : List Rw) (j : Nat) : Bool := !decide (((j + 1 : Nat) : Int) ∈ rcs zs)
/-- when a hand knows: the last row to it counts -/
def knw (l : Int) (zs : List Rw) (h : Int) : Option Int := match zs.reverse.find? (fun z => decide (z.2.1 = h)) with
  | some z => some (z.2.2 + l)
  | none => if h = 0 then some 0 else none
theorem knw_s (l : Int) (zs : List Rw) (z : Rw) (h : Int) : knw l (zs ++ [z]) h = if z.2.1 = h then some (z.2.2 + l) else knw l zs h := by
  unfold knw
  rw [List.reverse_append, List.reverse_singleton, List.singleton_append, List.find?_cons]
  by_cases e : z.2.1 = h
  · simp [e]
  · simp [e]
def fltD : Option (String × Int) → D
  | none => .non
  | some (w, i) => .tup [.str w, .int i]
theorem isrow_ok (z : Rw) (s : S) : G_is_row c [rwT z] s = .ok (.bl (decide (0 ≤ z.2.2) && decide (z.2.2 ≤ 1000000000000000))) s := by
  obtain ⟨a, b, d⟩ := z
  have l3 : bLen s [rwT (a, b, d)] = some (.int 3) := rfl
  have i0 : ∀ s, dIx s (rwT (a, b, d)) (.int 0) = some (.int a) := fun s => it0 ..
  have i1 : ∀ s, dIx s (rwT (a, b, d)) (.int 1) = some (.int b) := fun s => it1 ..
  have i2 : ∀ s, dIx s (rwT (a, b, d)) (.int 2) = some (.int d) := fun s => it2 ..
  have it : bIsi c.cs s [rwT (a, b, d), .ty "tuple"] = some (.bl true) := rfl
  apply eq_ok
  unfold G_is_row
  simp (implicitDefEqProofs := false) only [it, l3, i0, i1, i2, isint_int, between_ok (c := c) (.int d), ↓w_srtT, ↓w_par2, ↓w_par3, ↓w_setd, ↓w_dict1, ↓w_maxDf, ↓w_slT, ↓w_addT, ↓w_dictT, ↓w_dictI, ↓w_get, ↓w_lrg1T, ↓w_lrg2T, ↓w_lrg1, ↓w_lrg2, ↓w_pop0, ↓w_lcT, ↓w_mth, ↓w_calm, ↓w_tryM, ↓w_tm0, ↓w_tmN, ↓w_tmS, ↓w_seq, ↓w_next, ↓w_break, ↓w_cont, ↓w_retN, ↓w_asg, ↓w_expr, ↓w_ret, ↓w_if, ↓w_asgG, ↓w_for, ↓w_put, ↓w_aug, ↓w_augS, ↓w_raise0, ↓w_raise1, ↓w_raise2, ↓w_try, ↓w_tryAs, ↓w_var, ↓w_c, ↓w_op, ↓w_chain, ↓w_notV, ↓w_andV, ↓w_orV, ↓w_ifE, ↓w_tst, ↓w_not, ↓w_and, ↓w_or, ↓w_yes, ↓w_nil, ↓w_cons, ↓w_tup, ↓w_lst, ↓w_lstT, ↓w_cb, ↓w_call, ↓w_callK, ↓w_neg, ↓w_no, ↓w_pt, ↓w_sl, ↓w_fld, ↓w_src, ↓w_rng, ↓w_enu, ↓w_listT, ↓w_app, ↓w_lc, ↓w_xf, ↓w_fldT, ↓w_make, ↓w_makeL, ↓w_run, ↓w_cut, ↓w_pure, ↓w_drop, nth2_eq, nth3_eq, w_ok, w_ex, w_nx, w_rt, w_bk, w_ct, w_exS, w_some, w_v, w_tr, w_fa, w_tb, w_ti, w_tn, w_L, w_L0, wb_not, cn_f, startD, arr, gN_eq, gTp, gCn, gNl, Option.bind_some, List.filterMap_cons, List.filterMap_nil, List.map_cons, List.map_nil, List.replicate_succ, List.replicate_zero, List.cons_append, List.nil_append, List.getElem?_cons_zero, List.getElem?_cons_succ, List.set_cons_zero, List.set_cons_succ, List.length_cons, List.length_nil, Nat.reduceAdd, Nat.reduceSub, Nat.reduceLeDiff, Nat.reduceEqDiff, Int.reducePow, Int.reduceToNat, Int.reduceNeg, Int.reduceAdd, Int.reduceMul, Int.reduceSub, Int.reduceLT, Int.reduceLE, Int.reduceEq, Nat.zero_add, Int.zero_add, big_eq, true_and, and_true, and_self, dSub_int, dAdd_int, dAddI_int, dLt_int, dLe_int, dGt_int, dGe_int, dEqD_int, bInt_int, bLen_lst, bLen_tup, bMin_int, bMax_int, bAbs_int, dIs_non, dIs_int, dIs_nn, Bool.not_true, Bool.not_false, decide_true, decide_false, reduceIte, Bool.false_eq_true, if_false, if_true, iSeq_lst, iSeq_tup, iSeq_rdl, iEnu_lst, iEnu_tup]
  rfl
theorem enu_rows (zs : List Rw) : enumI 0 (zs.map rwT) = (List.range zs.length).map fun (i : Nat) => D.tup [.int i, rwT (rAt zs i)] := by
  apply List.ext_getElem?
  intro i
  rw [enum_get, List.getElem?_map, List.getElem?_map]
  by_cases hi : i < zs.length
  · rw [List.getElem?_eq_getElem hi, List.getElem?_range hi]
    simp only [Option.map_some, Nat.zero_add]
    rw [rAt_eq hi]
  · rw [List.getElem?_eq_none (by omega), List.getElem?_eq_none (by simp; omega)]
    rfl
theorem form_q {zs : List Rw} (hl : zs.length ≤ 400) {s : S} {d : D} {rr : Option (Nat × List D)} (hq : Sq s d (zs.map rwT) rr) : G_form_fault_plans c [d] s = .ok (fltD ((fst1 (pForm zs) zs.length).map fun (i : Nat) => ("form", (i : Int)))) s := by
  have len := hq.len (pfx_refl s)
  rw [List.length_map] at len
  apply eq_ok
  unfold G_form_fault_plans
  simp (implicitDefEqProofs := false) only [hq.isT (cs := c.cs) (pfx_refl s), len, show ¬ (400 : Int) < zs.length by omega, hq.enu (pfx_refl s), ↓w_srtT, ↓w_par2, ↓w_par3, ↓w_setd, ↓w_dict1, ↓w_maxDf, ↓w_slT, ↓w_addT, ↓w_dictT, ↓w_dictI, ↓w_get, ↓w_lrg1T, ↓w_lrg2T, ↓w_lrg1, ↓w_lrg2, ↓w_pop0, ↓w_lcT, ↓w_mth, ↓w_calm, ↓w_tryM, ↓w_tm0, ↓w_tmN, ↓w_tmS, ↓w_seq, ↓w_next, ↓w_break, ↓w_cont, ↓w_retN, ↓w_asg, ↓w_expr, ↓w_ret, ↓w_if, ↓w_asgG, ↓w_for, ↓w_put, ↓w_aug, ↓w_augS, ↓w_raise0, ↓w_raise1, ↓w_raise2, ↓w_try, ↓w_tryAs, ↓w_var, ↓w_c, ↓w_op, ↓w_chain, ↓w_notV, ↓w_andV, ↓w_orV, ↓w_ifE, ↓w_tst, ↓w_not, ↓w_and, ↓w_or, ↓w_yes, ↓w_nil, ↓w_cons, ↓w_tup, ↓w_lst, ↓w_lstT, ↓w_cb, ↓w_call, ↓w_callK, ↓w_neg, ↓w_no, ↓w_pt, ↓w_sl, ↓w_fld, ↓w_src, ↓w_rng, ↓w_enu, ↓w_listT, ↓w_app, ↓w_lc, ↓w_xf, ↓w_fldT, ↓w_make, ↓w_makeL, ↓w_run, ↓w_cut, ↓w_pure, ↓w_drop, nth2_eq, nth3_eq, w_ok, w_ex, w_nx, w_rt, w_bk, w_ct, w_exS, w_some, w_v, w_tr, w_fa, w_tb, w_ti, w_tn, w_L, w_L0, wb_not, cn_f, startD, arr, gN_eq, gTp, gCn, gNl, Option.bind_some, List.filterMap_cons, List.filterMap_nil, List.map_cons, List.map_nil, List.replicate_succ, List.replicate_zero, List.cons_append, List.nil_append, List.getElem?_cons_zero, List.getElem?_cons_succ, List.set_cons_zero, List.set_cons_succ, List.length_cons, List.length_nil, Nat.reduceAdd, Nat.reduceSub, Nat.reduceLeDiff, Nat.reduceEqDiff, Int.reducePow, Int.reduceToNat, Int.reduceNeg, Int.reduceAdd, Int.reduceMul, Int.reduceSub, Int.reduceLT, Int.reduceLE, Int.reduceEq, Nat.zero_add, Int.zero_add, big_eq, true_and, and_true, and_self, dSub_int, dAdd_int, dAddI_int, dLt_int, dLe_int, dGt_int, dGe_int, dEqD_int, bInt_int, bLen_lst, bLen_tup, bMin_int, bMax_int, bAbs_int, dIs_non, dIs_int, dIs_nn, Bool.not_true, Bool.not_false, decide_true, decide_false, reduceIte, Bool.false_eq_true, if_false, if_true, iSeq_lst, iSeq_tup, iSeq_rdl, iEnu_lst, iEnu_tup]
  rw [enu_rows]
  refine ws_trk (xs := List.range zs.length) (f := fun i : Nat => D.tup [.int i, rwT (rAt zs i)]) (fun i L s' => ∃ y1 y2, L = [some d, y1, y2] ∧ s = s' ∧ ∀ j, j < i → pForm zs j = false) ⟨none, none, rfl, rfl, fun j h => by omega⟩ (fun i L s' h => by obtain ⟨_, _, _, rfl, _⟩ := h; exact hq.ck _ (pfx_refl _)) ?_ ?_
  · rintro i hi L s' ⟨y1, y2, rfl, rfl, hb⟩
    have hi' : i < zs.length := by simpa using hi
    rw [List.getElem_range]
    cases hp : pForm zs i with
    | false =>
      have hp' : (decide (0 ≤ (rAt zs i).2.2) && decide ((rAt zs i).2.2 ≤ 1000000000000000)) = true := by
        unfold pForm at hp
        rwa [Bool.not_eq_false'] at hp
      simp (implicitDefEqProofs := false) only [isrow_ok, hp', ↓w_srtT, ↓w_par2, ↓w_par3, ↓w_setd, ↓w_dict1, ↓w_maxDf, ↓w_slT, ↓w_addT, ↓w_dictT, ↓w_dictI, ↓w_get, ↓w_lrg1T, ↓w_lrg2T, ↓w_lrg1, ↓w_lrg2, ↓w_pop0, ↓w_lcT, ↓w_mth, ↓w_calm, ↓w_tryM, ↓w_tm0, ↓w_tmN, ↓w_tmS, ↓w_seq, ↓w_next, ↓w_break, ↓w_cont, ↓w_retN, ↓w_asg, ↓w_expr, ↓w_ret, ↓w_if, ↓w_asgG, ↓w_for, ↓w_put, ↓w_aug, ↓w_augS, ↓w_raise0, ↓w_raise1, ↓w_raise2, ↓w_try, ↓w_tryAs, ↓w_var, ↓w_c, ↓w_op, ↓w_chain, ↓w_notV, ↓w_andV, ↓w_orV, ↓w_ifE, ↓w_tst, ↓w_not, ↓w_and, ↓w_or, ↓w_yes, ↓w_nil, ↓w_cons, ↓w_tup, ↓w_lst, ↓w_lstT, ↓w_cb, ↓w_call, ↓w_callK, ↓w_neg, ↓w_no, ↓w_pt, ↓w_sl, ↓w_fld, ↓w_src, ↓w_rng, ↓w_enu, ↓w_listT, ↓w_app, ↓w_lc, ↓w_xf, ↓w_fldT, ↓w_make, ↓w_makeL, ↓w_run, ↓w_cut, ↓w_pure, ↓w_drop, nth2_eq, nth3_eq, w_ok, w_ex, w_nx, w_rt, w_bk, w_ct, w_exS, w_some, w_v, w_tr, w_fa, w_tb, w_ti, w_tn, w_L, w_L0, wb_not, cn_f, startD, arr, gN_eq, gTp, gCn, gNl, Option.bind_some, List.filterMap_cons, List.filterMap_nil, List.map_cons, List.map_nil, List.replicate_succ, List.replicate_zero, List.cons_append, List.nil_append, List.getElem?_cons_zero, List.getElem?_cons_succ, List.set_cons_zero, List.set_cons_succ, List.length_cons, List.length_nil, Nat.reduceAdd, Nat.reduceSub, Nat.reduceLeDiff, Nat.reduceEqDiff, Int.reducePow, Int.reduceToNat, Int.reduceNeg, Int.reduceAdd, Int.reduceMul, Int.reduceSub, Int.reduceLT, Int.reduceLE, Int.reduceEq, Nat.zero_add, Int.zero_add, big_eq, true_and, and_true, and_self, dSub_int, dAdd_int, dAddI_int, dLt_int, dLe_int, dGt_int, dGe_int, dEqD_int, bInt_int, bLen_lst, bLen_tup, bMin_int, bMax_int, bAbs_int, dIs_non, dIs_int, dIs_nn, Bool.not_true, Bool.not_false, decide_true, decide_false, reduceIte, Bool.false_eq_true, if_false, if_true, iSeq_lst, iSeq_tup, iSeq_rdl, iEnu_lst, iEnu_tup]
      exact ⟨_, _, rfl, fun j hj => by
        rcases Nat.lt_or_ge j i with z | z
        · exact hb j z
        · have : j = i := by omega
          subst this
          exact hp⟩
    | true =>
      have hp' : (decide (0 ≤ (rAt zs i).2.2) && decide ((rAt zs i).2.2 ≤ 1000000000000000)) = false := by
        unfold pForm at hp
        rwa [Bool.not_eq_true'] at hp
      simp (implicitDefEqProofs := false) only [isrow_ok, hp', ↓w_srtT, ↓w_par2, ↓w_par3, ↓w_setd, ↓w_dict1, ↓w_maxDf, ↓w_slT, ↓w_addT, ↓w_dictT, ↓w_dictI, ↓w_get, ↓w_lrg1T, ↓w_lrg2T, ↓w_lrg1, ↓w_lrg2, ↓w_pop0, ↓w_lcT, ↓w_mth, ↓w_calm, ↓w_tryM, ↓w_tm0, ↓w_tmN, ↓w_tmS, ↓w_seq, ↓w_next, ↓w_break, ↓w_cont, ↓w_retN, ↓w_asg, ↓w_expr, ↓w_ret, ↓w_if, ↓w_asgG, ↓w_for, ↓w_put, ↓w_aug, ↓w_augS, ↓w_raise0, ↓w_raise1, ↓w_raise2, ↓w_try, ↓w_tryAs, ↓w_var, ↓w_c, ↓w_op, ↓w_chain, ↓w_notV, ↓w_andV, ↓w_orV, ↓w_ifE, ↓w_tst, ↓w_not, ↓w_and, ↓w_or, ↓w_yes, ↓w_nil, ↓w_cons, ↓w_tup, ↓w_lst, ↓w_lstT, ↓w_cb, ↓w_call, ↓w_callK, ↓w_neg, ↓w_no, ↓w_pt, ↓w_sl, ↓w_fld, ↓w_src, ↓w_rng, ↓w_enu, ↓w_listT, ↓w_app, ↓w_lc, ↓w_xf, ↓w_fldT, ↓w_make, ↓w_makeL, ↓w_run, ↓w_cut, ↓w_pure, ↓w_drop, nth2_eq, nth3_eq, w_ok, w_ex, w_nx, w_rt, w_bk, w_ct, w_exS, w_some, w_v, w_tr, w_fa, w_tb, w_ti, w_tn, w_L, w_L0, wb_not, cn_f, startD, arr, gN_eq, gTp, gCn, gNl, Option.bind_some, List.filterMap_cons, List.filterMap_nil, List.map_cons, List.map_nil, List.replicate_succ, List.replicate_zero, List.cons_append, List.nil_append, List.getElem?_cons_zero, List.getElem?_cons_succ, List.set_cons_zero, List.set_cons_succ, List.length_cons, List.length_nil, Nat.reduceAdd, Nat.reduceSub, Nat.reduceLeDiff, Nat.reduceEqDiff, Int.reducePow, Int.reduceToNat, Int.reduceNeg, Int.reduceAdd, Int.reduceMul, Int.reduceSub, Int.reduceLT, Int.reduceLE, Int.reduceEq, Nat.zero_add, Int.zero_add, big_eq, true_and, and_true, and_self, dSub_int, dAdd_int, dAddI_int, dLt_int, dLe_int, dGt_int, dGe_int, dEqD_int, bInt_int, bLen_lst, bLen_tup, bMin_int, bMax_int, bAbs_int, dIs_non, dIs_int, dIs_nn, Bool.not_true, Bool.not_false, decide_true, decide_false, reduceIte, Bool.false_eq_true, if_false, if_true, iSeq_lst, iSeq_tup, iSeq_rdl, iEnu_lst, iEnu_tup]
      rw [fst1_some hp hb hi']
      rfl
  · rintro L s' ⟨y1, y2, rfl, rfl, hb⟩
    rw [List.length_range] at hb
    simp (implicitDefEqProofs := false) only [↓w_srtT, ↓w_par2, ↓w_par3, ↓w_setd, ↓w_dict1, ↓w_maxDf, ↓w_slT, ↓w_addT, ↓w_dictT, ↓w_dictI, ↓w_get, ↓w_lrg1T, ↓w_lrg2T, ↓w_lrg1, ↓w_lrg2, ↓w_pop0, ↓w_lcT, ↓w_mth, ↓w_calm, ↓w_tryM, ↓w_tm0, ↓w_tmN, ↓w_tmS, ↓w_seq, ↓w_next, ↓w_break, ↓w_cont, ↓w_retN, ↓w_asg, ↓w_expr, ↓w_ret, ↓w_if, ↓w_asgG, ↓w_for, ↓w_put, ↓w_aug, ↓w_augS, ↓w_raise0, ↓w_raise1, ↓w_raise2, ↓w_try, ↓w_tryAs, ↓w_var, ↓w_c, ↓w_op, ↓w_chain, ↓w_notV, ↓w_andV, ↓w_orV, ↓w_ifE, ↓w_tst, ↓w_not, ↓w_and, ↓w_or, ↓w_yes, ↓w_nil, ↓w_cons, ↓w_tup, ↓w_lst, ↓w_lstT, ↓w_cb, ↓w_call, ↓w_callK, ↓w_neg, ↓w_no, ↓w_pt, ↓w_sl, ↓w_fld, ↓w_src, ↓w_rng, ↓w_enu, ↓w_listT, ↓w_app, ↓w_lc, ↓w_xf, ↓w_fldT, ↓w_make, ↓w_makeL, ↓w_run, ↓w_cut, ↓w_pure, ↓w_drop, nth2_eq, nth3_eq, w_ok, w_ex, w_nx, w_rt, w_bk, w_ct, w_exS, w_some, w_v, w_tr, w_fa, w_tb, w_ti, w_tn, w_L, w_L0, wb_not, cn_f, startD, arr, gN_eq, gTp, gCn, gNl, Option.bind_some, List.filterMap_cons, List.filterMap_nil, List.map_cons, List.map_nil, List.replicate_succ, List.replicate_zero, List.cons_append, List.nil_append, List.getElem?_cons_zero, List.getElem?_cons_succ, List.set_cons_zero, List.set_cons_succ, List.length_cons, List.length_nil, Nat.reduceAdd, Nat.reduceSub, Nat.reduceLeDiff, Nat.reduceEqDiff, Int.reducePow, Int.reduceToNat, Int.reduceNeg, Int.reduceAdd, Int.reduceMul, Int.reduceSub, Int.reduceLT, Int.reduceLE, Int.reduceEq, Nat.zero_add, Int.zero_add, big_eq, true_and, and_true, and_self, dSub_int, dAdd_int, dAddI_int, dLt_int, dLe_int, dGt_int, dGe_int, dEqD_int, bInt_int, bLen_lst, bLen_tup, bMin_int, bMax_int, bAbs_int, dIs_non, dIs_int, dIs_nn, Bool.not_true, Bool.not_false, decide_true, decide_false, reduceIte, Bool.false_eq_true, if_false, if_true, iSeq_lst, iSeq_tup, iSeq_rdl, iEnu_lst, iEnu_tup]
    rw [fst1_none.mpr hb]
    rfl
/-! dicts -/
def hasK (ks : List Key) (k : Key) : Bool := ks.any fun a => decide (a = k)
theorem hasK_iff {ks : List Key} {k : Key} : hasK ks k = true ↔ k ∈ ks := by
  unfold hasK
  rw [List.any_eq_true]
  constructor
  · rintro ⟨a, ha, e⟩
    rw [← of_decide_eq_true e]
    exact ha
  · exact fun h => ⟨k, h, decide_eq_true rfl⟩
theorem lk_some : ∀ {ks : List Key} {vs : List D} (k : Key), ks.length = vs.length → (lkD ks vs k).isSome = hasK ks k
  | [], vs, k, h => by simp [lkD, hasK]
  | a :: ks, [], k, h => by simp at h
  | a :: ks, v :: vs, k, h => by
    have ih := lk_some (ks := ks) (vs := vs) k (by simpa using h)
    unfold hasK at ih ⊢
    rw [lkD, List.any_cons]
    by_cases e : a = k
    · simp [e]
    · rw [if_neg e, ih]
      simp [e]
theorem pt_new : ∀ {ks : List Key} {vs : List D} {k : Key} (d : D), ks.length = vs.length → k ∉ ks → ptD ks vs k d = (ks ++ [k], vs ++ [d])
  | [], vs, k, d, h, _ => by
    have : vs = [] := List.length_eq_zero_iff.mp (by simpa using h.symm)
    subst this
    rfl
  | a :: ks, [], k, d, h, _ => by simp at h
  | a :: ks, v :: vs, k, d, h, hn => by
    have ih := pt_new (ks := ks) (vs := vs) (k := k) d (by simpa using h) (fun z => hn (List.mem_cons_of_mem _ z))
    rw [ptD, if_neg (fun e => hn (by rw [e]; exact List.mem_cons_self ..)), ih]
    rfl
theorem pt_len : ∀ {ks : List Key} {vs : List D} (k : Key) (d : D), ks.length = vs.length → (ptD ks vs k d).1.length = (ptD ks vs k d).2.length ∧ (ptD ks vs k d).1.length ≤ ks.length + 1
  | [], vs, k, d, h => by simp [ptD]
  | a :: ks, [], k, d, h => by simp at h
  | a :: ks, v :: vs, k, d, h => by
    have ih := pt_len (ks := ks) (vs := vs) k d (by simpa using h)
    rw [ptD]
    split
    · simp at h ⊢
      omega
    · simp
      omega
theorem pt_mem : ∀ {ks : List Key} {vs : List D} {k a : Key} (d : D), ks.length = vs.length → a ∈ (ptD ks vs k d).1 → a ∈ ks ∨ a = k
  | [], vs, k, a, d, h, hm => by
    simp [ptD] at hm
    exact .inr hm
  | b :: ks, [], k, a, d, h, hm => by simp at h
  | b :: ks, v :: vs, k, a, d, h, hm => by
    rw [ptD] at hm
    split at hm
    · exact .inl hm
    · rcases List.mem_cons.mp hm with e | e
      · exact .inl (by rw [e]; exact List.mem_cons_self ..)
      · rcases pt_mem (ks := ks) (vs := vs) d (by simpa using h) e with z | z
        · exact .inl (List.mem_cons_of_mem _ z)
        · exact .inr z
theorem pt_nd : ∀ {ks : List Key} {vs : List D} {k : Key} (d : D), ks.length = vs.length → ks.Nodup → (ptD ks vs k d).1.Nodup
  | [], vs, k, d, h, _ => by simp [ptD]
  | a :: ks, [], k, d, h, _ => by simp at h
  | a :: ks, v :: vs, k, d, h, hn => by
    obtain ⟨h1, h2⟩ := List.nodup_cons.mp hn
    rw [ptD]
    split
    · exact hn
    · rename_i e
      refine List.nodup_cons.mpr ⟨fun z => ?_, pt_nd d (by simpa using h) h2⟩
      rcases pt_mem d (by simpa using h) z with z | z
      · exact h1 z
      · exact e z
theorem lk_pt : ∀ {ks : List Key} {vs : List D} {k k' : Key} (d : D), ks.length = vs.length → lkD (ptD ks vs k d).1 (ptD ks vs k d).2 k' = if k = k' then some d else lkD ks vs k'
  | [], vs, k, k', d, h => by simp [ptD, lkD]
  | a :: ks, [], k, k', d, h => by simp at h
  | a :: ks, v :: vs, k, k', d, h => by
    have ih := lk_pt (ks := ks) (vs := vs) (k := k) (k' := k') d (by simpa using h)
    rw [ptD]
    by_cases e : a = k
    · rw [if_pos e]
      subst e
      simp only [lkD]
      split <;> rfl
    · rw [if_neg e]
      simp only [lkD, ih]
      by_cases e2 : a = k'
      · subst e2
        rw [if_pos rfl, if_pos rfl, if_neg (Ne.symm e)]
      · rw [if_neg e2, if_neg e2]
/-- the dict that came last -/
theorem dc_get {s : S} {ks : List Key} {vs : List D} : dicOf (s ++ [.dk ks vs]) (.ref s.length) = some (ks, vs) := by
  unfold dicOf
  simp
theorem dc_in {s : S} {ks : List Key} {vs : List D} (neg : Bool) (i : Int) (h : ks.length = vs.length) : dIn neg (s ++ [.dk ks vs]) (.int i) (.ref s.length) = some (.bl (if neg = true then !hasK ks (.inl i) else hasK ks (.inl i))) := by
  unfold dIn
  rw [dc_get]
  simp only [keyD]
  rw [lk_some _ h]
theorem dc_ix {s : S} {ks : List Key} {vs : List D} (i : Int) : dIxD (s ++ [.dk ks vs]) (.ref s.length) (.int i) = lkD ks vs (.inl i) := by
  unfold dIxD
  rw [dc_get]
  rfl
theorem dc_put {s : S} {ks : List Key} {vs : List D} (i : Int) (d : D) (hn : ks.Nodup) (hl : ks.length < 1000000) : dPutD (s ++ [.dk ks vs]) (.ref s.length) (.int i) d = some (s ++ [.dk (ptD ks vs (.inl i) d).1 (ptD ks vs (.inl i) d).2]) := by
  unfold dPutD
  simp only [keyD, get_app]
  rw [if_pos ⟨hn, hl⟩, set_app]
theorem bb_or {a b : Bool} : (a || b) = false ↔ a = false ∧ b = false := by cases a <;> cases b <;> simp
def ksR (zs : List Rw) : List Key := zs.map fun z => .inl z.2.1
theorem ksR_has (zs : List Rw) (h : Int) : hasK (ksR zs) (.inl h) = decide (h ∈ rcs zs) := by
  apply Bool.eq_iff_iff.mpr
  rw [hasK_iff, decide_eq_true_eq]
  unfold ksR rcs
  constructor
  · intro hm
    obtain ⟨z, hz, e⟩ := List.mem_map.mp hm
    injection e with e
    exact List.mem_map.mpr ⟨z, hz, e⟩
  · intro hm
    obtain ⟨z, hz, e⟩ := List.mem_map.mp hm
    exact List.mem_map.mpr ⟨z, hz, by rw [e]⟩
theorem ksR_nd : ∀ {zs : List Rw} {i : Nat}, i ≤ zs.length → (∀ j, j < i → pAgain zs j = false) → (ksR (zs.take i)).Nodup
  | zs, 0, _, _ => by simp [ksR]
  | zs, i + 1, hi, h => by
    have ih := ksR_nd (zs := zs) (i := i) (by omega) fun j hj => h j (by omega)
    have hp := h i (by omega)
    have e : zs.take (i + 1) = zs.take i ++ [zs[i]] := by rw [List.take_succ, List.getElem?_eq_getElem (by omega)]; rfl
    unfold pAgain at hp
    rw [rAt_eq (by omega)] at hp
    have hp' := of_decide_eq_false hp
    rw [e]
    unfold ksR at ih ⊢
    rw [List.map_append]
    refine List.nodup_append.mpr ⟨ih, by simp, fun a ha b hb => ?_⟩
    rintro rfl
    rw [List.map_singleton, List.mem_singleton] at hb
    obtain ⟨z, hz, e⟩ := List.mem_map.mp ha
    rw [← e] at hb
    injection hb with hb
    exact hp' (List.mem_map.mpr ⟨z, hz, hb⟩)
/-- the first fault of the hands -/
def fltH (n : Int) (zs : List Rw) : Option (String × Int) := match fst1 (pHand n zs) zs.length with
  | some i => some ("hand", i)
  | none => match fst1 (pAgain zs) zs.length with
    | some i => some ("again", i)
    | none => (fst1 (pNobody zs) (n - 1).toNat).map fun j => ("nobody", ((j + 1 : Nat) : Int))
theorem hands_fault_q {n : Int} (n0 : 1 ≤ n) (n1 : n ≤ 100) {zs : List Rw} (hl : zs.length ≤ 400) {s : S} {sq : D} {rr : Option (Nat × List D)} (hq : Sq s sq (zs.map rwT) rr) : G_hands_fault c [.int n, sq] s = .ok (fltD (fltH n zs)) s := by
  have fpur : ∀ (m : Nat) (s' : S) (w : String) (i : Int), fin2 m s' (.tup [.str w, .int i]) = some (.tup [.str w, .int i]) := fun m s' w i => fin2_pur (pur_tup fun y hy => by
    simp only [List.mem_cons, List.not_mem_nil, or_false] at hy
    rcases hy with rfl | rfl <;> exact fun _ => rfl)
  apply eq_ok
  unfold G_hands_fault
  simp (implicitDefEqProofs := false) only [hq.enu, pfx_refl, pfx_app, ↓w_srtT, ↓w_par2, ↓w_par3, ↓w_setd, ↓w_dict1, ↓w_maxDf, ↓w_slT, ↓w_addT, ↓w_dictT, ↓w_dictI, ↓w_get, ↓w_lrg1T, ↓w_lrg2T, ↓w_lrg1, ↓w_lrg2, ↓w_pop0, ↓w_lcT, ↓w_mth, ↓w_calm, ↓w_tryM, ↓w_tm0, ↓w_tmN, ↓w_tmS, ↓w_seq, ↓w_next, ↓w_break, ↓w_cont, ↓w_retN, ↓w_asg, ↓w_expr, ↓w_ret, ↓w_if, ↓w_asgG, ↓w_for, ↓w_put, ↓w_aug, ↓w_augS, ↓w_raise0, ↓w_raise1, ↓w_raise2, ↓w_try, ↓w_tryAs, ↓w_var, ↓w_c, ↓w_op, ↓w_chain, ↓w_notV, ↓w_andV, ↓w_orV, ↓w_ifE, ↓w_tst, ↓w_not, ↓w_and, ↓w_or, ↓w_yes, ↓w_nil, ↓w_cons, ↓w_tup, ↓w_lst, ↓w_lstT, ↓w_cb, ↓w_call, ↓w_callK, ↓w_neg, ↓w_no, ↓w_pt, ↓w_sl, ↓w_fld, ↓w_src, ↓w_rng, ↓w_enu, ↓w_listT, ↓w_app, ↓w_lc, ↓w_xf, ↓w_fldT, ↓w_make, ↓w_makeL, ↓w_run, ↓w_cut, ↓w_pure, ↓w_drop, nth2_eq, nth3_eq, w_ok, w_ex, w_nx, w_rt, w_bk, w_ct, w_exS, w_some, w_v, w_tr, w_fa, w_tb, w_ti, w_tn, w_L, w_L0, wb_not, cn_f, startD, arr, gN_eq, gTp, gCn, gNl, Option.bind_some, List.filterMap_cons, List.filterMap_nil, List.map_cons, List.map_nil, List.replicate_succ, List.replicate_zero, List.cons_append, List.nil_append, List.getElem?_cons_zero, List.getElem?_cons_succ, List.set_cons_zero, List.set_cons_succ, List.length_cons, List.length_nil, Nat.reduceAdd, Nat.reduceSub, Nat.reduceLeDiff, Nat.reduceEqDiff, Int.reducePow, Int.reduceToNat, Int.reduceNeg, Int.reduceAdd, Int.reduceMul, Int.reduceSub, Int.reduceLT, Int.reduceLE, Int.reduceEq, Nat.zero_add, Int.zero_add, big_eq, true_and, and_true, and_self, dSub_int, dAdd_int, dAddI_int, dLt_int, dLe_int, dGt_int, dGe_int, dEqD_int, bInt_int, bLen_lst, bLen_tup, bMin_int, bMax_int, bAbs_int, dIs_non, dIs_int, dIs_nn, Bool.not_true, Bool.not_false, decide_true, decide_false, reduceIte, Bool.false_eq_true, if_false, if_true, iSeq_lst, iSeq_tup, iSeq_rdl, iEnu_lst, iEnu_tup]
  rw [enu_rows]
  refine ws_trk (xs := List.range zs.length) (f := fun i : Nat => D.tup [.int i, rwT (rAt zs i)]) (fun i L s' => ∃ y2 y3 y4 y5, L = [some (.int n), some sq, y2, y3, y4, y5, none, none] ∧ s = s' ∧ ∀ j, j < i → pHand n zs j = false) ⟨none, none, none, none, rfl, rfl, fun j h => by omega⟩ (fun i L s' h => by obtain ⟨_, _, _, _, _, rfl, _⟩ := h; exact hq.ck _ (pfx_refl _)) ?_ ?_
  · rintro i hi L s' ⟨y2, y3, y4, y5, rfl, rfl, hb⟩
    have hi' : i < zs.length := by simpa using hi
    rw [List.getElem_range]
    have nxt : pHand n zs i = false → ∀ j, j < i + 1 → pHand n zs j = false := fun hp j hj => by
      rcases Nat.lt_or_ge j i with z | z
      · exact hb j z
      · have : j = i := by omega
        subst this
        exact hp
    have ret : pHand n zs i = true → fltD (fltH n zs) = .tup [.str "hand", .int i] := fun hp => by
      unfold fltH
      rw [fst1_some hp hb hi']
      rfl
    have pdef : pHand n zs i = (!(decide (0 ≤ (rAt zs i).1) && decide ((rAt zs i).1 < n)) || (!(decide (0 < (rAt zs i).2.1) && decide ((rAt zs i).2.1 < n)) || decide ((rAt zs i).1 = (rAt zs i).2.1))) := rfl
    generalize rAt zs i = z at pdef ⊢
    obtain ⟨a, b, d⟩ := z
    unfold rwT
    dsimp only at pdef ⊢
    simp (implicitDefEqProofs := false) only [↓w_srtT, ↓w_par2, ↓w_par3, ↓w_setd, ↓w_dict1, ↓w_maxDf, ↓w_slT, ↓w_addT, ↓w_dictT, ↓w_dictI, ↓w_get, ↓w_lrg1T, ↓w_lrg2T, ↓w_lrg1, ↓w_lrg2, ↓w_pop0, ↓w_lcT, ↓w_mth, ↓w_calm, ↓w_tryM, ↓w_tm0, ↓w_tmN, ↓w_tmS, ↓w_seq, ↓w_next, ↓w_break, ↓w_cont, ↓w_retN, ↓w_asg, ↓w_expr, ↓w_ret, ↓w_if, ↓w_asgG, ↓w_for, ↓w_put, ↓w_aug, ↓w_augS, ↓w_raise0, ↓w_raise1, ↓w_raise2, ↓w_try, ↓w_tryAs, ↓w_var, ↓w_c, ↓w_op, ↓w_chain, ↓w_notV, ↓w_andV, ↓w_orV, ↓w_ifE, ↓w_tst, ↓w_not, ↓w_and, ↓w_or, ↓w_yes, ↓w_nil, ↓w_cons, ↓w_tup, ↓w_lst, ↓w_lstT, ↓w_cb, ↓w_call, ↓w_callK, ↓w_neg, ↓w_no, ↓w_pt, ↓w_sl, ↓w_fld, ↓w_src, ↓w_rng, ↓w_enu, ↓w_listT, ↓w_app, ↓w_lc, ↓w_xf, ↓w_fldT, ↓w_make, ↓w_makeL, ↓w_run, ↓w_cut, ↓w_pure, ↓w_drop, nth2_eq, nth3_eq, w_ok, w_ex, w_nx, w_rt, w_bk, w_ct, w_exS, w_some, w_v, w_tr, w_fa, w_tb, w_ti, w_tn, w_L, w_L0, wb_not, cn_f, startD, arr, gN_eq, gTp, gCn, gNl, Option.bind_some, List.filterMap_cons, List.filterMap_nil, List.map_cons, List.map_nil, List.replicate_succ, List.replicate_zero, List.cons_append, List.nil_append, List.getElem?_cons_zero, List.getElem?_cons_succ, List.set_cons_zero, List.set_cons_succ, List.length_cons, List.length_nil, Nat.reduceAdd, Nat.reduceSub, Nat.reduceLeDiff, Nat.reduceEqDiff, Int.reducePow, Int.reduceToNat, Int.reduceNeg, Int.reduceAdd, Int.reduceMul, Int.reduceSub, Int.reduceLT, Int.reduceLE, Int.reduceEq, Nat.zero_add, Int.zero_add, big_eq, true_and, and_true, and_self, dSub_int, dAdd_int, dAddI_int, dLt_int, dLe_int, dGt_int, dGe_int, dEqD_int, bInt_int, bLen_lst, bLen_tup, bMin_int, bMax_int, bAbs_int, dIs_non, dIs_int, dIs_nn, Bool.not_true, Bool.not_false, decide_true, decide_false, reduceIte, Bool.false_eq_true, if_false, if_true, iSeq_lst, iSeq_tup, iSeq_rdl, iEnu_lst, iEnu_tup]
    refine wb_dec (fun h1 => ?_) (fun h1 => ?_)
    · simp (implicitDefEqProofs := false) only [↓w_srtT, ↓w_par2, ↓w_par3, ↓w_setd, ↓w_dict1, ↓w_maxDf, ↓w_slT, ↓w_addT, ↓w_dictT, ↓w_dictI, ↓w_get, ↓w_lrg1T, ↓w_lrg2T, ↓w_lrg1, ↓w_lrg2, ↓w_pop0, ↓w_lcT, ↓w_mth, ↓w_calm, ↓w_tryM, ↓w_tm0, ↓w_tmN, ↓w_tmS, ↓w_seq, ↓w_next, ↓w_break, ↓w_cont, ↓w_retN, ↓w_asg, ↓w_expr, ↓w_ret, ↓w_if, ↓w_asgG, ↓w_for, ↓w_put, ↓w_aug, ↓w_augS, ↓w_raise0, ↓w_raise1, ↓w_raise2, ↓w_try, ↓w_tryAs, ↓w_var, ↓w_c, ↓w_op, ↓w_chain, ↓w_notV, ↓w_andV, ↓w_orV, ↓w_ifE, ↓w_tst, ↓w_not, ↓w_and, ↓w_or, ↓w_yes, ↓w_nil, ↓w_cons, ↓w_tup, ↓w_lst, ↓w_lstT, ↓w_cb, ↓w_call, ↓w_callK, ↓w_neg, ↓w_no, ↓w_pt, ↓w_sl, ↓w_fld, ↓w_src, ↓w_rng, ↓w_enu, ↓w_listT, ↓w_app, ↓w_lc, ↓w_xf, ↓w_fldT, ↓w_make, ↓w_makeL, ↓w_run, ↓w_cut, ↓w_pure, ↓w_drop, nth2_eq, nth3_eq, w_ok, w_ex, w_nx, w_rt, w_bk, w_ct, w_exS, w_some, w_v, w_tr, w_fa, w_tb, w_ti, w_tn, w_L, w_L0, wb_not, cn_f, startD, arr, gN_eq, gTp, gCn, gNl, Option.bind_some, List.filterMap_cons, List.filterMap_nil, List.map_cons, List.map_nil, List.replicate_succ, List.replicate_zero, List.cons_append, List.nil_append, List.getElem?_cons_zero, List.getElem?_cons_succ, List.set_cons_zero, List.set_cons_succ, List.length_cons, List.length_nil, Nat.reduceAdd, Nat.reduceSub, Nat.reduceLeDiff, Nat.reduceEqDiff, Int.reducePow, Int.reduceToNat, Int.reduceNeg, Int.reduceAdd, Int.reduceMul, Int.reduceSub, Int.reduceLT, Int.reduceLE, Int.reduceEq, Nat.zero_add, Int.zero_add, big_eq, true_and, and_true, and_self, dSub_int, dAdd_int, dAddI_int, dLt_int, dLe_int, dGt_int, dGe_int, dEqD_int, bInt_int, bLen_lst, bLen_tup, bMin_int, bMax_int, bAbs_int, dIs_non, dIs_int, dIs_nn, Bool.not_true, Bool.not_false, decide_true, decide_false, reduceIte, Bool.false_eq_true, if_false, if_true, iSeq_lst, iSeq_tup, iSeq_rdl, iEnu_lst, iEnu_tup]
      refine wb_dec (fun h2 => ?_) (fun h2 => ?_)
      · simp (implicitDefEqProofs := false) only [↓w_srtT, ↓w_par2, ↓w_par3, ↓w_setd, ↓w_dict1, ↓w_maxDf, ↓w_slT, ↓w_addT, ↓w_dictT, ↓w_dictI, ↓w_get, ↓w_lrg1T, ↓w_lrg2T, ↓w_lrg1, ↓w_lrg2, ↓w_pop0, ↓w_lcT, ↓w_mth, ↓w_calm, ↓w_tryM, ↓w_tm0, ↓w_tmN, ↓w_tmS, ↓w_seq, ↓w_next, ↓w_break, ↓w_cont, ↓w_retN, ↓w_asg, ↓w_expr, ↓w_ret, ↓w_if, ↓w_asgG, ↓w_for, ↓w_put, ↓w_aug, ↓w_augS, ↓w_raise0, ↓w_raise1, ↓w_raise2, ↓w_try, ↓w_tryAs, ↓w_var, ↓w_c, ↓w_op, ↓w_chain, ↓w_notV, ↓w_andV, ↓w_orV, ↓w_ifE, ↓w_tst, ↓w_not, ↓w_and, ↓w_or, ↓w_yes, ↓w_nil, ↓w_cons, ↓w_tup, ↓w_lst, ↓w_lstT, ↓w_cb, ↓w_call, ↓w_callK, ↓w_neg, ↓w_no, ↓w_pt, ↓w_sl, ↓w_fld, ↓w_src, ↓w_rng, ↓w_enu, ↓w_listT, ↓w_app, ↓w_lc, ↓w_xf, ↓w_fldT, ↓w_make, ↓w_makeL, ↓w_run, ↓w_cut, ↓w_pure, ↓w_drop, nth2_eq, nth3_eq, w_ok, w_ex, w_nx, w_rt, w_bk, w_ct, w_exS, w_some, w_v, w_tr, w_fa, w_tb, w_ti, w_tn, w_L, w_L0, wb_not, cn_f, startD, arr, gN_eq, gTp, gCn, gNl, Option.bind_some, List.filterMap_cons, List.filterMap_nil, List.map_cons, List.map_nil, List.replicate_succ, List.replicate_zero, List.cons_append, List.nil_append, List.getElem?_cons_zero, List.getElem?_cons_succ, List.set_cons_zero, List.set_cons_succ, List.length_cons, List.length_nil, Nat.reduceAdd, Nat.reduceSub, Nat.reduceLeDiff, Nat.reduceEqDiff, Int.reducePow, Int.reduceToNat, Int.reduceNeg, Int.reduceAdd, Int.reduceMul, Int.reduceSub, Int.reduceLT, Int.reduceLE, Int.reduceEq, Nat.zero_add, Int.zero_add, big_eq, true_and, and_true, and_self, dSub_int, dAdd_int, dAddI_int, dLt_int, dLe_int, dGt_int, dGe_int, dEqD_int, bInt_int, bLen_lst, bLen_tup, bMin_int, bMax_int, bAbs_int, dIs_non, dIs_int, dIs_nn, Bool.not_true, Bool.not_false, decide_true, decide_false, reduceIte, Bool.false_eq_true, if_false, if_true, iSeq_lst, iSeq_tup, iSeq_rdl, iEnu_lst, iEnu_tup]
        refine wb_dec (fun h3 => ?_) (fun h3 => ?_)
        · simp (implicitDefEqProofs := false) only [↓w_srtT, ↓w_par2, ↓w_par3, ↓w_setd, ↓w_dict1, ↓w_maxDf, ↓w_slT, ↓w_addT, ↓w_dictT, ↓w_dictI, ↓w_get, ↓w_lrg1T, ↓w_lrg2T, ↓w_lrg1, ↓w_lrg2, ↓w_pop0, ↓w_lcT, ↓w_mth, ↓w_calm, ↓w_tryM, ↓w_tm0, ↓w_tmN, ↓w_tmS, ↓w_seq, ↓w_next, ↓w_break, ↓w_cont, ↓w_retN, ↓w_asg, ↓w_expr, ↓w_ret, ↓w_if, ↓w_asgG, ↓w_for, ↓w_put, ↓w_aug, ↓w_augS, ↓w_raise0, ↓w_raise1, ↓w_raise2, ↓w_try, ↓w_tryAs, ↓w_var, ↓w_c, ↓w_op, ↓w_chain, ↓w_notV, ↓w_andV, ↓w_orV, ↓w_ifE, ↓w_tst, ↓w_not, ↓w_and, ↓w_or, ↓w_yes, ↓w_nil, ↓w_cons, ↓w_tup, ↓w_lst, ↓w_lstT, ↓w_cb, ↓w_call, ↓w_callK, ↓w_neg, ↓w_no, ↓w_pt, ↓w_sl, ↓w_fld, ↓w_src, ↓w_rng, ↓w_enu, ↓w_listT, ↓w_app, ↓w_lc, ↓w_xf, ↓w_fldT, ↓w_make, ↓w_makeL, ↓w_run, ↓w_cut, ↓w_pure, ↓w_drop, nth2_eq, nth3_eq, w_ok, w_ex, w_nx, w_rt, w_bk, w_ct, w_exS, w_some, w_v, w_tr, w_fa, w_tb, w_ti, w_tn, w_L, w_L0, wb_not, cn_f, startD, arr, gN_eq, gTp, gCn, gNl, Option.bind_some, List.filterMap_cons, List.filterMap_nil, List.map_cons, List.map_nil, List.replicate_succ, List.replicate_zero, List.cons_append, List.nil_append, List.getElem?_cons_zero, List.getElem?_cons_succ, List.set_cons_zero, List.set_cons_succ, List.length_cons, List.length_nil, Nat.reduceAdd, Nat.reduceSub, Nat.reduceLeDiff, Nat.reduceEqDiff, Int.reducePow, Int.reduceToNat, Int.reduceNeg, Int.reduceAdd, Int.reduceMul, Int.reduceSub, Int.reduceLT, Int.reduceLE, Int.reduceEq, Nat.zero_add, Int.zero_add, big_eq, true_and, and_true, and_self, dSub_int, dAdd_int, dAddI_int, dLt_int, dLe_int, dGt_int, dGe_int, dEqD_int, bInt_int, bLen_lst, bLen_tup, bMin_int, bMax_int, bAbs_int, dIs_non, dIs_int, dIs_nn, Bool.not_true, Bool.not_false, decide_true, decide_false, reduceIte, Bool.false_eq_true, if_false, if_true, iSeq_lst, iSeq_tup, iSeq_rdl, iEnu_lst, iEnu_tup]
          refine wb_dec (fun h4 => ?_) (fun h4 => ?_)
          · simp (implicitDefEqProofs := false) only [↓w_srtT, ↓w_par2, ↓w_par3, ↓w_setd, ↓w_dict1, ↓w_maxDf, ↓w_slT, ↓w_addT, ↓w_dictT, ↓w_dictI, ↓w_get, ↓w_lrg1T, ↓w_lrg2T, ↓w_lrg1, ↓w_lrg2, ↓w_pop0, ↓w_lcT, ↓w_mth, ↓w_calm, ↓w_tryM, ↓w_tm0, ↓w_tmN, ↓w_tmS, ↓w_seq, ↓w_next, ↓w_break, ↓w_cont, ↓w_retN, ↓w_asg, ↓w_expr, ↓w_ret, ↓w_if, ↓w_asgG, ↓w_for, ↓w_put, ↓w_aug, ↓w_augS, ↓w_raise0, ↓w_raise1, ↓w_raise2, ↓w_try, ↓w_tryAs, ↓w_var, ↓w_c, ↓w_op, ↓w_chain, ↓w_notV, ↓w_andV, ↓w_orV, ↓w_ifE, ↓w_tst, ↓w_not, ↓w_and, ↓w_or, ↓w_yes, ↓w_nil, ↓w_cons, ↓w_tup, ↓w_lst, ↓w_lstT, ↓w_cb, ↓w_call, ↓w_callK, ↓w_neg, ↓w_no, ↓w_pt, ↓w_sl, ↓w_fld, ↓w_src, ↓w_rng, ↓w_enu, ↓w_listT, ↓w_app, ↓w_lc, ↓w_xf, ↓w_fldT, ↓w_make, ↓w_makeL, ↓w_run, ↓w_cut, ↓w_pure, ↓w_drop, nth2_eq, nth3_eq, w_ok, w_ex, w_nx, w_rt, w_bk, w_ct, w_exS, w_some, w_v, w_tr, w_fa, w_tb, w_ti, w_tn, w_L, w_L0, wb_not, cn_f, startD, arr, gN_eq, gTp, gCn, gNl, Option.bind_some, List.filterMap_cons, List.filterMap_nil, List.map_cons, List.map_nil, List.replicate_succ, List.replicate_zero, List.cons_append, List.nil_append, List.getElem?_cons_zero, List.getElem?_cons_succ, List.set_cons_zero, List.set_cons_succ, List.length_cons, List.length_nil, Nat.reduceAdd, Nat.reduceSub, Nat.reduceLeDiff, Nat.reduceEqDiff, Int.reducePow, Int.reduceToNat, Int.reduceNeg, Int.reduceAdd, Int.reduceMul, Int.reduceSub, Int.reduceLT, Int.reduceLE, Int.reduceEq, Nat.zero_add, Int.zero_add, big_eq, true_and, and_true, and_self, dSub_int, dAdd_int, dAddI_int, dLt_int, dLe_int, dGt_int, dGe_int, dEqD_int, bInt_int, bLen_lst, bLen_tup, bMin_int, bMax_int, bAbs_int, dIs_non, dIs_int, dIs_nn, Bool.not_true, Bool.not_false, decide_true, decide_false, reduceIte, Bool.false_eq_true, if_false, if_true, iSeq_lst, iSeq_tup, iSeq_rdl, iEnu_lst, iEnu_tup]
            refine wb_dec (fun h5 => ?_) (fun h5 => ?_)
            · simp (implicitDefEqProofs := false) only [fpur, ↓w_srtT, ↓w_par2, ↓w_par3, ↓w_setd, ↓w_dict1, ↓w_maxDf, ↓w_slT, ↓w_addT, ↓w_dictT, ↓w_dictI, ↓w_get, ↓w_lrg1T, ↓w_lrg2T, ↓w_lrg1, ↓w_lrg2, ↓w_pop0, ↓w_lcT, ↓w_mth, ↓w_calm, ↓w_tryM, ↓w_tm0, ↓w_tmN, ↓w_tmS, ↓w_seq, ↓w_next, ↓w_break, ↓w_cont, ↓w_retN, ↓w_asg, ↓w_expr, ↓w_ret, ↓w_if, ↓w_asgG, ↓w_for, ↓w_put, ↓w_aug, ↓w_augS, ↓w_raise0, ↓w_raise1, ↓w_raise2, ↓w_try, ↓w_tryAs, ↓w_var, ↓w_c, ↓w_op, ↓w_chain, ↓w_notV, ↓w_andV, ↓w_orV, ↓w_ifE, ↓w_tst, ↓w_not, ↓w_and, ↓w_or, ↓w_yes, ↓w_nil, ↓w_cons, ↓w_tup, ↓w_lst, ↓w_lstT, ↓w_cb, ↓w_call, ↓w_callK, ↓w_neg, ↓w_no, ↓w_pt, ↓w_sl, ↓w_fld, ↓w_src, ↓w_rng, ↓w_enu, ↓w_listT, ↓w_app, ↓w_lc, ↓w_xf, ↓w_fldT, ↓w_make, ↓w_makeL, ↓w_run, ↓w_cut, ↓w_pure, ↓w_drop, nth2_eq, nth3_eq, w_ok, w_ex, w_nx, w_rt, w_bk, w_ct, w_exS, w_some, w_v, w_tr, w_fa, w_tb, w_ti, w_tn, w_L, w_L0, wb_not, cn_f, startD, arr, gN_eq, gTp, gCn, gNl, Option.bind_some, List.filterMap_cons, List.filterMap_nil, List.map_cons, List.map_nil, List.replicate_succ, List.replicate_zero, List.cons_append, List.nil_append, List.getElem?_cons_zero, List.getElem?_cons_succ, List.set_cons_zero, List.set_cons_succ, List.length_cons, List.length_nil, Nat.reduceAdd, Nat.reduceSub, Nat.reduceLeDiff, Nat.reduceEqDiff, Int.reducePow, Int.reduceToNat, Int.reduceNeg, Int.reduceAdd, Int.reduceMul, Int.reduceSub, Int.reduceLT, Int.reduceLE, Int.reduceEq, Nat.zero_add, Int.zero_add, big_eq, true_and, and_true, and_self, dSub_int, dAdd_int, dAddI_int, dLt_int, dLe_int, dGt_int, dGe_int, dEqD_int, bInt_int, bLen_lst, bLen_tup, bMin_int, bMax_int, bAbs_int, dIs_non, dIs_int, dIs_nn, Bool.not_true, Bool.not_false, decide_true, decide_false, reduceIte, Bool.false_eq_true, if_false, if_true, iSeq_lst, iSeq_tup, iSeq_rdl, iEnu_lst, iEnu_tup]
              exact ⟨by simp, (ret (by rw [pdef]; simp [h5])).symm⟩
            · simp (implicitDefEqProofs := false) only [↓w_srtT, ↓w_par2, ↓w_par3, ↓w_setd, ↓w_dict1, ↓w_maxDf, ↓w_slT, ↓w_addT, ↓w_dictT, ↓w_dictI, ↓w_get, ↓w_lrg1T, ↓w_lrg2T, ↓w_lrg1, ↓w_lrg2, ↓w_pop0, ↓w_lcT, ↓w_mth, ↓w_calm, ↓w_tryM, ↓w_tm0, ↓w_tmN, ↓w_tmS, ↓w_seq, ↓w_next, ↓w_break, ↓w_cont, ↓w_retN, ↓w_asg, ↓w_expr, ↓w_ret, ↓w_if, ↓w_asgG, ↓w_for, ↓w_put, ↓w_aug, ↓w_augS, ↓w_raise0, ↓w_raise1, ↓w_raise2, ↓w_try, ↓w_tryAs, ↓w_var, ↓w_c, ↓w_op, ↓w_chain, ↓w_notV, ↓w_andV, ↓w_orV, ↓w_ifE, ↓w_tst, ↓w_not, ↓w_and, ↓w_or, ↓w_yes, ↓w_nil, ↓w_cons, ↓w_tup, ↓w_lst, ↓w_lstT, ↓w_cb, ↓w_call, ↓w_callK, ↓w_neg, ↓w_no, ↓w_pt, ↓w_sl, ↓w_fld, ↓w_src, ↓w_rng, ↓w_enu, ↓w_listT, ↓w_app, ↓w_lc, ↓w_xf, ↓w_fldT, ↓w_make, ↓w_makeL, ↓w_run, ↓w_cut, ↓w_pure, ↓w_drop, nth2_eq, nth3_eq, w_ok, w_ex, w_nx, w_rt, w_bk, w_ct, w_exS, w_some, w_v, w_tr, w_fa, w_tb, w_ti, w_tn, w_L, w_L0, wb_not, cn_f, startD, arr, gN_eq, gTp, gCn, gNl, Option.bind_some, List.filterMap_cons, List.filterMap_nil, List.map_cons, List.map_nil, List.replicate_succ, List.replicate_zero, List.cons_append, List.nil_append, List.getElem?_cons_zero, List.getElem?_cons_succ, List.set_cons_zero, List.set_cons_succ, List.length_cons, List.length_nil, Nat.reduceAdd, Nat.reduceSub, Nat.reduceLeDiff, Nat.reduceEqDiff, Int.reducePow, Int.reduceToNat, Int.reduceNeg, Int.reduceAdd, Int.reduceMul, Int.reduceSub, Int.reduceLT, Int.reduceLE, Int.reduceEq, Nat.zero_add, Int.zero_add, big_eq, true_and, and_true, and_self, dSub_int, dAdd_int, dAddI_int, dLt_int, dLe_int, dGt_int, dGe_int, dEqD_int, bInt_int, bLen_lst, bLen_tup, bMin_int, bMax_int, bAbs_int, dIs_non, dIs_int, dIs_nn, Bool.not_true, Bool.not_false, decide_true, decide_false, reduceIte, Bool.false_eq_true, if_false, if_true, iSeq_lst, iSeq_tup, iSeq_rdl, iEnu_lst, iEnu_tup]
              exact ⟨_, _, _, _, rfl, nxt (by rw [pdef]; simp [h1, h2, h3, h4, h5])⟩
          · simp (implicitDefEqProofs := false) only [fpur, ↓w_srtT, ↓w_par2, ↓w_par3, ↓w_setd, ↓w_dict1, ↓w_maxDf, ↓w_slT, ↓w_addT, ↓w_dictT, ↓w_dictI, ↓w_get, ↓w_lrg1T, ↓w_lrg2T, ↓w_lrg1, ↓w_lrg2, ↓w_pop0, ↓w_lcT, ↓w_mth, ↓w_calm, ↓w_tryM, ↓w_tm0, ↓w_tmN, ↓w_tmS, ↓w_seq, ↓w_next, ↓w_break, ↓w_cont, ↓w_retN, ↓w_asg, ↓w_expr, ↓w_ret, ↓w_if, ↓w_asgG, ↓w_for, ↓w_put, ↓w_aug, ↓w_augS, ↓w_raise0, ↓w_raise1, ↓w_raise2, ↓w_try, ↓w_tryAs, ↓w_var, ↓w_c, ↓w_op, ↓w_chain, ↓w_notV, ↓w_andV, ↓w_orV, ↓w_ifE, ↓w_tst, ↓w_not, ↓w_and, ↓w_or, ↓w_yes, ↓w_nil, ↓w_cons, ↓w_tup, ↓w_lst, ↓w_lstT, ↓w_cb, ↓w_call, ↓w_callK, ↓w_neg, ↓w_no, ↓w_pt, ↓w_sl, ↓w_fld, ↓w_src, ↓w_rng, ↓w_enu, ↓w_listT, ↓w_app, ↓w_lc, ↓w_xf, ↓w_fldT, ↓w_make, ↓w_makeL, ↓w_run, ↓w_cut, ↓w_pure, ↓w_drop, nth2_eq, nth3_eq, w_ok, w_ex, w_nx, w_rt, w_bk, w_ct, w_exS, w_some, w_v, w_tr, w_fa, w_tb, w_ti, w_tn, w_L, w_L0, wb_not, cn_f, startD, arr, gN_eq, gTp, gCn, gNl, Option.bind_some, List.filterMap_cons, List.filterMap_nil, List.map_cons, List.map_nil, List.replicate_succ, List.replicate_zero, List.cons_append, List.nil_append, List.getElem?_cons_zero, List.getElem?_cons_succ, List.set_cons_zero, List.set_cons_succ, List.length_cons, List.length_nil, Nat.reduceAdd, Nat.reduceSub, Nat.reduceLeDiff, Nat.reduceEqDiff, Int.reducePow, Int.reduceToNat, Int.reduceNeg, Int.reduceAdd, Int.reduceMul, Int.reduceSub, Int.reduceLT, Int.reduceLE, Int.reduceEq, Nat.zero_add, Int.zero_add, big_eq, true_and, and_true, and_self, dSub_int, dAdd_int, dAddI_int, dLt_int, dLe_int, dGt_int, dGe_int, dEqD_int, bInt_int, bLen_lst, bLen_tup, bMin_int, bMax_int, bAbs_int, dIs_non, dIs_int, dIs_nn, Bool.not_true, Bool.not_false, decide_true, decide_false, reduceIte, Bool.false_eq_true, if_false, if_true, iSeq_lst, iSeq_tup, iSeq_rdl, iEnu_lst, iEnu_tup]
            exact ⟨by simp, (ret (by rw [pdef]; simp [h4])).symm⟩
        · simp (implicitDefEqProofs := false) only [fpur, ↓w_srtT, ↓w_par2, ↓w_par3, ↓w_setd, ↓w_dict1, ↓w_maxDf, ↓w_slT, ↓w_addT, ↓w_dictT, ↓w_dictI, ↓w_get, ↓w_lrg1T, ↓w_lrg2T, ↓w_lrg1, ↓w_lrg2, ↓w_pop0, ↓w_lcT, ↓w_mth, ↓w_calm, ↓w_tryM, ↓w_tm0, ↓w_tmN, ↓w_tmS, ↓w_seq, ↓w_next, ↓w_break, ↓w_cont, ↓w_retN, ↓w_asg, ↓w_expr, ↓w_ret, ↓w_if, ↓w_asgG, ↓w_for, ↓w_put, ↓w_aug, ↓w_augS, ↓w_raise0, ↓w_raise1, ↓w_raise2, ↓w_try, ↓w_tryAs, ↓w_var, ↓w_c, ↓w_op, ↓w_chain, ↓w_notV, ↓w_andV, ↓w_orV, ↓w_ifE, ↓w_tst, ↓w_not, ↓w_and, ↓w_or, ↓w_yes, ↓w_nil, ↓w_cons, ↓w_tup, ↓w_lst, ↓w_lstT, ↓w_cb, ↓w_call, ↓w_callK, ↓w_neg, ↓w_no, ↓w_pt, ↓w_sl, ↓w_fld, ↓w_src, ↓w_rng, ↓w_enu, ↓w_listT, ↓w_app, ↓w_lc, ↓w_xf, ↓w_fldT, ↓w_make, ↓w_makeL, ↓w_run, ↓w_cut, ↓w_pure, ↓w_drop, nth2_eq, nth3_eq, w_ok, w_ex, w_nx, w_rt, w_bk, w_ct, w_exS, w_some, w_v, w_tr, w_fa, w_tb, w_ti, w_tn, w_L, w_L0, wb_not, cn_f, startD, arr, gN_eq, gTp, gCn, gNl, Option.bind_some, List.filterMap_cons, List.filterMap_nil, List.map_cons, List.map_nil, List.replicate_succ, List.replicate_zero, List.cons_append, List.nil_append, List.getElem?_cons_zero, List.getElem?_cons_succ, List.set_cons_zero, List.set_cons_succ, List.length_cons, List.length_nil, Nat.reduceAdd, Nat.reduceSub, Nat.reduceLeDiff, Nat.reduceEqDiff, Int.reducePow, Int.reduceToNat, Int.reduceNeg, Int.reduceAdd, Int.reduceMul, Int.reduceSub, Int.reduceLT, Int.reduceLE, Int.reduceEq, Nat.zero_add, Int.zero_add, big_eq, true_and, and_true, and_self, dSub_int, dAdd_int, dAddI_int, dLt_int, dLe_int, dGt_int, dGe_int, dEqD_int, bInt_int, bLen_lst, bLen_tup, bMin_int, bMax_int, bAbs_int, dIs_non, dIs_int, dIs_nn, Bool.not_true, Bool.not_false, decide_true, decide_false, reduceIte, Bool.false_eq_true, if_false, if_true, iSeq_lst, iSeq_tup, iSeq_rdl, iEnu_lst, iEnu_tup]
          exact ⟨by simp, (ret (by rw [pdef]; simp [h3])).symm⟩
      · simp (implicitDefEqProofs := false) only [fpur, ↓w_srtT, ↓w_par2, ↓w_par3, ↓w_setd, ↓w_dict1, ↓w_maxDf, ↓w_slT, ↓w_addT, ↓w_dictT, ↓w_dictI, ↓w_get, ↓w_lrg1T, ↓w_lrg2T, ↓w_lrg1, ↓w_lrg2, ↓w_pop0, ↓w_lcT, ↓w_mth, ↓w_calm, ↓w_tryM, ↓w_tm0, ↓w_tmN, ↓w_tmS, ↓w_seq, ↓w_next, ↓w_break, ↓w_cont, ↓w_retN, ↓w_asg, ↓w_expr, ↓w_ret, ↓w_if, ↓w_asgG, ↓w_for, ↓w_put, ↓w_aug, ↓w_augS, ↓w_raise0, ↓w_raise1, ↓w_raise2, ↓w_try, ↓w_tryAs, ↓w_var, ↓w_c, ↓w_op, ↓w_chain, ↓w_notV, ↓w_andV, ↓w_orV, ↓w_ifE, ↓w_tst, ↓w_not, ↓w_and, ↓w_or, ↓w_yes, ↓w_nil, ↓w_cons, ↓w_tup, ↓w_lst, ↓w_lstT, ↓w_cb, ↓w_call, ↓w_callK, ↓w_neg, ↓w_no, ↓w_pt, ↓w_sl, ↓w_fld, ↓w_src, ↓w_rng, ↓w_enu, ↓w_listT, ↓w_app, ↓w_lc, ↓w_xf, ↓w_fldT, ↓w_make, ↓w_makeL, ↓w_run, ↓w_cut, ↓w_pure, ↓w_drop, nth2_eq, nth3_eq, w_ok, w_ex, w_nx, w_rt, w_bk, w_ct, w_exS, w_some, w_v, w_tr, w_fa, w_tb, w_ti, w_tn, w_L, w_L0, wb_not, cn_f, startD, arr, gN_eq, gTp, gCn, gNl, Option.bind_some, List.filterMap_cons, List.filterMap_nil, List.map_cons, List.map_nil, List.replicate_succ, List.replicate_zero, List.cons_append, List.nil_append, List.getElem?_cons_zero, List.getElem?_cons_succ, List.set_cons_zero, List.set_cons_succ, List.length_cons, List.length_nil, Nat.reduceAdd, Nat.reduceSub, Nat.reduceLeDiff, Nat.reduceEqDiff, Int.reducePow, Int.reduceToNat, Int.reduceNeg, Int.reduceAdd, Int.reduceMul, Int.reduceSub, Int.reduceLT, Int.reduceLE, Int.reduceEq, Nat.zero_add, Int.zero_add, big_eq, true_and, and_true, and_self, dSub_int, dAdd_int, dAddI_int, dLt_int, dLe_int, dGt_int, dGe_int, dEqD_int, bInt_int, bLen_lst, bLen_tup, bMin_int, bMax_int, bAbs_int, dIs_non, dIs_int, dIs_nn, Bool.not_true, Bool.not_false, decide_true, decide_false, reduceIte, Bool.false_eq_true, if_false, if_true, iSeq_lst, iSeq_tup, iSeq_rdl, iEnu_lst, iEnu_tup]
        exact ⟨by simp, (ret (by rw [pdef]; simp [h2])).symm⟩
    · simp (implicitDefEqProofs := false) only [fpur, ↓w_srtT, ↓w_par2, ↓w_par3, ↓w_setd, ↓w_dict1, ↓w_maxDf, ↓w_slT, ↓w_addT, ↓w_dictT, ↓w_dictI, ↓w_get, ↓w_lrg1T, ↓w_lrg2T, ↓w_lrg1, ↓w_lrg2, ↓w_pop0, ↓w_lcT, ↓w_mth, ↓w_calm, ↓w_tryM, ↓w_tm0, ↓w_tmN, ↓w_tmS, ↓w_seq, ↓w_next, ↓w_break, ↓w_cont, ↓w_retN, ↓w_asg, ↓w_expr, ↓w_ret, ↓w_if, ↓w_asgG, ↓w_for, ↓w_put, ↓w_aug, ↓w_augS, ↓w_raise0, ↓w_raise1, ↓w_raise2, ↓w_try, ↓w_tryAs, ↓w_var, ↓w_c, ↓w_op, ↓w_chain, ↓w_notV, ↓w_andV, ↓w_orV, ↓w_ifE, ↓w_tst, ↓w_not, ↓w_and, ↓w_or, ↓w_yes, ↓w_nil, ↓w_cons, ↓w_tup, ↓w_lst, ↓w_lstT, ↓w_cb, ↓w_call, ↓w_callK, ↓w_neg, ↓w_no, ↓w_pt, ↓w_sl, ↓w_fld, ↓w_src, ↓w_rng, ↓w_enu, ↓w_listT, ↓w_app, ↓w_lc, ↓w_xf, ↓w_fldT, ↓w_make, ↓w_makeL, ↓w_run, ↓w_cut, ↓w_pure, ↓w_drop, nth2_eq, nth3_eq, w_ok, w_ex, w_nx, w_rt, w_bk, w_ct, w_exS, w_some, w_v, w_tr, w_fa, w_tb, w_ti, w_tn, w_L, w_L0, wb_not, cn_f, startD, arr, gN_eq, gTp, gCn, gNl, Option.bind_some, List.filterMap_cons, List.filterMap_nil, List.map_cons, List.map_nil, List.replicate_succ, List.replicate_zero, List.cons_append, List.nil_append, List.getElem?_cons_zero, List.getElem?_cons_succ, List.set_cons_zero, List.set_cons_succ, List.length_cons, List.length_nil, Nat.reduceAdd, Nat.reduceSub, Nat.reduceLeDiff, Nat.reduceEqDiff, Int.reducePow, Int.reduceToNat, Int.reduceNeg, Int.reduceAdd, Int.reduceMul, Int.reduceSub, Int.reduceLT, Int.reduceLE, Int.reduceEq, Nat.zero_add, Int.zero_add, big_eq, true_and, and_true, and_self, dSub_int, dAdd_int, dAddI_int, dLt_int, dLe_int, dGt_int, dGe_int, dEqD_int, bInt_int, bLen_lst, bLen_tup, bMin_int, bMax_int, bAbs_int, dIs_non, dIs_int, dIs_nn, Bool.not_true, Bool.not_false, decide_true, decide_false, reduceIte, Bool.false_eq_true, if_false, if_true, iSeq_lst, iSeq_tup, iSeq_rdl, iEnu_lst, iEnu_tup]
      exact ⟨by simp, (ret (by rw [pdef]; simp [h1])).symm⟩
  rintro L s' ⟨y2, y3, y4, y5, rfl, rfl, hH⟩
  rw [List.length_range] at hH
  have eH := fst1_none.mpr hH
  simp (implicitDefEqProofs := false) only [hq.enu, pfx_refl, pfx_app, ↓w_srtT, ↓w_par2, ↓w_par3, ↓w_setd, ↓w_dict1, ↓w_maxDf, ↓w_slT, ↓w_addT, ↓w_dictT, ↓w_dictI, ↓w_get, ↓w_lrg1T, ↓w_lrg2T, ↓w_lrg1, ↓w_lrg2, ↓w_pop0, ↓w_lcT, ↓w_mth, ↓w_calm, ↓w_tryM, ↓w_tm0, ↓w_tmN, ↓w_tmS, ↓w_seq, ↓w_next, ↓w_break, ↓w_cont, ↓w_retN, ↓w_asg, ↓w_expr, ↓w_ret, ↓w_if, ↓w_asgG, ↓w_for, ↓w_put, ↓w_aug, ↓w_augS, ↓w_raise0, ↓w_raise1, ↓w_raise2, ↓w_try, ↓w_tryAs, ↓w_var, ↓w_c, ↓w_op, ↓w_chain, ↓w_notV, ↓w_andV, ↓w_orV, ↓w_ifE, ↓w_tst, ↓w_not, ↓w_and, ↓w_or, ↓w_yes, ↓w_nil, ↓w_cons, ↓w_tup, ↓w_lst, ↓w_lstT, ↓w_cb, ↓w_call, ↓w_callK, ↓w_neg, ↓w_no, ↓w_pt, ↓w_sl, ↓w_fld, ↓w_src, ↓w_rng, ↓w_enu, ↓w_listT, ↓w_app, ↓w_lc, ↓w_xf, ↓w_fldT, ↓w_make, ↓w_makeL, ↓w_run, ↓w_cut, ↓w_pure, ↓w_drop, nth2_eq, nth3_eq, w_ok, w_ex, w_nx, w_rt, w_bk, w_ct, w_exS, w_some, w_v, w_tr, w_fa, w_tb, w_ti, w_tn, w_L, w_L0, wb_not, cn_f, startD, arr, gN_eq, gTp, gCn, gNl, Option.bind_some, List.filterMap_cons, List.filterMap_nil, List.map_cons, List.map_nil, List.replicate_succ, List.replicate_zero, List.cons_append, List.nil_append, List.getElem?_cons_zero, List.getElem?_cons_succ, List.set_cons_zero, List.set_cons_succ, List.length_cons, List.length_nil, Nat.reduceAdd, Nat.reduceSub, Nat.reduceLeDiff, Nat.reduceEqDiff, Int.reducePow, Int.reduceToNat, Int.reduceNeg, Int.reduceAdd, Int.reduceMul, Int.reduceSub, Int.reduceLT, Int.reduceLE, Int.reduceEq, Nat.zero_add, Int.zero_add, big_eq, true_and, and_true, and_self, dSub_int, dAdd_int, dAddI_int, dLt_int, dLe_int, dGt_int, dGe_int, dEqD_int, bInt_int, bLen_lst, bLen_tup, bMin_int, bMax_int, bAbs_int, dIs_non, dIs_int, dIs_nn, Bool.not_true, Bool.not_false, decide_true, decide_false, reduceIte, Bool.false_eq_true, if_false, if_true, iSeq_lst, iSeq_tup, iSeq_rdl, iEnu_lst, iEnu_tup]
  rw [enu_rows]
  have eks : ∀ i, i < zs.length → ksR (zs.take (i + 1)) = ksR (zs.take i) ++ [.inl (rAt zs i).2.1] := fun i hi => by
    rw [List.take_succ, List.getElem?_eq_getElem hi, rAt_eq hi]
    unfold ksR
    rw [List.map_append]
    rfl
  have lks : ∀ i, i ≤ zs.length → (ksR (zs.take i)).length = i := fun i hi => by
    unfold ksR
    rw [List.length_map, List.length_take]
    omega
  refine ws_trk (xs := List.range zs.length) (f := fun i : Nat => D.tup [.int i, rwT (rAt zs i)]) (fun i L s' => ∃ y2 y3 y4 y5, L = [some (.int n), some sq, y2, y3, y4, y5, some (.ref s.length), none] ∧ s' = s ++ [.dk (ksR (zs.take i)) (List.replicate i (.bl true))] ∧ ∀ j, j < i → pAgain zs j = false) ⟨_, _, _, _, rfl, rfl, fun j h => by omega⟩ (fun i L s' h => by obtain ⟨_, _, _, _, _, rfl, _⟩ := h; exact hq.ck _ (pfx_app ..)) ?_ ?_
  · rintro i hi L s' ⟨y2, y3, y4, y5, rfl, rfl, hb⟩
    have hi' : i < zs.length := by simpa using hi
    rw [List.getElem_range]
    have li := lks i (by omega)
    have ein := dc_in (s := s) (ks := ksR (zs.take i)) (vs := List.replicate i (.bl true)) false (rAt zs i).2.1 (by rw [li, List.length_replicate])
    rw [ksR_has] at ein
    simp only [Bool.false_eq_true, if_false] at ein
    have epu := dc_put (s := s) (ks := ksR (zs.take i)) (vs := List.replicate i (.bl true)) (rAt zs i).2.1 (.bl true) (ksR_nd (by omega) hb) (by omega)
    have pdef : pAgain zs i = decide ((rAt zs i).2.1 ∈ rcs (zs.take i)) := rfl
    have ekI := eks i hi'
    have hnew : pAgain zs i = false → ptD (ksR (zs.take i)) (List.replicate i (.bl true)) (.inl (rAt zs i).2.1) (.bl true) = (ksR (zs.take (i + 1)), List.replicate (i + 1) (.bl true)) := fun hp => by
      rw [pt_new _ (by rw [li, List.length_replicate]) (fun hm => ?_), ekI, List.replicate_succ']
      have := hasK_iff.mpr hm
      rw [ksR_has, ← pdef, hp] at this
      cases this
    generalize rAt zs i = z at *
    obtain ⟨a, b, d⟩ := z
    unfold rwT
    dsimp only at *
    cases hp : pAgain zs i with
    | true =>
      rw [← pdef, hp] at ein
      simp (implicitDefEqProofs := false) only [ein, fpur, ↓w_srtT, ↓w_par2, ↓w_par3, ↓w_setd, ↓w_dict1, ↓w_maxDf, ↓w_slT, ↓w_addT, ↓w_dictT, ↓w_dictI, ↓w_get, ↓w_lrg1T, ↓w_lrg2T, ↓w_lrg1, ↓w_lrg2, ↓w_pop0, ↓w_lcT, ↓w_mth, ↓w_calm, ↓w_tryM, ↓w_tm0, ↓w_tmN, ↓w_tmS, ↓w_seq, ↓w_next, ↓w_break, ↓w_cont, ↓w_retN, ↓w_asg, ↓w_expr, ↓w_ret, ↓w_if, ↓w_asgG, ↓w_for, ↓w_put, ↓w_aug, ↓w_augS, ↓w_raise0, ↓w_raise1, ↓w_raise2, ↓w_try, ↓w_tryAs, ↓w_var, ↓w_c, ↓w_op, ↓w_chain, ↓w_notV, ↓w_andV, ↓w_orV, ↓w_ifE, ↓w_tst, ↓w_not, ↓w_and, ↓w_or, ↓w_yes, ↓w_nil, ↓w_cons, ↓w_tup, ↓w_lst, ↓w_lstT, ↓w_cb, ↓w_call, ↓w_callK, ↓w_neg, ↓w_no, ↓w_pt, ↓w_sl, ↓w_fld, ↓w_src, ↓w_rng, ↓w_enu, ↓w_listT, ↓w_app, ↓w_lc, ↓w_xf, ↓w_fldT, ↓w_make, ↓w_makeL, ↓w_run, ↓w_cut, ↓w_pure, ↓w_drop, nth2_eq, nth3_eq, w_ok, w_ex, w_nx, w_rt, w_bk, w_ct, w_exS, w_some, w_v, w_tr, w_fa, w_tb, w_ti, w_tn, w_L, w_L0, wb_not, cn_f, startD, arr, gN_eq, gTp, gCn, gNl, Option.bind_some, List.filterMap_cons, List.filterMap_nil, List.map_cons, List.map_nil, List.replicate_succ, List.replicate_zero, List.cons_append, List.nil_append, List.getElem?_cons_zero, List.getElem?_cons_succ, List.set_cons_zero, List.set_cons_succ, List.length_cons, List.length_nil, Nat.reduceAdd, Nat.reduceSub, Nat.reduceLeDiff, Nat.reduceEqDiff, Int.reducePow, Int.reduceToNat, Int.reduceNeg, Int.reduceAdd, Int.reduceMul, Int.reduceSub, Int.reduceLT, Int.reduceLE, Int.reduceEq, Nat.zero_add, Int.zero_add, big_eq, true_and, and_true, and_self, dSub_int, dAdd_int, dAddI_int, dLt_int, dLe_int, dGt_int, dGe_int, dEqD_int, bInt_int, bLen_lst, bLen_tup, bMin_int, bMax_int, bAbs_int, dIs_non, dIs_int, dIs_nn, Bool.not_true, Bool.not_false, decide_true, decide_false, reduceIte, Bool.false_eq_true, if_false, if_true, iSeq_lst, iSeq_tup, iSeq_rdl, iEnu_lst, iEnu_tup]
      refine ⟨by simp, ?_⟩
      unfold fltH
      rw [eH, fst1_some hp hb hi']
      rfl
    | false =>
      rw [← pdef, hp] at ein
      rw [hnew hp] at epu
      dsimp only at epu
      simp (implicitDefEqProofs := false) only [ein, epu, ↓w_srtT, ↓w_par2, ↓w_par3, ↓w_setd, ↓w_dict1, ↓w_maxDf, ↓w_slT, ↓w_addT, ↓w_dictT, ↓w_dictI, ↓w_get, ↓w_lrg1T, ↓w_lrg2T, ↓w_lrg1, ↓w_lrg2, ↓w_pop0, ↓w_lcT, ↓w_mth, ↓w_calm, ↓w_tryM, ↓w_tm0, ↓w_tmN, ↓w_tmS, ↓w_seq, ↓w_next, ↓w_break, ↓w_cont, ↓w_retN, ↓w_asg, ↓w_expr, ↓w_ret, ↓w_if, ↓w_asgG, ↓w_for, ↓w_put, ↓w_aug, ↓w_augS, ↓w_raise0, ↓w_raise1, ↓w_raise2, ↓w_try, ↓w_tryAs, ↓w_var, ↓w_c, ↓w_op, ↓w_chain, ↓w_notV, ↓w_andV, ↓w_orV, ↓w_ifE, ↓w_tst, ↓w_not, ↓w_and, ↓w_or, ↓w_yes, ↓w_nil, ↓w_cons, ↓w_tup, ↓w_lst, ↓w_lstT, ↓w_cb, ↓w_call, ↓w_callK, ↓w_neg, ↓w_no, ↓w_pt, ↓w_sl, ↓w_fld, ↓w_src, ↓w_rng, ↓w_enu, ↓w_listT, ↓w_app, ↓w_lc, ↓w_xf, ↓w_fldT, ↓w_make, ↓w_makeL, ↓w_run, ↓w_cut, ↓w_pure, ↓w_drop, nth2_eq, nth3_eq, w_ok, w_ex, w_nx, w_rt, w_bk, w_ct, w_exS, w_some, w_v, w_tr, w_fa, w_tb, w_ti, w_tn, w_L, w_L0, wb_not, cn_f, startD, arr, gN_eq, gTp, gCn, gNl, Option.bind_some, List.filterMap_cons, List.filterMap_nil, List.map_cons, List.map_nil, List.replicate_succ, List.replicate_zero, List.cons_append, List.nil_append, List.getElem?_cons_zero, List.getElem?_cons_succ, List.set_cons_zero, List.set_cons_succ, List.length_cons, List.length_nil, Nat.reduceAdd, Nat.reduceSub, Nat.reduceLeDiff, Nat.reduceEqDiff, Int.reducePow, Int.reduceToNat, Int.reduceNeg, Int.reduceAdd, Int.reduceMul, Int.reduceSub, Int.reduceLT, Int.reduceLE, Int.reduceEq, Nat.zero_add, Int.zero_add, big_eq, true_and, and_true, and_self, dSub_int, dAdd_int, dAddI_int, dLt_int, dLe_int, dGt_int, dGe_int, dEqD_int, bInt_int, bLen_lst, bLen_tup, bMin_int, bMax_int, bAbs_int, dIs_non, dIs_int, dIs_nn, Bool.not_true, Bool.not_false, decide_true, decide_false, reduceIte, Bool.false_eq_true, if_false, if_true, iSeq_lst, iSeq_tup, iSeq_rdl, iEnu_lst, iEnu_tup]
      exact ⟨_, _, _, _, rfl, fun j hj => by
        rcases Nat.lt_or_ge j i with z | z
        · exact hb j z
        · have : j = i := by omega
          subst this
          exact hp⟩
  rintro L s' ⟨y2, y3, y4, y5, rfl, rfl, hA⟩
  rw [List.length_range] at hA ⊢
  have eA := fst1_none.mpr hA
  rw [List.take_length]
  simp (implicitDefEqProofs := false) only [↓w_srtT, ↓w_par2, ↓w_par3, ↓w_setd, ↓w_dict1, ↓w_maxDf, ↓w_slT, ↓w_addT, ↓w_dictT, ↓w_dictI, ↓w_get, ↓w_lrg1T, ↓w_lrg2T, ↓w_lrg1, ↓w_lrg2, ↓w_pop0, ↓w_lcT, ↓w_mth, ↓w_calm, ↓w_tryM, ↓w_tm0, ↓w_tmN, ↓w_tmS, ↓w_seq, ↓w_next, ↓w_break, ↓w_cont, ↓w_retN, ↓w_asg, ↓w_expr, ↓w_ret, ↓w_if, ↓w_asgG, ↓w_for, ↓w_put, ↓w_aug, ↓w_augS, ↓w_raise0, ↓w_raise1, ↓w_raise2, ↓w_try, ↓w_tryAs, ↓w_var, ↓w_c, ↓w_op, ↓w_chain, ↓w_notV, ↓w_andV, ↓w_orV, ↓w_ifE, ↓w_tst, ↓w_not, ↓w_and, ↓w_or, ↓w_yes, ↓w_nil, ↓w_cons, ↓w_tup, ↓w_lst, ↓w_lstT, ↓w_cb, ↓w_call, ↓w_callK, ↓w_neg, ↓w_no, ↓w_pt, ↓w_sl, ↓w_fld, ↓w_src, ↓w_rng, ↓w_enu, ↓w_listT, ↓w_app, ↓w_lc, ↓w_xf, ↓w_fldT, ↓w_make, ↓w_makeL, ↓w_run, ↓w_cut, ↓w_pure, ↓w_drop, nth2_eq, nth3_eq, w_ok, w_ex, w_nx, w_rt, w_bk, w_ct, w_exS, w_some, w_v, w_tr, w_fa, w_tb, w_ti, w_tn, w_L, w_L0, wb_not, cn_f, startD, arr, gN_eq, gTp, gCn, gNl, Option.bind_some, List.filterMap_cons, List.filterMap_nil, List.map_cons, List.map_nil, List.replicate_succ, List.replicate_zero, List.cons_append, List.nil_append, List.getElem?_cons_zero, List.getElem?_cons_succ, List.set_cons_zero, List.set_cons_succ, List.length_cons, List.length_nil, Nat.reduceAdd, Nat.reduceSub, Nat.reduceLeDiff, Nat.reduceEqDiff, Int.reducePow, Int.reduceToNat, Int.reduceNeg, Int.reduceAdd, Int.reduceMul, Int.reduceSub, Int.reduceLT, Int.reduceLE, Int.reduceEq, Nat.zero_add, Int.zero_add, big_eq, true_and, and_true, and_self, dSub_int, dAdd_int, dAddI_int, dLt_int, dLe_int, dGt_int, dGe_int, dEqD_int, bInt_int, bLen_lst, bLen_tup, bMin_int, bMax_int, bAbs_int, dIs_non, dIs_int, dIs_nn, Bool.not_true, Bool.not_false, decide_true, decide_false, reduceIte, Bool.false_eq_true, if_false, if_true, iSeq_lst, iSeq_tup, iSeq_rdl, iEnu_lst, iEnu_tup]
  rw [rng2 (by decide) (by decide) (by omega) (by omega), w_some]
  have efl : fltH n zs = (fst1 (pNobody zs) (n - 1).toNat).map fun j => ("nobody", ((j + 1 : Nat) : Int)) := by
    unfold fltH
    rw [eH, eA]
  rw [efl]
  refine ws_rng (fun i L s' => ∃ y7, L = [some (.int n), some sq, y2, y3, y4, y5, some (.ref s.length), y7] ∧ s' = s ++ [.dk (ksR zs) (List.replicate zs.length (.bl true))] ∧ ∀ j, j < i → pNobody zs j = false) ⟨_, rfl, rfl, fun j h => by omega⟩ ?_ ?_
  · rintro i L s' hi ⟨y7, rfl, rfl, hb⟩
    have ein := dc_in (s := s) (ks := ksR zs) (vs := List.replicate zs.length (.bl true)) true (1 + (i : Int)) (by unfold ksR; simp)
    rw [ksR_has] at ein
    simp only [if_true] at ein
    have pdef : pNobody zs i = !decide ((1 + (i : Int)) ∈ rcs zs) := by
      unfold pNobody
      rw [show ((i + 1 : Nat) : Int) = 1 + (i : Int) by omega]
    rw [← pdef] at ein
    cases hp : pNobody zs i with
    | true =>
      rw [hp] at ein
      simp (implicitDefEqProofs := false) only [ein, fpur, ↓w_srtT, ↓w_par2, ↓w_par3, ↓w_setd, ↓w_dict1, ↓w_maxDf, ↓w_slT, ↓w_addT, ↓w_dictT, ↓w_dictI, ↓w_get, ↓w_lrg1T, ↓w_lrg2T, ↓w_lrg1, ↓w_lrg2, ↓w_pop0, ↓w_lcT, ↓w_mth, ↓w_calm, ↓w_tryM, ↓w_tm0, ↓w_tmN, ↓w_tmS, ↓w_seq, ↓w_next, ↓w_break, ↓w_cont, ↓w_retN, ↓w_asg, ↓w_expr, ↓w_ret, ↓w_if, ↓w_asgG, ↓w_for, ↓w_put, ↓w_aug, ↓w_augS, ↓w_raise0, ↓w_raise1, ↓w_raise2, ↓w_try, ↓w_tryAs, ↓w_var, ↓w_c, ↓w_op, ↓w_chain, ↓w_notV, ↓w_andV, ↓w_orV, ↓w_ifE, ↓w_tst, ↓w_not, ↓w_and, ↓w_or, ↓w_yes, ↓w_nil, ↓w_cons, ↓w_tup, ↓w_lst, ↓w_lstT, ↓w_cb, ↓w_call, ↓w_callK, ↓w_neg, ↓w_no, ↓w_pt, ↓w_sl, ↓w_fld, ↓w_src, ↓w_rng, ↓w_enu, ↓w_listT, ↓w_app, ↓w_lc, ↓w_xf, ↓w_fldT, ↓w_make, ↓w_makeL, ↓w_run, ↓w_cut, ↓w_pure, ↓w_drop, nth2_eq, nth3_eq, w_ok, w_ex, w_nx, w_rt, w_bk, w_ct, w_exS, w_some, w_v, w_tr, w_fa, w_tb, w_ti, w_tn, w_L, w_L0, wb_not, cn_f, startD, arr, gN_eq, gTp, gCn, gNl, Option.bind_some, List.filterMap_cons, List.filterMap_nil, List.map_cons, List.map_nil, List.replicate_succ, List.replicate_zero, List.cons_append, List.nil_append, List.getElem?_cons_zero, List.getElem?_cons_succ, List.set_cons_zero, List.set_cons_succ, List.length_cons, List.length_nil, Nat.reduceAdd, Nat.reduceSub, Nat.reduceLeDiff, Nat.reduceEqDiff, Int.reducePow, Int.reduceToNat, Int.reduceNeg, Int.reduceAdd, Int.reduceMul, Int.reduceSub, Int.reduceLT, Int.reduceLE, Int.reduceEq, Nat.zero_add, Int.zero_add, big_eq, true_and, and_true, and_self, dSub_int, dAdd_int, dAddI_int, dLt_int, dLe_int, dGt_int, dGe_int, dEqD_int, bInt_int, bLen_lst, bLen_tup, bMin_int, bMax_int, bAbs_int, dIs_non, dIs_int, dIs_nn, Bool.not_true, Bool.not_false, decide_true, decide_false, reduceIte, Bool.false_eq_true, if_false, if_true, iSeq_lst, iSeq_tup, iSeq_rdl, iEnu_lst, iEnu_tup]
      refine ⟨by simp, ?_⟩
      rw [fst1_some hp hb hi]
      show _ = D.tup [.str "nobody", .int ((i + 1 : Nat) : Int)]
      rw [show ((i + 1 : Nat) : Int) = 1 + (i : Int) by omega]
    | false =>
      rw [hp] at ein
      simp (implicitDefEqProofs := false) only [ein, ↓w_srtT, ↓w_par2, ↓w_par3, ↓w_setd, ↓w_dict1, ↓w_maxDf, ↓w_slT, ↓w_addT, ↓w_dictT, ↓w_dictI, ↓w_get, ↓w_lrg1T, ↓w_lrg2T, ↓w_lrg1, ↓w_lrg2, ↓w_pop0, ↓w_lcT, ↓w_mth, ↓w_calm, ↓w_tryM, ↓w_tm0, ↓w_tmN, ↓w_tmS, ↓w_seq, ↓w_next, ↓w_break, ↓w_cont, ↓w_retN, ↓w_asg, ↓w_expr, ↓w_ret, ↓w_if, ↓w_asgG, ↓w_for, ↓w_put, ↓w_aug, ↓w_augS, ↓w_raise0, ↓w_raise1, ↓w_raise2, ↓w_try, ↓w_tryAs, ↓w_var, ↓w_c, ↓w_op, ↓w_chain, ↓w_notV, ↓w_andV, ↓w_orV, ↓w_ifE, ↓w_tst, ↓w_not, ↓w_and, ↓w_or, ↓w_yes, ↓w_nil, ↓w_cons, ↓w_tup, ↓w_lst, ↓w_lstT, ↓w_cb, ↓w_call, ↓w_callK, ↓w_neg, ↓w_no, ↓w_pt, ↓w_sl, ↓w_fld, ↓w_src, ↓w_rng, ↓w_enu, ↓w_listT, ↓w_app, ↓w_lc, ↓w_xf, ↓w_fldT, ↓w_make, ↓w_makeL, ↓w_run, ↓w_cut, ↓w_pure, ↓w_drop, nth2_eq, nth3_eq, w_ok, w_ex, w_nx, w_rt, w_bk, w_ct, w_exS, w_some, w_v, w_tr, w_fa, w_tb, w_ti, w_tn, w_L, w_L0, wb_not, cn_f, startD, arr, gN_eq, gTp, gCn, gNl, Option.bind_some, List.filterMap_cons, List.filterMap_nil, List.map_cons, List.map_nil, List.replicate_succ, List.replicate_zero, List.cons_append, List.nil_append, List.getElem?_cons_zero, List.getElem?_cons_succ, List.set_cons_zero, List.set_cons_succ, List.length_cons, List.length_nil, Nat.reduceAdd, Nat.reduceSub, Nat.reduceLeDiff, Nat.reduceEqDiff, Int.reducePow, Int.reduceToNat, Int.reduceNeg, Int.reduceAdd, Int.reduceMul, Int.reduceSub, Int.reduceLT, Int.reduceLE, Int.reduceEq, Nat.zero_add, Int.zero_add, big_eq, true_and, and_true, and_self, dSub_int, dAdd_int, dAddI_int, dLt_int, dLe_int, dGt_int, dGe_int, dEqD_int, bInt_int, bLen_lst, bLen_tup, bMin_int, bMax_int, bAbs_int, dIs_non, dIs_int, dIs_nn, Bool.not_true, Bool.not_false, decide_true, decide_false, reduceIte, Bool.false_eq_true, if_false, if_true, iSeq_lst, iSeq_tup, iSeq_rdl, iEnu_lst, iEnu_tup]
      exact ⟨_, rfl, fun j hj => by
        rcases Nat.lt_or_ge j i with z | z
        · exact hb j z
        · have : j = i := by omega
          subst this
          exact hp⟩
  · rintro L s' ⟨y7, rfl, rfl, hb⟩
    simp (implicitDefEqProofs := false) only [show ∀ m s', fin2 m s' .non = some .non from fun _ _ => rfl, ↓w_srtT, ↓w_par2, ↓w_par3, ↓w_setd, ↓w_dict1, ↓w_maxDf, ↓w_slT, ↓w_addT, ↓w_dictT, ↓w_dictI, ↓w_get, ↓w_lrg1T, ↓w_lrg2T, ↓w_lrg1, ↓w_lrg2, ↓w_pop0, ↓w_lcT, ↓w_mth, ↓w_calm, ↓w_tryM, ↓w_tm0, ↓w_tmN, ↓w_tmS, ↓w_seq, ↓w_next, ↓w_break, ↓w_cont, ↓w_retN, ↓w_asg, ↓w_expr, ↓w_ret, ↓w_if, ↓w_asgG, ↓w_for, ↓w_put, ↓w_aug, ↓w_augS, ↓w_raise0, ↓w_raise1, ↓w_raise2, ↓w_try, ↓w_tryAs, ↓w_var, ↓w_c, ↓w_op, ↓w_chain, ↓w_notV, ↓w_andV, ↓w_orV, ↓w_ifE, ↓w_tst, ↓w_not, ↓w_and, ↓w_or, ↓w_yes, ↓w_nil, ↓w_cons, ↓w_tup, ↓w_lst, ↓w_lstT, ↓w_cb, ↓w_call, ↓w_callK, ↓w_neg, ↓w_no, ↓w_pt, ↓w_sl, ↓w_fld, ↓w_src, ↓w_rng, ↓w_enu, ↓w_listT, ↓w_app, ↓w_lc, ↓w_xf, ↓w_fldT, ↓w_make, ↓w_makeL, ↓w_run, ↓w_cut, ↓w_pure, ↓w_drop, nth2_eq, nth3_eq, w_ok, w_ex, w_nx, w_rt, w_bk, w_ct, w_exS, w_some, w_v, w_tr, w_fa, w_tb, w_ti, w_tn, w_L, w_L0, wb_not, cn_f, startD, arr, gN_eq, gTp, gCn, gNl, Option.bind_some, List.filterMap_cons, List.filterMap_nil, List.map_cons, List.map_nil, List.replicate_succ, List.replicate_zero, List.cons_append, List.nil_append, List.getElem?_cons_zero, List.getElem?_cons_succ, List.set_cons_zero, List.set_cons_succ, List.length_cons, List.length_nil, Nat.reduceAdd, Nat.reduceSub, Nat.reduceLeDiff, Nat.reduceEqDiff, Int.reducePow, Int.reduceToNat, Int.reduceNeg, Int.reduceAdd, Int.reduceMul, Int.reduceSub, Int.reduceLT, Int.reduceLE, Int.reduceEq, Nat.zero_add, Int.zero_add, big_eq, true_and, and_true, and_self, dSub_int, dAdd_int, dAddI_int, dLt_int, dLe_int, dGt_int, dGe_int, dEqD_int, bInt_int, bLen_lst, bLen_tup, bMin_int, bMax_int, bAbs_int, dIs_non, dIs_int, dIs_nn, Bool.not_true, Bool.not_false, decide_true, decide_false, reduceIte, Bool.false_eq_true, if_false, if_true, iSeq_lst, iSeq_tup, iSeq_rdl, iEnu_lst, iEnu_tup]
    refine ⟨by simp, ?_⟩
    rw [fst1_none.mpr hb]
    rfl
end Pg

/-! faults of the times of plans -/
namespace Pg
open PySem L2 SI Mt
variable {c : Cl} {M : Mc}
def pEarly (l : Int) (zs : List Rw) (i : Nat) : Bool := match knw l zs (rAt zs i).1 with
  | some t => decide ((rAt zs i).2.2 < t)
  | none => false
def pGapB (g : Int) (z b : Rw) : Bool := decide (b.1 = z.1) && decide (((b.2.2 - z.2.2).natAbs : Int) < g)
def pGap (g : Int) (zs : List Rw) (i : Nat) : Bool := (zs.take i).any (pGapB g (rAt zs i))
def fltT (l g : Int) (zs : List Rw) : Option (String × Int) := match fst1 (pEarly l zs) zs.length with
  | some i => some ("early", i)
  | none => (fst1 (pGap g zs) zs.length).map fun (i : Nat) => ("gap", (i : Int))
theorem tk_s {zs : List Rw} {i : Nat} (h : i < zs.length) : zs.take (i + 1) = zs.take i ++ [rAt zs i] := by
  rw [List.take_succ, List.getElem?_eq_getElem h, rAt_eq h]
  rfl
theorem times_fault_q {zs : List Rw} (hl : zs.length ≤ 400) (hk : ∀ i, i < zs.length → (knw M.letter zs (rAt zs i).1).isSome = true) {s : S} {sq : D} {rr : Option (Nat × List D)} (hq : Sq s sq (zs.map rwT) rr) : G_times_fault c [M.d c, sq] s = .ok (fltD (fltT M.letter M.gap zs)) s := by
  have fpur : ∀ (m : Nat) (s' : S) (w : String) (i : Int), fin2 m s' (.tup [.str w, .int i]) = some (.tup [.str w, .int i]) := fun m s' w i => fin2_pur (pur_tup fun y hy => by
    simp only [List.mem_cons, List.not_mem_nil, or_false] at hy
    rcases hy with rfl | rfl <;> exact fun _ => rfl)
  apply eq_ok
  unfold G_times_fault
  simp (implicitDefEqProofs := false) only [hq.src, pfx_refl, pfx_app, ↓w_srtT, ↓w_par2, ↓w_par3, ↓w_setd, ↓w_dict1, ↓w_maxDf, ↓w_slT, ↓w_addT, ↓w_dictT, ↓w_dictI, ↓w_get, ↓w_lrg1T, ↓w_lrg2T, ↓w_lrg1, ↓w_lrg2, ↓w_pop0, ↓w_lcT, ↓w_mth, ↓w_calm, ↓w_tryM, ↓w_tm0, ↓w_tmN, ↓w_tmS, ↓w_seq, ↓w_next, ↓w_break, ↓w_cont, ↓w_retN, ↓w_asg, ↓w_expr, ↓w_ret, ↓w_if, ↓w_asgG, ↓w_for, ↓w_put, ↓w_aug, ↓w_augS, ↓w_raise0, ↓w_raise1, ↓w_raise2, ↓w_try, ↓w_tryAs, ↓w_var, ↓w_c, ↓w_op, ↓w_chain, ↓w_notV, ↓w_andV, ↓w_orV, ↓w_ifE, ↓w_tst, ↓w_not, ↓w_and, ↓w_or, ↓w_yes, ↓w_nil, ↓w_cons, ↓w_tup, ↓w_lst, ↓w_lstT, ↓w_cb, ↓w_call, ↓w_callK, ↓w_neg, ↓w_no, ↓w_pt, ↓w_sl, ↓w_fld, ↓w_src, ↓w_rng, ↓w_enu, ↓w_listT, ↓w_app, ↓w_lc, ↓w_xf, ↓w_fldT, ↓w_make, ↓w_makeL, ↓w_run, ↓w_cut, ↓w_pure, ↓w_drop, nth2_eq, nth3_eq, w_ok, w_ex, w_nx, w_rt, w_bk, w_ct, w_exS, w_some, w_v, w_tr, w_fa, w_tb, w_ti, w_tn, w_L, w_L0, wb_not, cn_f, startD, arr, gN_eq, gTp, gCn, gNl, Option.bind_some, List.filterMap_cons, List.filterMap_nil, List.map_cons, List.map_nil, List.replicate_succ, List.replicate_zero, List.cons_append, List.nil_append, List.getElem?_cons_zero, List.getElem?_cons_succ, List.set_cons_zero, List.set_cons_succ, List.length_cons, List.length_nil, Nat.reduceAdd, Nat.reduceSub, Nat.reduceLeDiff, Nat.reduceEqDiff, Int.reducePow, Int.reduceToNat, Int.reduceNeg, Int.reduceAdd, Int.reduceMul, Int.reduceSub, Int.reduceLT, Int.reduceLE, Int.reduceEq, Nat.zero_add, Int.zero_add, big_eq, true_and, and_true, and_self, dSub_int, dAdd_int, dAddI_int, dLt_int, dLe_int, dGt_int, dGe_int, dEqD_int, bInt_int, bLen_lst, bLen_tup, bMin_int, bMax_int, bAbs_int, dIs_non, dIs_int, dIs_nn, Bool.not_true, Bool.not_false, decide_true, decide_false, reduceIte, Bool.false_eq_true, if_false, if_true, iSeq_lst, iSeq_tup, iSeq_rdl, iEnu_lst, iEnu_tup]
  refine ws_trk (xs := zs) (f := rwT) (fun i L s' => ∃ y3 y4 y5 ks vs, L = [some (M.d c), some sq, some (.ref s.length), y3, y4, y5, none, none] ∧ s' = s ++ [.dk ks vs] ∧ ks.length = vs.length ∧ ks.Nodup ∧ ks.length ≤ i + 1 ∧ ∀ h, lkD ks vs (.inl h) = (knw M.letter (zs.take i) h).map D.int) ⟨_, _, _, _, _, rfl, rfl, rfl, by simp, by simp, fun h => ?_⟩ (fun i L s' h => by obtain ⟨_, _, _, _, _, _, rfl, _⟩ := h; exact hq.ck _ (pfx_app ..)) ?_ ?_
  · by_cases e : h = 0
    · subst e
      rfl
    · simp [lkD, knw, e, Ne.symm e]
  · rintro i hi L s' ⟨y3, y4, y5, ks, vs, rfl, rfl, h1, h2, h3, h4⟩
    have e := tk_s hi
    rw [rAt_eq hi] at e
    rw [e]
    generalize zs[i] = z at *
    obtain ⟨a, b, d⟩ := z
    unfold rwT
    dsimp only
    have epu := dc_put (s := s) (vs := vs) b (.int (d + M.letter)) h2 (by omega)
    simp (implicitDefEqProofs := false) only [fld_letter, epu, ↓w_srtT, ↓w_par2, ↓w_par3, ↓w_setd, ↓w_dict1, ↓w_maxDf, ↓w_slT, ↓w_addT, ↓w_dictT, ↓w_dictI, ↓w_get, ↓w_lrg1T, ↓w_lrg2T, ↓w_lrg1, ↓w_lrg2, ↓w_pop0, ↓w_lcT, ↓w_mth, ↓w_calm, ↓w_tryM, ↓w_tm0, ↓w_tmN, ↓w_tmS, ↓w_seq, ↓w_next, ↓w_break, ↓w_cont, ↓w_retN, ↓w_asg, ↓w_expr, ↓w_ret, ↓w_if, ↓w_asgG, ↓w_for, ↓w_put, ↓w_aug, ↓w_augS, ↓w_raise0, ↓w_raise1, ↓w_raise2, ↓w_try, ↓w_tryAs, ↓w_var, ↓w_c, ↓w_op, ↓w_chain, ↓w_notV, ↓w_andV, ↓w_orV, ↓w_ifE, ↓w_tst, ↓w_not, ↓w_and, ↓w_or, ↓w_yes, ↓w_nil, ↓w_cons, ↓w_tup, ↓w_lst, ↓w_lstT, ↓w_cb, ↓w_call, ↓w_callK, ↓w_neg, ↓w_no, ↓w_pt, ↓w_sl, ↓w_fld, ↓w_src, ↓w_rng, ↓w_enu, ↓w_listT, ↓w_app, ↓w_lc, ↓w_xf, ↓w_fldT, ↓w_make, ↓w_makeL, ↓w_run, ↓w_cut, ↓w_pure, ↓w_drop, nth2_eq, nth3_eq, w_ok, w_ex, w_nx, w_rt, w_bk, w_ct, w_exS, w_some, w_v, w_tr, w_fa, w_tb, w_ti, w_tn, w_L, w_L0, wb_not, cn_f, startD, arr, gN_eq, gTp, gCn, gNl, Option.bind_some, List.filterMap_cons, List.filterMap_nil, List.map_cons, List.map_nil, List.replicate_succ, List.replicate_zero, List.cons_append, List.nil_append, List.getElem?_cons_zero, List.getElem?_cons_succ, List.set_cons_zero, List.set_cons_succ, List.length_cons, List.length_nil, Nat.reduceAdd, Nat.reduceSub, Nat.reduceLeDiff, Nat.reduceEqDiff, Int.reducePow, Int.reduceToNat, Int.reduceNeg, Int.reduceAdd, Int.reduceMul, Int.reduceSub, Int.reduceLT, Int.reduceLE, Int.reduceEq, Nat.zero_add, Int.zero_add, big_eq, true_and, and_true, and_self, dSub_int, dAdd_int, dAddI_int, dLt_int, dLe_int, dGt_int, dGe_int, dEqD_int, bInt_int, bLen_lst, bLen_tup, bMin_int, bMax_int, bAbs_int, dIs_non, dIs_int, dIs_nn, Bool.not_true, Bool.not_false, decide_true, decide_false, reduceIte, Bool.false_eq_true, if_false, if_true, iSeq_lst, iSeq_tup, iSeq_rdl, iEnu_lst, iEnu_tup]
    have hp := pt_len (Sum.inl b) (D.int (d + M.letter)) h1
    refine ⟨_, _, _, _, _, rfl, rfl, hp.1, pt_nd _ h1 h2, by omega, fun h => ?_⟩
    rw [lk_pt _ h1, h4, knw_s]
    by_cases eb : b = h
    · subst eb
      simp
    · rw [if_neg (by simpa using eb), if_neg eb]
  rintro L s' ⟨y3, y4, y5, ks, vs, rfl, rfl, h1, h2, h3, h4⟩
  rw [List.take_length] at h4
  simp (implicitDefEqProofs := false) only [hq.enu, pfx_refl, pfx_app, ↓w_srtT, ↓w_par2, ↓w_par3, ↓w_setd, ↓w_dict1, ↓w_maxDf, ↓w_slT, ↓w_addT, ↓w_dictT, ↓w_dictI, ↓w_get, ↓w_lrg1T, ↓w_lrg2T, ↓w_lrg1, ↓w_lrg2, ↓w_pop0, ↓w_lcT, ↓w_mth, ↓w_calm, ↓w_tryM, ↓w_tm0, ↓w_tmN, ↓w_tmS, ↓w_seq, ↓w_next, ↓w_break, ↓w_cont, ↓w_retN, ↓w_asg, ↓w_expr, ↓w_ret, ↓w_if, ↓w_asgG, ↓w_for, ↓w_put, ↓w_aug, ↓w_augS, ↓w_raise0, ↓w_raise1, ↓w_raise2, ↓w_try, ↓w_tryAs, ↓w_var, ↓w_c, ↓w_op, ↓w_chain, ↓w_notV, ↓w_andV, ↓w_orV, ↓w_ifE, ↓w_tst, ↓w_not, ↓w_and, ↓w_or, ↓w_yes, ↓w_nil, ↓w_cons, ↓w_tup, ↓w_lst, ↓w_lstT, ↓w_cb, ↓w_call, ↓w_callK, ↓w_neg, ↓w_no, ↓w_pt, ↓w_sl, ↓w_fld, ↓w_src, ↓w_rng, ↓w_enu, ↓w_listT, ↓w_app, ↓w_lc, ↓w_xf, ↓w_fldT, ↓w_make, ↓w_makeL, ↓w_run, ↓w_cut, ↓w_pure, ↓w_drop, nth2_eq, nth3_eq, w_ok, w_ex, w_nx, w_rt, w_bk, w_ct, w_exS, w_some, w_v, w_tr, w_fa, w_tb, w_ti, w_tn, w_L, w_L0, wb_not, cn_f, startD, arr, gN_eq, gTp, gCn, gNl, Option.bind_some, List.filterMap_cons, List.filterMap_nil, List.map_cons, List.map_nil, List.replicate_succ, List.replicate_zero, List.cons_append, List.nil_append, List.getElem?_cons_zero, List.getElem?_cons_succ, List.set_cons_zero, List.set_cons_succ, List.length_cons, List.length_nil, Nat.reduceAdd, Nat.reduceSub, Nat.reduceLeDiff, Nat.reduceEqDiff, Int.reducePow, Int.reduceToNat, Int.reduceNeg, Int.reduceAdd, Int.reduceMul, Int.reduceSub, Int.reduceLT, Int.reduceLE, Int.reduceEq, Nat.zero_add, Int.zero_add, big_eq, true_and, and_true, and_self, dSub_int, dAdd_int, dAddI_int, dLt_int, dLe_int, dGt_int, dGe_int, dEqD_int, bInt_int, bLen_lst, bLen_tup, bMin_int, bMax_int, bAbs_int, dIs_non, dIs_int, dIs_nn, Bool.not_true, Bool.not_false, decide_true, decide_false, reduceIte, Bool.false_eq_true, if_false, if_true, iSeq_lst, iSeq_tup, iSeq_rdl, iEnu_lst, iEnu_tup]
  rw [enu_rows]
  refine ws_trk (xs := List.range zs.length) (f := fun i : Nat => D.tup [.int i, rwT (rAt zs i)]) (fun i L s' => ∃ y3 y4 y5 y6, L = [some (M.d c), some sq, some (.ref s.length), y3, y4, y5, y6, none] ∧ s' = s ++ [.dk ks vs] ∧ ∀ j, j < i → pEarly M.letter zs j = false) ⟨_, _, _, _, rfl, rfl, fun j h => by omega⟩ (fun i L s' h => by obtain ⟨_, _, _, _, _, rfl, _⟩ := h; exact hq.ck _ (pfx_app ..)) ?_ ?_
  · rintro i hi L s' ⟨y3, y4, y5, y6, rfl, rfl, hb⟩
    have hi' : i < zs.length := by simpa using hi
    rw [List.getElem_range]
    have eix := dc_ix (s := s) (ks := ks) (vs := vs) (rAt zs i).1
    rw [h4] at eix
    have pdef : pEarly M.letter zs i = match knw M.letter zs (rAt zs i).1 with
      | some t => decide ((rAt zs i).2.2 < t)
      | none => false := rfl
    have hki := hk i hi'
    generalize rAt zs i = z at *
    obtain ⟨a, b, d⟩ := z
    unfold rwT
    dsimp only at *
    cases ek : knw M.letter zs a with
    | none =>
      rw [ek] at hki
      cases hki
    | some t =>
      rw [ek] at eix pdef
      dsimp only [Option.map_some] at eix pdef
      simp (implicitDefEqProofs := false) only [eix, ↓w_srtT, ↓w_par2, ↓w_par3, ↓w_setd, ↓w_dict1, ↓w_maxDf, ↓w_slT, ↓w_addT, ↓w_dictT, ↓w_dictI, ↓w_get, ↓w_lrg1T, ↓w_lrg2T, ↓w_lrg1, ↓w_lrg2, ↓w_pop0, ↓w_lcT, ↓w_mth, ↓w_calm, ↓w_tryM, ↓w_tm0, ↓w_tmN, ↓w_tmS, ↓w_seq, ↓w_next, ↓w_break, ↓w_cont, ↓w_retN, ↓w_asg, ↓w_expr, ↓w_ret, ↓w_if, ↓w_asgG, ↓w_for, ↓w_put, ↓w_aug, ↓w_augS, ↓w_raise0, ↓w_raise1, ↓w_raise2, ↓w_try, ↓w_tryAs, ↓w_var, ↓w_c, ↓w_op, ↓w_chain, ↓w_notV, ↓w_andV, ↓w_orV, ↓w_ifE, ↓w_tst, ↓w_not, ↓w_and, ↓w_or, ↓w_yes, ↓w_nil, ↓w_cons, ↓w_tup, ↓w_lst, ↓w_lstT, ↓w_cb, ↓w_call, ↓w_callK, ↓w_neg, ↓w_no, ↓w_pt, ↓w_sl, ↓w_fld, ↓w_src, ↓w_rng, ↓w_enu, ↓w_listT, ↓w_app, ↓w_lc, ↓w_xf, ↓w_fldT, ↓w_make, ↓w_makeL, ↓w_run, ↓w_cut, ↓w_pure, ↓w_drop, nth2_eq, nth3_eq, w_ok, w_ex, w_nx, w_rt, w_bk, w_ct, w_exS, w_some, w_v, w_tr, w_fa, w_tb, w_ti, w_tn, w_L, w_L0, wb_not, cn_f, startD, arr, gN_eq, gTp, gCn, gNl, Option.bind_some, List.filterMap_cons, List.filterMap_nil, List.map_cons, List.map_nil, List.replicate_succ, List.replicate_zero, List.cons_append, List.nil_append, List.getElem?_cons_zero, List.getElem?_cons_succ, List.set_cons_zero, List.set_cons_succ, List.length_cons, List.length_nil, Nat.reduceAdd, Nat.reduceSub, Nat.reduceLeDiff, Nat.reduceEqDiff, Int.reducePow, Int.reduceToNat, Int.reduceNeg, Int.reduceAdd, Int.reduceMul, Int.reduceSub, Int.reduceLT, Int.reduceLE, Int.reduceEq, Nat.zero_add, Int.zero_add, big_eq, true_and, and_true, and_self, dSub_int, dAdd_int, dAddI_int, dLt_int, dLe_int, dGt_int, dGe_int, dEqD_int, bInt_int, bLen_lst, bLen_tup, bMin_int, bMax_int, bAbs_int, dIs_non, dIs_int, dIs_nn, Bool.not_true, Bool.not_false, decide_true, decide_false, reduceIte, Bool.false_eq_true, if_false, if_true, iSeq_lst, iSeq_tup, iSeq_rdl, iEnu_lst, iEnu_tup]
      refine wb_dec (fun h5 => ?_) (fun h5 => ?_)
      · simp (implicitDefEqProofs := false) only [fpur, ↓w_srtT, ↓w_par2, ↓w_par3, ↓w_setd, ↓w_dict1, ↓w_maxDf, ↓w_slT, ↓w_addT, ↓w_dictT, ↓w_dictI, ↓w_get, ↓w_lrg1T, ↓w_lrg2T, ↓w_lrg1, ↓w_lrg2, ↓w_pop0, ↓w_lcT, ↓w_mth, ↓w_calm, ↓w_tryM, ↓w_tm0, ↓w_tmN, ↓w_tmS, ↓w_seq, ↓w_next, ↓w_break, ↓w_cont, ↓w_retN, ↓w_asg, ↓w_expr, ↓w_ret, ↓w_if, ↓w_asgG, ↓w_for, ↓w_put, ↓w_aug, ↓w_augS, ↓w_raise0, ↓w_raise1, ↓w_raise2, ↓w_try, ↓w_tryAs, ↓w_var, ↓w_c, ↓w_op, ↓w_chain, ↓w_notV, ↓w_andV, ↓w_orV, ↓w_ifE, ↓w_tst, ↓w_not, ↓w_and, ↓w_or, ↓w_yes, ↓w_nil, ↓w_cons, ↓w_tup, ↓w_lst, ↓w_lstT, ↓w_cb, ↓w_call, ↓w_callK, ↓w_neg, ↓w_no, ↓w_pt, ↓w_sl, ↓w_fld, ↓w_src, ↓w_rng, ↓w_enu, ↓w_listT, ↓w_app, ↓w_lc, ↓w_xf, ↓w_fldT, ↓w_make, ↓w_makeL, ↓w_run, ↓w_cut, ↓w_pure, ↓w_drop, nth2_eq, nth3_eq, w_ok, w_ex, w_nx, w_rt, w_bk, w_ct, w_exS, w_some, w_v, w_tr, w_fa, w_tb, w_ti, w_tn, w_L, w_L0, wb_not, cn_f, startD, arr, gN_eq, gTp, gCn, gNl, Option.bind_some, List.filterMap_cons, List.filterMap_nil, List.map_cons, List.map_nil, List.replicate_succ, List.replicate_zero, List.cons_append, List.nil_append, List.getElem?_cons_zero, List.getElem?_cons_succ, List.set_cons_zero, List.set_cons_succ, List.length_cons, List.length_nil, Nat.reduceAdd, Nat.reduceSub, Nat.reduceLeDiff, Nat.reduceEqDiff, Int.reducePow, Int.reduceToNat, Int.reduceNeg, Int.reduceAdd, Int.reduceMul, Int.reduceSub, Int.reduceLT, Int.reduceLE, Int.reduceEq, Nat.zero_add, Int.zero_add, big_eq, true_and, and_true, and_self, dSub_int, dAdd_int, dAddI_int, dLt_int, dLe_int, dGt_int, dGe_int, dEqD_int, bInt_int, bLen_lst, bLen_tup, bMin_int, bMax_int, bAbs_int, dIs_non, dIs_int, dIs_nn, Bool.not_true, Bool.not_false, decide_true, decide_false, reduceIte, Bool.false_eq_true, if_false, if_true, iSeq_lst, iSeq_tup, iSeq_rdl, iEnu_lst, iEnu_tup]
        refine ⟨by simp, ?_⟩
        unfold fltT
        rw [fst1_some (by rw [pdef]; exact decide_eq_true h5) hb hi']
        rfl
      · simp (implicitDefEqProofs := false) only [↓w_srtT, ↓w_par2, ↓w_par3, ↓w_setd, ↓w_dict1, ↓w_maxDf, ↓w_slT, ↓w_addT, ↓w_dictT, ↓w_dictI, ↓w_get, ↓w_lrg1T, ↓w_lrg2T, ↓w_lrg1, ↓w_lrg2, ↓w_pop0, ↓w_lcT, ↓w_mth, ↓w_calm, ↓w_tryM, ↓w_tm0, ↓w_tmN, ↓w_tmS, ↓w_seq, ↓w_next, ↓w_break, ↓w_cont, ↓w_retN, ↓w_asg, ↓w_expr, ↓w_ret, ↓w_if, ↓w_asgG, ↓w_for, ↓w_put, ↓w_aug, ↓w_augS, ↓w_raise0, ↓w_raise1, ↓w_raise2, ↓w_try, ↓w_tryAs, ↓w_var, ↓w_c, ↓w_op, ↓w_chain, ↓w_notV, ↓w_andV, ↓w_orV, ↓w_ifE, ↓w_tst, ↓w_not, ↓w_and, ↓w_or, ↓w_yes, ↓w_nil, ↓w_cons, ↓w_tup, ↓w_lst, ↓w_lstT, ↓w_cb, ↓w_call, ↓w_callK, ↓w_neg, ↓w_no, ↓w_pt, ↓w_sl, ↓w_fld, ↓w_src, ↓w_rng, ↓w_enu, ↓w_listT, ↓w_app, ↓w_lc, ↓w_xf, ↓w_fldT, ↓w_make, ↓w_makeL, ↓w_run, ↓w_cut, ↓w_pure, ↓w_drop, nth2_eq, nth3_eq, w_ok, w_ex, w_nx, w_rt, w_bk, w_ct, w_exS, w_some, w_v, w_tr, w_fa, w_tb, w_ti, w_tn, w_L, w_L0, wb_not, cn_f, startD, arr, gN_eq, gTp, gCn, gNl, Option.bind_some, List.filterMap_cons, List.filterMap_nil, List.map_cons, List.map_nil, List.replicate_succ, List.replicate_zero, List.cons_append, List.nil_append, List.getElem?_cons_zero, List.getElem?_cons_succ, List.set_cons_zero, List.set_cons_succ, List.length_cons, List.length_nil, Nat.reduceAdd, Nat.reduceSub, Nat.reduceLeDiff, Nat.reduceEqDiff, Int.reducePow, Int.reduceToNat, Int.reduceNeg, Int.reduceAdd, Int.reduceMul, Int.reduceSub, Int.reduceLT, Int.reduceLE, Int.reduceEq, Nat.zero_add, Int.zero_add, big_eq, true_and, and_true, and_self, dSub_int, dAdd_int, dAddI_int, dLt_int, dLe_int, dGt_int, dGe_int, dEqD_int, bInt_int, bLen_lst, bLen_tup, bMin_int, bMax_int, bAbs_int, dIs_non, dIs_int, dIs_nn, Bool.not_true, Bool.not_false, decide_true, decide_false, reduceIte, Bool.false_eq_true, if_false, if_true, iSeq_lst, iSeq_tup, iSeq_rdl, iEnu_lst, iEnu_tup]
        exact ⟨_, _, _, _, rfl, fun j hj => by
          rcases Nat.lt_or_ge j i with z | z
          · exact hb j z
          · have : j = i := by omega
            subst this
            rw [pdef]
            exact decide_eq_false h5⟩
  rintro L s' ⟨y3, y4, y5, y6, rfl, rfl, hE⟩
  rw [List.length_range] at hE
  have eE := fst1_none.mpr hE
  have efl : fltT M.letter M.gap zs = (fst1 (pGap M.gap zs) zs.length).map fun (i : Nat) => ("gap", (i : Int)) := by
    unfold fltT
    rw [eE]
  rw [efl]
  simp (implicitDefEqProofs := false) only [hq.enu, pfx_refl, pfx_app, ↓w_srtT, ↓w_par2, ↓w_par3, ↓w_setd, ↓w_dict1, ↓w_maxDf, ↓w_slT, ↓w_addT, ↓w_dictT, ↓w_dictI, ↓w_get, ↓w_lrg1T, ↓w_lrg2T, ↓w_lrg1, ↓w_lrg2, ↓w_pop0, ↓w_lcT, ↓w_mth, ↓w_calm, ↓w_tryM, ↓w_tm0, ↓w_tmN, ↓w_tmS, ↓w_seq, ↓w_next, ↓w_break, ↓w_cont, ↓w_retN, ↓w_asg, ↓w_expr, ↓w_ret, ↓w_if, ↓w_asgG, ↓w_for, ↓w_put, ↓w_aug, ↓w_augS, ↓w_raise0, ↓w_raise1, ↓w_raise2, ↓w_try, ↓w_tryAs, ↓w_var, ↓w_c, ↓w_op, ↓w_chain, ↓w_notV, ↓w_andV, ↓w_orV, ↓w_ifE, ↓w_tst, ↓w_not, ↓w_and, ↓w_or, ↓w_yes, ↓w_nil, ↓w_cons, ↓w_tup, ↓w_lst, ↓w_lstT, ↓w_cb, ↓w_call, ↓w_callK, ↓w_neg, ↓w_no, ↓w_pt, ↓w_sl, ↓w_fld, ↓w_src, ↓w_rng, ↓w_enu, ↓w_listT, ↓w_app, ↓w_lc, ↓w_xf, ↓w_fldT, ↓w_make, ↓w_makeL, ↓w_run, ↓w_cut, ↓w_pure, ↓w_drop, nth2_eq, nth3_eq, w_ok, w_ex, w_nx, w_rt, w_bk, w_ct, w_exS, w_some, w_v, w_tr, w_fa, w_tb, w_ti, w_tn, w_L, w_L0, wb_not, cn_f, startD, arr, gN_eq, gTp, gCn, gNl, Option.bind_some, List.filterMap_cons, List.filterMap_nil, List.map_cons, List.map_nil, List.replicate_succ, List.replicate_zero, List.cons_append, List.nil_append, List.getElem?_cons_zero, List.getElem?_cons_succ, List.set_cons_zero, List.set_cons_succ, List.length_cons, List.length_nil, Nat.reduceAdd, Nat.reduceSub, Nat.reduceLeDiff, Nat.reduceEqDiff, Int.reducePow, Int.reduceToNat, Int.reduceNeg, Int.reduceAdd, Int.reduceMul, Int.reduceSub, Int.reduceLT, Int.reduceLE, Int.reduceEq, Nat.zero_add, Int.zero_add, big_eq, true_and, and_true, and_self, dSub_int, dAdd_int, dAddI_int, dLt_int, dLe_int, dGt_int, dGe_int, dEqD_int, bInt_int, bLen_lst, bLen_tup, bMin_int, bMax_int, bAbs_int, dIs_non, dIs_int, dIs_nn, Bool.not_true, Bool.not_false, decide_true, decide_false, reduceIte, Bool.false_eq_true, if_false, if_true, iSeq_lst, iSeq_tup, iSeq_rdl, iEnu_lst, iEnu_tup]
  rw [enu_rows]
  refine ws_trk (xs := List.range zs.length) (f := fun i : Nat => D.tup [.int i, rwT (rAt zs i)]) (fun i L s' => ∃ y3 y4 y5 y6 y7, L = [some (M.d c), some sq, some (.ref s.length), y3, y4, y5, y6, y7] ∧ s' = s ++ [.dk ks vs] ∧ ∀ j, j < i → pGap M.gap zs j = false) ⟨_, _, _, _, _, rfl, rfl, fun j h => by omega⟩ (fun i L s' h => by obtain ⟨_, _, _, _, _, _, rfl, _⟩ := h; exact hq.ck _ (pfx_app ..)) ?_ ?_
  · rintro i hi L s' ⟨y3, y4, y5, y6, y7, rfl, rfl, hb⟩
    have hi' : i < zs.length := by simpa using hi
    rw [List.getElem_range]
    have pdef : pGap M.gap zs i = (zs.take i).any (pGapB M.gap (rAt zs i)) := rfl
    generalize rAt zs i = z at *
    obtain ⟨a, b, d⟩ := z
    unfold rwT
    simp (implicitDefEqProofs := false) only [hq.sl, pfx_app, slD_seq, ↓w_srtT, ↓w_par2, ↓w_par3, ↓w_setd, ↓w_dict1, ↓w_maxDf, ↓w_slT, ↓w_addT, ↓w_dictT, ↓w_dictI, ↓w_get, ↓w_lrg1T, ↓w_lrg2T, ↓w_lrg1, ↓w_lrg2, ↓w_pop0, ↓w_lcT, ↓w_mth, ↓w_calm, ↓w_tryM, ↓w_tm0, ↓w_tmN, ↓w_tmS, ↓w_seq, ↓w_next, ↓w_break, ↓w_cont, ↓w_retN, ↓w_asg, ↓w_expr, ↓w_ret, ↓w_if, ↓w_asgG, ↓w_for, ↓w_put, ↓w_aug, ↓w_augS, ↓w_raise0, ↓w_raise1, ↓w_raise2, ↓w_try, ↓w_tryAs, ↓w_var, ↓w_c, ↓w_op, ↓w_chain, ↓w_notV, ↓w_andV, ↓w_orV, ↓w_ifE, ↓w_tst, ↓w_not, ↓w_and, ↓w_or, ↓w_yes, ↓w_nil, ↓w_cons, ↓w_tup, ↓w_lst, ↓w_lstT, ↓w_cb, ↓w_call, ↓w_callK, ↓w_neg, ↓w_no, ↓w_pt, ↓w_sl, ↓w_fld, ↓w_src, ↓w_rng, ↓w_enu, ↓w_listT, ↓w_app, ↓w_lc, ↓w_xf, ↓w_fldT, ↓w_make, ↓w_makeL, ↓w_run, ↓w_cut, ↓w_pure, ↓w_drop, nth2_eq, nth3_eq, w_ok, w_ex, w_nx, w_rt, w_bk, w_ct, w_exS, w_some, w_v, w_tr, w_fa, w_tb, w_ti, w_tn, w_L, w_L0, wb_not, cn_f, startD, arr, gN_eq, gTp, gCn, gNl, Option.bind_some, List.filterMap_cons, List.filterMap_nil, List.map_cons, List.map_nil, List.replicate_succ, List.replicate_zero, List.cons_append, List.nil_append, List.getElem?_cons_zero, List.getElem?_cons_succ, List.set_cons_zero, List.set_cons_succ, List.length_cons, List.length_nil, Nat.reduceAdd, Nat.reduceSub, Nat.reduceLeDiff, Nat.reduceEqDiff, Int.reducePow, Int.reduceToNat, Int.reduceNeg, Int.reduceAdd, Int.reduceMul, Int.reduceSub, Int.reduceLT, Int.reduceLE, Int.reduceEq, Nat.zero_add, Int.zero_add, big_eq, true_and, and_true, and_self, dSub_int, dAdd_int, dAddI_int, dLt_int, dLe_int, dGt_int, dGe_int, dEqD_int, bInt_int, bLen_lst, bLen_tup, bMin_int, bMax_int, bAbs_int, dIs_non, dIs_int, dIs_nn, Bool.not_true, Bool.not_false, decide_true, decide_false, reduceIte, Bool.false_eq_true, if_false, if_true, iSeq_lst, iSeq_tup, iSeq_rdl, iEnu_lst, iEnu_tup]
    rw [← List.map_take]
    refine ws_lst (xs := zs.take i) (f := rwT) (fun k L s' => ∃ y7, L = [some (M.d c), some sq, some (.ref s.length), some (.int a), some (.int b), some (.int d), some (.int i), y7] ∧ s' = s ++ [.dk ks vs] ∧ ((zs.take i).take k).any (pGapB M.gap (a, b, d)) = false) ⟨_, rfl, rfl, by simp⟩ ?_ ?_
    · rintro k hkk L s' ⟨y7, rfl, rfl, hb2⟩
      have etk : (zs.take i).take (k + 1) = (zs.take i).take k ++ [(zs.take i)[k]] := by
        rw [List.take_succ, List.getElem?_eq_getElem hkk]
        rfl
      have hmem : (zs.take i)[k] ∈ zs.take i := List.getElem_mem hkk
      rw [etk]
      generalize (zs.take i)[k] = z2 at *
      obtain ⟨a2, b2, d2⟩ := z2
      have i0 : ∀ s, dIx s (rwT (a2, b2, d2)) (.int 0) = some (.int a2) := fun s => it0 ..
      have i2 : ∀ s, dIx s (rwT (a2, b2, d2)) (.int 2) = some (.int d2) := fun s => it2 ..
      simp (implicitDefEqProofs := false) only [i0, ↓w_srtT, ↓w_par2, ↓w_par3, ↓w_setd, ↓w_dict1, ↓w_maxDf, ↓w_slT, ↓w_addT, ↓w_dictT, ↓w_dictI, ↓w_get, ↓w_lrg1T, ↓w_lrg2T, ↓w_lrg1, ↓w_lrg2, ↓w_pop0, ↓w_lcT, ↓w_mth, ↓w_calm, ↓w_tryM, ↓w_tm0, ↓w_tmN, ↓w_tmS, ↓w_seq, ↓w_next, ↓w_break, ↓w_cont, ↓w_retN, ↓w_asg, ↓w_expr, ↓w_ret, ↓w_if, ↓w_asgG, ↓w_for, ↓w_put, ↓w_aug, ↓w_augS, ↓w_raise0, ↓w_raise1, ↓w_raise2, ↓w_try, ↓w_tryAs, ↓w_var, ↓w_c, ↓w_op, ↓w_chain, ↓w_notV, ↓w_andV, ↓w_orV, ↓w_ifE, ↓w_tst, ↓w_not, ↓w_and, ↓w_or, ↓w_yes, ↓w_nil, ↓w_cons, ↓w_tup, ↓w_lst, ↓w_lstT, ↓w_cb, ↓w_call, ↓w_callK, ↓w_neg, ↓w_no, ↓w_pt, ↓w_sl, ↓w_fld, ↓w_src, ↓w_rng, ↓w_enu, ↓w_listT, ↓w_app, ↓w_lc, ↓w_xf, ↓w_fldT, ↓w_make, ↓w_makeL, ↓w_run, ↓w_cut, ↓w_pure, ↓w_drop, nth2_eq, nth3_eq, w_ok, w_ex, w_nx, w_rt, w_bk, w_ct, w_exS, w_some, w_v, w_tr, w_fa, w_tb, w_ti, w_tn, w_L, w_L0, wb_not, cn_f, startD, arr, gN_eq, gTp, gCn, gNl, Option.bind_some, List.filterMap_cons, List.filterMap_nil, List.map_cons, List.map_nil, List.replicate_succ, List.replicate_zero, List.cons_append, List.nil_append, List.getElem?_cons_zero, List.getElem?_cons_succ, List.set_cons_zero, List.set_cons_succ, List.length_cons, List.length_nil, Nat.reduceAdd, Nat.reduceSub, Nat.reduceLeDiff, Nat.reduceEqDiff, Int.reducePow, Int.reduceToNat, Int.reduceNeg, Int.reduceAdd, Int.reduceMul, Int.reduceSub, Int.reduceLT, Int.reduceLE, Int.reduceEq, Nat.zero_add, Int.zero_add, big_eq, true_and, and_true, and_self, dSub_int, dAdd_int, dAddI_int, dLt_int, dLe_int, dGt_int, dGe_int, dEqD_int, bInt_int, bLen_lst, bLen_tup, bMin_int, bMax_int, bAbs_int, dIs_non, dIs_int, dIs_nn, Bool.not_true, Bool.not_false, decide_true, decide_false, reduceIte, Bool.false_eq_true, if_false, if_true, iSeq_lst, iSeq_tup, iSeq_rdl, iEnu_lst, iEnu_tup]
      refine wb_dec (fun h5 => ?_) (fun h5 => ?_)
      · simp (implicitDefEqProofs := false) only [i2, bAbs_int, fld_gap, ↓w_srtT, ↓w_par2, ↓w_par3, ↓w_setd, ↓w_dict1, ↓w_maxDf, ↓w_slT, ↓w_addT, ↓w_dictT, ↓w_dictI, ↓w_get, ↓w_lrg1T, ↓w_lrg2T, ↓w_lrg1, ↓w_lrg2, ↓w_pop0, ↓w_lcT, ↓w_mth, ↓w_calm, ↓w_tryM, ↓w_tm0, ↓w_tmN, ↓w_tmS, ↓w_seq, ↓w_next, ↓w_break, ↓w_cont, ↓w_retN, ↓w_asg, ↓w_expr, ↓w_ret, ↓w_if, ↓w_asgG, ↓w_for, ↓w_put, ↓w_aug, ↓w_augS, ↓w_raise0, ↓w_raise1, ↓w_raise2, ↓w_try, ↓w_tryAs, ↓w_var, ↓w_c, ↓w_op, ↓w_chain, ↓w_notV, ↓w_andV, ↓w_orV, ↓w_ifE, ↓w_tst, ↓w_not, ↓w_and, ↓w_or, ↓w_yes, ↓w_nil, ↓w_cons, ↓w_tup, ↓w_lst, ↓w_lstT, ↓w_cb, ↓w_call, ↓w_callK, ↓w_neg, ↓w_no, ↓w_pt, ↓w_sl, ↓w_fld, ↓w_src, ↓w_rng, ↓w_enu, ↓w_listT, ↓w_app, ↓w_lc, ↓w_xf, ↓w_fldT, ↓w_make, ↓w_makeL, ↓w_run, ↓w_cut, ↓w_pure, ↓w_drop, nth2_eq, nth3_eq, w_ok, w_ex, w_nx, w_rt, w_bk, w_ct, w_exS, w_some, w_v, w_tr, w_fa, w_tb, w_ti, w_tn, w_L, w_L0, wb_not, cn_f, startD, arr, gN_eq, gTp, gCn, gNl, Option.bind_some, List.filterMap_cons, List.filterMap_nil, List.map_cons, List.map_nil, List.replicate_succ, List.replicate_zero, List.cons_append, List.nil_append, List.getElem?_cons_zero, List.getElem?_cons_succ, List.set_cons_zero, List.set_cons_succ, List.length_cons, List.length_nil, Nat.reduceAdd, Nat.reduceSub, Nat.reduceLeDiff, Nat.reduceEqDiff, Int.reducePow, Int.reduceToNat, Int.reduceNeg, Int.reduceAdd, Int.reduceMul, Int.reduceSub, Int.reduceLT, Int.reduceLE, Int.reduceEq, Nat.zero_add, Int.zero_add, big_eq, true_and, and_true, and_self, dSub_int, dAdd_int, dAddI_int, dLt_int, dLe_int, dGt_int, dGe_int, dEqD_int, bInt_int, bLen_lst, bLen_tup, bMin_int, bMax_int, bAbs_int, dIs_non, dIs_int, dIs_nn, Bool.not_true, Bool.not_false, decide_true, decide_false, reduceIte, Bool.false_eq_true, if_false, if_true, iSeq_lst, iSeq_tup, iSeq_rdl, iEnu_lst, iEnu_tup]
        refine wb_dec (fun h6 => ?_) (fun h6 => ?_)
        · simp (implicitDefEqProofs := false) only [fpur, ↓w_srtT, ↓w_par2, ↓w_par3, ↓w_setd, ↓w_dict1, ↓w_maxDf, ↓w_slT, ↓w_addT, ↓w_dictT, ↓w_dictI, ↓w_get, ↓w_lrg1T, ↓w_lrg2T, ↓w_lrg1, ↓w_lrg2, ↓w_pop0, ↓w_lcT, ↓w_mth, ↓w_calm, ↓w_tryM, ↓w_tm0, ↓w_tmN, ↓w_tmS, ↓w_seq, ↓w_next, ↓w_break, ↓w_cont, ↓w_retN, ↓w_asg, ↓w_expr, ↓w_ret, ↓w_if, ↓w_asgG, ↓w_for, ↓w_put, ↓w_aug, ↓w_augS, ↓w_raise0, ↓w_raise1, ↓w_raise2, ↓w_try, ↓w_tryAs, ↓w_var, ↓w_c, ↓w_op, ↓w_chain, ↓w_notV, ↓w_andV, ↓w_orV, ↓w_ifE, ↓w_tst, ↓w_not, ↓w_and, ↓w_or, ↓w_yes, ↓w_nil, ↓w_cons, ↓w_tup, ↓w_lst, ↓w_lstT, ↓w_cb, ↓w_call, ↓w_callK, ↓w_neg, ↓w_no, ↓w_pt, ↓w_sl, ↓w_fld, ↓w_src, ↓w_rng, ↓w_enu, ↓w_listT, ↓w_app, ↓w_lc, ↓w_xf, ↓w_fldT, ↓w_make, ↓w_makeL, ↓w_run, ↓w_cut, ↓w_pure, ↓w_drop, nth2_eq, nth3_eq, w_ok, w_ex, w_nx, w_rt, w_bk, w_ct, w_exS, w_some, w_v, w_tr, w_fa, w_tb, w_ti, w_tn, w_L, w_L0, wb_not, cn_f, startD, arr, gN_eq, gTp, gCn, gNl, Option.bind_some, List.filterMap_cons, List.filterMap_nil, List.map_cons, List.map_nil, List.replicate_succ, List.replicate_zero, List.cons_append, List.nil_append, List.getElem?_cons_zero, List.getElem?_cons_succ, List.set_cons_zero, List.set_cons_succ, List.length_cons, List.length_nil, Nat.reduceAdd, Nat.reduceSub, Nat.reduceLeDiff, Nat.reduceEqDiff, Int.reducePow, Int.reduceToNat, Int.reduceNeg, Int.reduceAdd, Int.reduceMul, Int.reduceSub, Int.reduceLT, Int.reduceLE, Int.reduceEq, Nat.zero_add, Int.zero_add, big_eq, true_and, and_true, and_self, dSub_int, dAdd_int, dAddI_int, dLt_int, dLe_int, dGt_int, dGe_int, dEqD_int, bInt_int, bLen_lst, bLen_tup, bMin_int, bMax_int, bAbs_int, dIs_non, dIs_int, dIs_nn, Bool.not_true, Bool.not_false, decide_true, decide_false, reduceIte, Bool.false_eq_true, if_false, if_true, iSeq_lst, iSeq_tup, iSeq_rdl, iEnu_lst, iEnu_tup]
          refine ⟨by simp, ?_⟩
          rw [fst1_some (by rw [pdef, List.any_eq_true]; exact ⟨_, hmem, by unfold pGapB; simp only [h5, decide_true, Bool.true_and]; exact decide_eq_true h6⟩) hb hi']
          rfl
        · simp (implicitDefEqProofs := false) only [↓w_srtT, ↓w_par2, ↓w_par3, ↓w_setd, ↓w_dict1, ↓w_maxDf, ↓w_slT, ↓w_addT, ↓w_dictT, ↓w_dictI, ↓w_get, ↓w_lrg1T, ↓w_lrg2T, ↓w_lrg1, ↓w_lrg2, ↓w_pop0, ↓w_lcT, ↓w_mth, ↓w_calm, ↓w_tryM, ↓w_tm0, ↓w_tmN, ↓w_tmS, ↓w_seq, ↓w_next, ↓w_break, ↓w_cont, ↓w_retN, ↓w_asg, ↓w_expr, ↓w_ret, ↓w_if, ↓w_asgG, ↓w_for, ↓w_put, ↓w_aug, ↓w_augS, ↓w_raise0, ↓w_raise1, ↓w_raise2, ↓w_try, ↓w_tryAs, ↓w_var, ↓w_c, ↓w_op, ↓w_chain, ↓w_notV, ↓w_andV, ↓w_orV, ↓w_ifE, ↓w_tst, ↓w_not, ↓w_and, ↓w_or, ↓w_yes, ↓w_nil, ↓w_cons, ↓w_tup, ↓w_lst, ↓w_lstT, ↓w_cb, ↓w_call, ↓w_callK, ↓w_neg, ↓w_no, ↓w_pt, ↓w_sl, ↓w_fld, ↓w_src, ↓w_rng, ↓w_enu, ↓w_listT, ↓w_app, ↓w_lc, ↓w_xf, ↓w_fldT, ↓w_make, ↓w_makeL, ↓w_run, ↓w_cut, ↓w_pure, ↓w_drop, nth2_eq, nth3_eq, w_ok, w_ex, w_nx, w_rt, w_bk, w_ct, w_exS, w_some, w_v, w_tr, w_fa, w_tb, w_ti, w_tn, w_L, w_L0, wb_not, cn_f, startD, arr, gN_eq, gTp, gCn, gNl, Option.bind_some, List.filterMap_cons, List.filterMap_nil, List.map_cons, List.map_nil, List.replicate_succ, List.replicate_zero, List.cons_append, List.nil_append, List.getElem?_cons_zero, List.getElem?_cons_succ, List.set_cons_zero, List.set_cons_succ, List.length_cons, List.length_nil, Nat.reduceAdd, Nat.reduceSub, Nat.reduceLeDiff, Nat.reduceEqDiff, Int.reducePow, Int.reduceToNat, Int.reduceNeg, Int.reduceAdd, Int.reduceMul, Int.reduceSub, Int.reduceLT, Int.reduceLE, Int.reduceEq, Nat.zero_add, Int.zero_add, big_eq, true_and, and_true, and_self, dSub_int, dAdd_int, dAddI_int, dLt_int, dLe_int, dGt_int, dGe_int, dEqD_int, bInt_int, bLen_lst, bLen_tup, bMin_int, bMax_int, bAbs_int, dIs_non, dIs_int, dIs_nn, Bool.not_true, Bool.not_false, decide_true, decide_false, reduceIte, Bool.false_eq_true, if_false, if_true, iSeq_lst, iSeq_tup, iSeq_rdl, iEnu_lst, iEnu_tup]
          refine ⟨_, rfl, ?_⟩
          rw [List.any_append, hb2]
          unfold pGapB
          simp only [List.any_cons, List.any_nil, Bool.or_false, Bool.false_or]
          rw [decide_eq_false h6, Bool.and_false]
      · simp (implicitDefEqProofs := false) only [↓w_srtT, ↓w_par2, ↓w_par3, ↓w_setd, ↓w_dict1, ↓w_maxDf, ↓w_slT, ↓w_addT, ↓w_dictT, ↓w_dictI, ↓w_get, ↓w_lrg1T, ↓w_lrg2T, ↓w_lrg1, ↓w_lrg2, ↓w_pop0, ↓w_lcT, ↓w_mth, ↓w_calm, ↓w_tryM, ↓w_tm0, ↓w_tmN, ↓w_tmS, ↓w_seq, ↓w_next, ↓w_break, ↓w_cont, ↓w_retN, ↓w_asg, ↓w_expr, ↓w_ret, ↓w_if, ↓w_asgG, ↓w_for, ↓w_put, ↓w_aug, ↓w_augS, ↓w_raise0, ↓w_raise1, ↓w_raise2, ↓w_try, ↓w_tryAs, ↓w_var, ↓w_c, ↓w_op, ↓w_chain, ↓w_notV, ↓w_andV, ↓w_orV, ↓w_ifE, ↓w_tst, ↓w_not, ↓w_and, ↓w_or, ↓w_yes, ↓w_nil, ↓w_cons, ↓w_tup, ↓w_lst, ↓w_lstT, ↓w_cb, ↓w_call, ↓w_callK, ↓w_neg, ↓w_no, ↓w_pt, ↓w_sl, ↓w_fld, ↓w_src, ↓w_rng, ↓w_enu, ↓w_listT, ↓w_app, ↓w_lc, ↓w_xf, ↓w_fldT, ↓w_make, ↓w_makeL, ↓w_run, ↓w_cut, ↓w_pure, ↓w_drop, nth2_eq, nth3_eq, w_ok, w_ex, w_nx, w_rt, w_bk, w_ct, w_exS, w_some, w_v, w_tr, w_fa, w_tb, w_ti, w_tn, w_L, w_L0, wb_not, cn_f, startD, arr, gN_eq, gTp, gCn, gNl, Option.bind_some, List.filterMap_cons, List.filterMap_nil, List.map_cons, List.map_nil, List.replicate_succ, List.replicate_zero, List.cons_append, List.nil_append, List.getElem?_cons_zero, List.getElem?_cons_succ, List.set_cons_zero, List.set_cons_succ, List.length_cons, List.length_nil, Nat.reduceAdd, Nat.reduceSub, Nat.reduceLeDiff, Nat.reduceEqDiff, Int.reducePow, Int.reduceToNat, Int.reduceNeg, Int.reduceAdd, Int.reduceMul, Int.reduceSub, Int.reduceLT, Int.reduceLE, Int.reduceEq, Nat.zero_add, Int.zero_add, big_eq, true_and, and_true, and_self, dSub_int, dAdd_int, dAddI_int, dLt_int, dLe_int, dGt_int, dGe_int, dEqD_int, bInt_int, bLen_lst, bLen_tup, bMin_int, bMax_int, bAbs_int, dIs_non, dIs_int, dIs_nn, Bool.not_true, Bool.not_false, decide_true, decide_false, reduceIte, Bool.false_eq_true, if_false, if_true, iSeq_lst, iSeq_tup, iSeq_rdl, iEnu_lst, iEnu_tup]
        refine ⟨_, rfl, ?_⟩
        rw [List.any_append, hb2]
        unfold pGapB
        simp only [List.any_cons, List.any_nil, Bool.or_false, Bool.false_or]
        rw [decide_eq_false h5, Bool.false_and]
    · rintro L s' ⟨y7, rfl, rfl, hb2⟩
      rw [List.take_length] at hb2
      simp (implicitDefEqProofs := false) only [↓w_srtT, ↓w_par2, ↓w_par3, ↓w_setd, ↓w_dict1, ↓w_maxDf, ↓w_slT, ↓w_addT, ↓w_dictT, ↓w_dictI, ↓w_get, ↓w_lrg1T, ↓w_lrg2T, ↓w_lrg1, ↓w_lrg2, ↓w_pop0, ↓w_lcT, ↓w_mth, ↓w_calm, ↓w_tryM, ↓w_tm0, ↓w_tmN, ↓w_tmS, ↓w_seq, ↓w_next, ↓w_break, ↓w_cont, ↓w_retN, ↓w_asg, ↓w_expr, ↓w_ret, ↓w_if, ↓w_asgG, ↓w_for, ↓w_put, ↓w_aug, ↓w_augS, ↓w_raise0, ↓w_raise1, ↓w_raise2, ↓w_try, ↓w_tryAs, ↓w_var, ↓w_c, ↓w_op, ↓w_chain, ↓w_notV, ↓w_andV, ↓w_orV, ↓w_ifE, ↓w_tst, ↓w_not, ↓w_and, ↓w_or, ↓w_yes, ↓w_nil, ↓w_cons, ↓w_tup, ↓w_lst, ↓w_lstT, ↓w_cb, ↓w_call, ↓w_callK, ↓w_neg, ↓w_no, ↓w_pt, ↓w_sl, ↓w_fld, ↓w_src, ↓w_rng, ↓w_enu, ↓w_listT, ↓w_app, ↓w_lc, ↓w_xf, ↓w_fldT, ↓w_make, ↓w_makeL, ↓w_run, ↓w_cut, ↓w_pure, ↓w_drop, nth2_eq, nth3_eq, w_ok, w_ex, w_nx, w_rt, w_bk, w_ct, w_exS, w_some, w_v, w_tr, w_fa, w_tb, w_ti, w_tn, w_L, w_L0, wb_not, cn_f, startD, arr, gN_eq, gTp, gCn, gNl, Option.bind_some, List.filterMap_cons, List.filterMap_nil, List.map_cons, List.map_nil, List.replicate_succ, List.replicate_zero, List.cons_append, List.nil_append, List.getElem?_cons_zero, List.getElem?_cons_succ, List.set_cons_zero, List.set_cons_succ, List.length_cons, List.length_nil, Nat.reduceAdd, Nat.reduceSub, Nat.reduceLeDiff, Nat.reduceEqDiff, Int.reducePow, Int.reduceToNat, Int.reduceNeg, Int.reduceAdd, Int.reduceMul, Int.reduceSub, Int.reduceLT, Int.reduceLE, Int.reduceEq, Nat.zero_add, Int.zero_add, big_eq, true_and, and_true, and_self, dSub_int, dAdd_int, dAddI_int, dLt_int, dLe_int, dGt_int, dGe_int, dEqD_int, bInt_int, bLen_lst, bLen_tup, bMin_int, bMax_int, bAbs_int, dIs_non, dIs_int, dIs_nn, Bool.not_true, Bool.not_false, decide_true, decide_false, reduceIte, Bool.false_eq_true, if_false, if_true, iSeq_lst, iSeq_tup, iSeq_rdl, iEnu_lst, iEnu_tup]
      exact ⟨_, _, _, _, _, rfl, fun j hj => by
          rcases Nat.lt_or_ge j i with z | z
          · exact hb j z
          · have : j = i := by omega
            subst this
            rw [pdef]
            exact hb2⟩
  · rintro L s' ⟨y3, y4, y5, y6, y7, rfl, rfl, hb⟩
    rw [List.length_range] at hb
    simp (implicitDefEqProofs := false) only [show ∀ m s', fin2 m s' .non = some .non from fun _ _ => rfl, ↓w_srtT, ↓w_par2, ↓w_par3, ↓w_setd, ↓w_dict1, ↓w_maxDf, ↓w_slT, ↓w_addT, ↓w_dictT, ↓w_dictI, ↓w_get, ↓w_lrg1T, ↓w_lrg2T, ↓w_lrg1, ↓w_lrg2, ↓w_pop0, ↓w_lcT, ↓w_mth, ↓w_calm, ↓w_tryM, ↓w_tm0, ↓w_tmN, ↓w_tmS, ↓w_seq, ↓w_next, ↓w_break, ↓w_cont, ↓w_retN, ↓w_asg, ↓w_expr, ↓w_ret, ↓w_if, ↓w_asgG, ↓w_for, ↓w_put, ↓w_aug, ↓w_augS, ↓w_raise0, ↓w_raise1, ↓w_raise2, ↓w_try, ↓w_tryAs, ↓w_var, ↓w_c, ↓w_op, ↓w_chain, ↓w_notV, ↓w_andV, ↓w_orV, ↓w_ifE, ↓w_tst, ↓w_not, ↓w_and, ↓w_or, ↓w_yes, ↓w_nil, ↓w_cons, ↓w_tup, ↓w_lst, ↓w_lstT, ↓w_cb, ↓w_call, ↓w_callK, ↓w_neg, ↓w_no, ↓w_pt, ↓w_sl, ↓w_fld, ↓w_src, ↓w_rng, ↓w_enu, ↓w_listT, ↓w_app, ↓w_lc, ↓w_xf, ↓w_fldT, ↓w_make, ↓w_makeL, ↓w_run, ↓w_cut, ↓w_pure, ↓w_drop, nth2_eq, nth3_eq, w_ok, w_ex, w_nx, w_rt, w_bk, w_ct, w_exS, w_some, w_v, w_tr, w_fa, w_tb, w_ti, w_tn, w_L, w_L0, wb_not, cn_f, startD, arr, gN_eq, gTp, gCn, gNl, Option.bind_some, List.filterMap_cons, List.filterMap_nil, List.map_cons, List.map_nil, List.replicate_succ, List.replicate_zero, List.cons_append, List.nil_append, List.getElem?_cons_zero, List.getElem?_cons_succ, List.set_cons_zero, List.set_cons_succ, List.length_cons, List.length_nil, Nat.reduceAdd, Nat.reduceSub, Nat.reduceLeDiff, Nat.reduceEqDiff, Int.reducePow, Int.reduceToNat, Int.reduceNeg, Int.reduceAdd, Int.reduceMul, Int.reduceSub, Int.reduceLT, Int.reduceLE, Int.reduceEq, Nat.zero_add, Int.zero_add, big_eq, true_and, and_true, and_self, dSub_int, dAdd_int, dAddI_int, dLt_int, dLe_int, dGt_int, dGe_int, dEqD_int, bInt_int, bLen_lst, bLen_tup, bMin_int, bMax_int, bAbs_int, dIs_non, dIs_int, dIs_nn, Bool.not_true, Bool.not_false, decide_true, decide_false, reduceIte, Bool.false_eq_true, if_false, if_true, iSeq_lst, iSeq_tup, iSeq_rdl, iEnu_lst, iEnu_tup]
    refine ⟨by simp, ?_⟩
    rw [fst1_none.mpr hb]
    rfl
end Pg

/-! faults of plans, and their ends -/
namespace Pg
open PySem L2 SI Mt
variable {c : Cl} {M : Mc}
def fltP (l g n : Int) (zs : List Rw) : Option (String × Int) := match fst1 (pForm zs) zs.length with
  | some i => some ("form", i)
  | none => match fltH n zs with
    | some x => some x
    | none => fltT l g zs
theorem fltH_none {n : Int} {zs : List Rw} (h : fltH n zs = none) : (∀ i, i < zs.length → pHand n zs i = false) ∧ (∀ i, i < zs.length → pAgain zs i = false) ∧ (∀ i, i < (n - 1).toNat → pNobody zs i = false) := by
  unfold fltH at h
  cases e1 : fst1 (pHand n zs) zs.length with
  | some i =>
    rw [e1] at h
    cases h
  | none =>
    rw [e1] at h
    cases e2 : fst1 (pAgain zs) zs.length with
    | some i =>
      rw [e2] at h
      cases h
    | none =>
      rw [e2] at h
      cases e3 : fst1 (pNobody zs) (n - 1).toNat with
      | some i =>
        rw [e3] at h
        cases h
      | none => exact ⟨fst1_none.mp e1, fst1_none.mp e2, fst1_none.mp e3⟩
theorem hand_ok {n : Int} {zs : List Rw} {i : Nat} : pHand n zs i = false ↔ 0 ≤ (rAt zs i).1 ∧ (rAt zs i).1 < n ∧ 0 < (rAt zs i).2.1 ∧ (rAt zs i).2.1 < n ∧ (rAt zs i).1 ≠ (rAt zs i).2.1 := by
  unfold pHand
  rw [bb_or, bb_or]
  simp only [Bool.not_eq_false', Bool.and_eq_true, decide_eq_true_eq, decide_eq_false_iff_not]
  constructor
  · rintro ⟨⟨a, b⟩, ⟨d, e⟩, f⟩
    exact ⟨a, b, d, e, f⟩
  · rintro ⟨a, b, d, e, f⟩
    exact ⟨⟨a, b⟩, ⟨d, e⟩, f⟩
theorem knw_some {l : Int} {zs : List Rw} {h : Int} (hm : h = 0 ∨ h ∈ rcs zs) : (knw l zs h).isSome = true := by
  unfold knw
  cases e : zs.reverse.find? (fun z => decide (z.2.1 = h)) with
  | some z => rfl
  | none =>
    dsimp only
    rcases hm with rfl | hm
    · rfl
    · obtain ⟨z, hz, ez⟩ := List.mem_map.mp hm
      have := List.find?_eq_none.mp e z (List.mem_reverse.mpr hz)
      simp [ez] at this
theorem snd_known {n : Int} {zs : List Rw} (h : fltH n zs = none) {l : Int} {i : Nat} (hi : i < zs.length) : (knw l zs (rAt zs i).1).isSome = true := by
  obtain ⟨h1, h2, h3⟩ := fltH_none h
  obtain ⟨a, b, _⟩ := hand_ok.mp (h1 i hi)
  apply knw_some
  by_cases e : (rAt zs i).1 = 0
  · exact .inl e
  · right
    have := h3 ((rAt zs i).1 - 1).toNat (by omega)
    unfold pNobody at this
    rw [Bool.not_eq_false', decide_eq_true_eq, show (((((rAt zs i).1 - 1).toNat + 1 : Nat)) : Int) = (rAt zs i).1 by omega] at this
    exact this
theorem fault_q {n : Int} (n0 : 1 ≤ n) (n1 : n ≤ 100) {zs : List Rw} (hl : zs.length ≤ 400) {s : S} {sq : D} {rr : Option (Nat × List D)} (hq : Sq s sq (zs.map rwT) rr) : G_fault c [M.d c, .int n, sq] s = .ok (fltD (fltP M.letter M.gap n zs)) s := by
  have tl : ∀ (w : String) (i : Int) (s : S), dIs false s (.tup [.str w, .int i]) .non = some (.bl false) := fun _ _ _ => rfl
  have tn : ∀ (s : S), dIs false s .non .non = some (.bl true) := fun _ => rfl
  apply eq_ok
  unfold G_fault fltP
  cases e1 : fst1 (pForm zs) zs.length with
  | some i =>
    have ef := form_q (c := c) hl hq
    rw [e1] at ef
    dsimp only [fltD, Option.map_some] at ef ⊢
    simp (implicitDefEqProofs := false) only [count_ok n0 n1, ef, tl, ↓w_srtT, ↓w_par2, ↓w_par3, ↓w_setd, ↓w_dict1, ↓w_maxDf, ↓w_slT, ↓w_addT, ↓w_dictT, ↓w_dictI, ↓w_get, ↓w_lrg1T, ↓w_lrg2T, ↓w_lrg1, ↓w_lrg2, ↓w_pop0, ↓w_lcT, ↓w_mth, ↓w_calm, ↓w_tryM, ↓w_tm0, ↓w_tmN, ↓w_tmS, ↓w_seq, ↓w_next, ↓w_break, ↓w_cont, ↓w_retN, ↓w_asg, ↓w_expr, ↓w_ret, ↓w_if, ↓w_asgG, ↓w_for, ↓w_put, ↓w_aug, ↓w_augS, ↓w_raise0, ↓w_raise1, ↓w_raise2, ↓w_try, ↓w_tryAs, ↓w_var, ↓w_c, ↓w_op, ↓w_chain, ↓w_notV, ↓w_andV, ↓w_orV, ↓w_ifE, ↓w_tst, ↓w_not, ↓w_and, ↓w_or, ↓w_yes, ↓w_nil, ↓w_cons, ↓w_tup, ↓w_lst, ↓w_lstT, ↓w_cb, ↓w_call, ↓w_callK, ↓w_neg, ↓w_no, ↓w_pt, ↓w_sl, ↓w_fld, ↓w_src, ↓w_rng, ↓w_enu, ↓w_listT, ↓w_app, ↓w_lc, ↓w_xf, ↓w_fldT, ↓w_make, ↓w_makeL, ↓w_run, ↓w_cut, ↓w_pure, ↓w_drop, nth2_eq, nth3_eq, w_ok, w_ex, w_nx, w_rt, w_bk, w_ct, w_exS, w_some, w_v, w_tr, w_fa, w_tb, w_ti, w_tn, w_L, w_L0, wb_not, cn_f, startD, arr, gN_eq, gTp, gCn, gNl, Option.bind_some, List.filterMap_cons, List.filterMap_nil, List.map_cons, List.map_nil, List.replicate_succ, List.replicate_zero, List.cons_append, List.nil_append, List.getElem?_cons_zero, List.getElem?_cons_succ, List.set_cons_zero, List.set_cons_succ, List.length_cons, List.length_nil, Nat.reduceAdd, Nat.reduceSub, Nat.reduceLeDiff, Nat.reduceEqDiff, Int.reducePow, Int.reduceToNat, Int.reduceNeg, Int.reduceAdd, Int.reduceMul, Int.reduceSub, Int.reduceLT, Int.reduceLE, Int.reduceEq, Nat.zero_add, Int.zero_add, big_eq, true_and, and_true, and_self, dSub_int, dAdd_int, dAddI_int, dLt_int, dLe_int, dGt_int, dGe_int, dEqD_int, bInt_int, bLen_lst, bLen_tup, bMin_int, bMax_int, bAbs_int, dIs_non, dIs_int, dIs_nn, Bool.not_true, Bool.not_false, decide_true, decide_false, reduceIte, Bool.false_eq_true, if_false, if_true, iSeq_lst, iSeq_tup, iSeq_rdl, iEnu_lst, iEnu_tup]
    rfl
  | none =>
    have ef := form_q (c := c) hl hq
    rw [e1] at ef
    dsimp only [fltD, Option.map_none] at ef ⊢
    have eh := hands_fault_q (c := c) n0 n1 hl hq
    cases e2 : fltH n zs with
    | some x =>
      obtain ⟨w, i⟩ := x
      rw [e2] at eh
      dsimp only [fltD] at eh ⊢
      simp (implicitDefEqProofs := false) only [count_ok n0 n1, ef, eh, tl, tn, ↓w_srtT, ↓w_par2, ↓w_par3, ↓w_setd, ↓w_dict1, ↓w_maxDf, ↓w_slT, ↓w_addT, ↓w_dictT, ↓w_dictI, ↓w_get, ↓w_lrg1T, ↓w_lrg2T, ↓w_lrg1, ↓w_lrg2, ↓w_pop0, ↓w_lcT, ↓w_mth, ↓w_calm, ↓w_tryM, ↓w_tm0, ↓w_tmN, ↓w_tmS, ↓w_seq, ↓w_next, ↓w_break, ↓w_cont, ↓w_retN, ↓w_asg, ↓w_expr, ↓w_ret, ↓w_if, ↓w_asgG, ↓w_for, ↓w_put, ↓w_aug, ↓w_augS, ↓w_raise0, ↓w_raise1, ↓w_raise2, ↓w_try, ↓w_tryAs, ↓w_var, ↓w_c, ↓w_op, ↓w_chain, ↓w_notV, ↓w_andV, ↓w_orV, ↓w_ifE, ↓w_tst, ↓w_not, ↓w_and, ↓w_or, ↓w_yes, ↓w_nil, ↓w_cons, ↓w_tup, ↓w_lst, ↓w_lstT, ↓w_cb, ↓w_call, ↓w_callK, ↓w_neg, ↓w_no, ↓w_pt, ↓w_sl, ↓w_fld, ↓w_src, ↓w_rng, ↓w_enu, ↓w_listT, ↓w_app, ↓w_lc, ↓w_xf, ↓w_fldT, ↓w_make, ↓w_makeL, ↓w_run, ↓w_cut, ↓w_pure, ↓w_drop, nth2_eq, nth3_eq, w_ok, w_ex, w_nx, w_rt, w_bk, w_ct, w_exS, w_some, w_v, w_tr, w_fa, w_tb, w_ti, w_tn, w_L, w_L0, wb_not, cn_f, startD, arr, gN_eq, gTp, gCn, gNl, Option.bind_some, List.filterMap_cons, List.filterMap_nil, List.map_cons, List.map_nil, List.replicate_succ, List.replicate_zero, List.cons_append, List.nil_append, List.getElem?_cons_zero, List.getElem?_cons_succ, List.set_cons_zero, List.set_cons_succ, List.length_cons, List.length_nil, Nat.reduceAdd, Nat.reduceSub, Nat.reduceLeDiff, Nat.reduceEqDiff, Int.reducePow, Int.reduceToNat, Int.reduceNeg, Int.reduceAdd, Int.reduceMul, Int.reduceSub, Int.reduceLT, Int.reduceLE, Int.reduceEq, Nat.zero_add, Int.zero_add, big_eq, true_and, and_true, and_self, dSub_int, dAdd_int, dAddI_int, dLt_int, dLe_int, dGt_int, dGe_int, dEqD_int, bInt_int, bLen_lst, bLen_tup, bMin_int, bMax_int, bAbs_int, dIs_non, dIs_int, dIs_nn, Bool.not_true, Bool.not_false, decide_true, decide_false, reduceIte, Bool.false_eq_true, if_false, if_true, iSeq_lst, iSeq_tup, iSeq_rdl, iEnu_lst, iEnu_tup]
      rfl
    | none =>
      rw [e2] at eh
      dsimp only [fltD] at eh ⊢
      simp (implicitDefEqProofs := false) only [count_ok n0 n1, ef, eh, tn, times_fault_q (c := c) (M := M) hl (fun i hi => snd_known e2 hi) hq, ↓w_srtT, ↓w_par2, ↓w_par3, ↓w_setd, ↓w_dict1, ↓w_maxDf, ↓w_slT, ↓w_addT, ↓w_dictT, ↓w_dictI, ↓w_get, ↓w_lrg1T, ↓w_lrg2T, ↓w_lrg1, ↓w_lrg2, ↓w_pop0, ↓w_lcT, ↓w_mth, ↓w_calm, ↓w_tryM, ↓w_tm0, ↓w_tmN, ↓w_tmS, ↓w_seq, ↓w_next, ↓w_break, ↓w_cont, ↓w_retN, ↓w_asg, ↓w_expr, ↓w_ret, ↓w_if, ↓w_asgG, ↓w_for, ↓w_put, ↓w_aug, ↓w_augS, ↓w_raise0, ↓w_raise1, ↓w_raise2, ↓w_try, ↓w_tryAs, ↓w_var, ↓w_c, ↓w_op, ↓w_chain, ↓w_notV, ↓w_andV, ↓w_orV, ↓w_ifE, ↓w_tst, ↓w_not, ↓w_and, ↓w_or, ↓w_yes, ↓w_nil, ↓w_cons, ↓w_tup, ↓w_lst, ↓w_lstT, ↓w_cb, ↓w_call, ↓w_callK, ↓w_neg, ↓w_no, ↓w_pt, ↓w_sl, ↓w_fld, ↓w_src, ↓w_rng, ↓w_enu, ↓w_listT, ↓w_app, ↓w_lc, ↓w_xf, ↓w_fldT, ↓w_make, ↓w_makeL, ↓w_run, ↓w_cut, ↓w_pure, ↓w_drop, nth2_eq, nth3_eq, w_ok, w_ex, w_nx, w_rt, w_bk, w_ct, w_exS, w_some, w_v, w_tr, w_fa, w_tb, w_ti, w_tn, w_L, w_L0, wb_not, cn_f, startD, arr, gN_eq, gTp, gCn, gNl, Option.bind_some, List.filterMap_cons, List.filterMap_nil, List.map_cons, List.map_nil, List.replicate_succ, List.replicate_zero, List.cons_append, List.nil_append, List.getElem?_cons_zero, List.getElem?_cons_succ, List.set_cons_zero, List.set_cons_succ, List.length_cons, List.length_nil, Nat.reduceAdd, Nat.reduceSub, Nat.reduceLeDiff, Nat.reduceEqDiff, Int.reducePow, Int.reduceToNat, Int.reduceNeg, Int.reduceAdd, Int.reduceMul, Int.reduceSub, Int.reduceLT, Int.reduceLE, Int.reduceEq, Nat.zero_add, Int.zero_add, big_eq, true_and, and_true, and_self, dSub_int, dAdd_int, dAddI_int, dLt_int, dLe_int, dGt_int, dGe_int, dEqD_int, bInt_int, bLen_lst, bLen_tup, bMin_int, bMax_int, bAbs_int, dIs_non, dIs_int, dIs_nn, Bool.not_true, Bool.not_false, decide_true, decide_false, reduceIte, Bool.false_eq_true, if_false, if_true, iSeq_lst, iSeq_tup, iSeq_rdl, iEnu_lst, iEnu_tup]
theorem checked_plan_q {n : Int} (n0 : 1 ≤ n) (n1 : n ≤ 100) {zs : List Rw} (hl : zs.length ≤ 400) (h : fltP M.letter M.gap n zs = none) {s : S} {sq : D} {rr : Option (Nat × List D)} (hq : Sq s sq (zs.map rwT) rr) : G_checked_plan c [M.d c, .int n, sq] s = .ok (.lst (zs.map rwT)) s := by
  have ef := fault_q (c := c) (M := M) n0 n1 hl hq
  rw [h] at ef
  dsimp only [fltD] at ef
  apply eq_ok
  unfold G_checked_plan
  simp (implicitDefEqProofs := false) only [ef, show ∀ s, dIs true s .non .non = some (.bl false) from fun _ => rfl, hq.ls (pfx_refl s), ↓w_srtT, ↓w_par2, ↓w_par3, ↓w_setd, ↓w_dict1, ↓w_maxDf, ↓w_slT, ↓w_addT, ↓w_dictT, ↓w_dictI, ↓w_get, ↓w_lrg1T, ↓w_lrg2T, ↓w_lrg1, ↓w_lrg2, ↓w_pop0, ↓w_lcT, ↓w_mth, ↓w_calm, ↓w_tryM, ↓w_tm0, ↓w_tmN, ↓w_tmS, ↓w_seq, ↓w_next, ↓w_break, ↓w_cont, ↓w_retN, ↓w_asg, ↓w_expr, ↓w_ret, ↓w_if, ↓w_asgG, ↓w_for, ↓w_put, ↓w_aug, ↓w_augS, ↓w_raise0, ↓w_raise1, ↓w_raise2, ↓w_try, ↓w_tryAs, ↓w_var, ↓w_c, ↓w_op, ↓w_chain, ↓w_notV, ↓w_andV, ↓w_orV, ↓w_ifE, ↓w_tst, ↓w_not, ↓w_and, ↓w_or, ↓w_yes, ↓w_nil, ↓w_cons, ↓w_tup, ↓w_lst, ↓w_lstT, ↓w_cb, ↓w_call, ↓w_callK, ↓w_neg, ↓w_no, ↓w_pt, ↓w_sl, ↓w_fld, ↓w_src, ↓w_rng, ↓w_enu, ↓w_listT, ↓w_app, ↓w_lc, ↓w_xf, ↓w_fldT, ↓w_make, ↓w_makeL, ↓w_run, ↓w_cut, ↓w_pure, ↓w_drop, nth2_eq, nth3_eq, w_ok, w_ex, w_nx, w_rt, w_bk, w_ct, w_exS, w_some, w_v, w_tr, w_fa, w_tb, w_ti, w_tn, w_L, w_L0, wb_not, cn_f, startD, arr, gN_eq, gTp, gCn, gNl, Option.bind_some, List.filterMap_cons, List.filterMap_nil, List.map_cons, List.map_nil, List.replicate_succ, List.replicate_zero, List.cons_append, List.nil_append, List.getElem?_cons_zero, List.getElem?_cons_succ, List.set_cons_zero, List.set_cons_succ, List.length_cons, List.length_nil, Nat.reduceAdd, Nat.reduceSub, Nat.reduceLeDiff, Nat.reduceEqDiff, Int.reducePow, Int.reduceToNat, Int.reduceNeg, Int.reduceAdd, Int.reduceMul, Int.reduceSub, Int.reduceLT, Int.reduceLE, Int.reduceEq, Nat.zero_add, Int.zero_add, big_eq, true_and, and_true, and_self, dSub_int, dAdd_int, dAddI_int, dLt_int, dLe_int, dGt_int, dGe_int, dEqD_int, bInt_int, bLen_lst, bLen_tup, bMin_int, bMax_int, bAbs_int, dIs_non, dIs_int, dIs_nn, Bool.not_true, Bool.not_false, decide_true, decide_false, reduceIte, Bool.false_eq_true, if_false, if_true, iSeq_lst, iSeq_tup, iSeq_rdl, iEnu_lst, iEnu_tup]
theorem checked_plan_ok {n : Int} (n0 : 1 ≤ n) (n1 : n ≤ 100) {zs : List Rw} (hl : zs.length ≤ 400) (h : fltP M.letter M.gap n zs = none) (s : S) : G_checked_plan c [M.d c, .int n, .lst (zs.map rwT)] s = .ok (.lst (zs.map rwT)) s := checked_plan_q n0 n1 hl h (sq_lst s _)
/-- the end of the rows -/
def endP (l : Int) : List Rw → Int
  | [] => 0
  | z :: zs => max (z.2.2 + l) (endP l zs)
theorem endP_s (l : Int) : ∀ (zs : List Rw) (z : Rw), endP l (zs ++ [z]) = max (endP l zs) (z.2.2 + l)
  | [], z => by
    show max _ (0 : Int) = max 0 _
    omega
  | y :: zs, z => by
    rw [List.cons_append, endP, endP_s l zs z, endP]
    omega
theorem ends_ok {n : Int} (n0 : 1 ≤ n) (n1 : n ≤ 100) {zs : List Rw} (hl : zs.length ≤ 400) (h : fltP M.letter M.gap n zs = none) (s : S) : G_ends c [M.d c, .int n, .lst (zs.map rwT)] s = .ok (.int (endP M.letter zs)) s := by
  apply eq_ok
  unfold G_ends
  simp (implicitDefEqProofs := false) only [checked_plan_ok (c := c) n0 n1 hl h, ↓w_srtT, ↓w_par2, ↓w_par3, ↓w_setd, ↓w_dict1, ↓w_maxDf, ↓w_slT, ↓w_addT, ↓w_dictT, ↓w_dictI, ↓w_get, ↓w_lrg1T, ↓w_lrg2T, ↓w_lrg1, ↓w_lrg2, ↓w_pop0, ↓w_lcT, ↓w_mth, ↓w_calm, ↓w_tryM, ↓w_tm0, ↓w_tmN, ↓w_tmS, ↓w_seq, ↓w_next, ↓w_break, ↓w_cont, ↓w_retN, ↓w_asg, ↓w_expr, ↓w_ret, ↓w_if, ↓w_asgG, ↓w_for, ↓w_put, ↓w_aug, ↓w_augS, ↓w_raise0, ↓w_raise1, ↓w_raise2, ↓w_try, ↓w_tryAs, ↓w_var, ↓w_c, ↓w_op, ↓w_chain, ↓w_notV, ↓w_andV, ↓w_orV, ↓w_ifE, ↓w_tst, ↓w_not, ↓w_and, ↓w_or, ↓w_yes, ↓w_nil, ↓w_cons, ↓w_tup, ↓w_lst, ↓w_lstT, ↓w_cb, ↓w_call, ↓w_callK, ↓w_neg, ↓w_no, ↓w_pt, ↓w_sl, ↓w_fld, ↓w_src, ↓w_rng, ↓w_enu, ↓w_listT, ↓w_app, ↓w_lc, ↓w_xf, ↓w_fldT, ↓w_make, ↓w_makeL, ↓w_run, ↓w_cut, ↓w_pure, ↓w_drop, nth2_eq, nth3_eq, w_ok, w_ex, w_nx, w_rt, w_bk, w_ct, w_exS, w_some, w_v, w_tr, w_fa, w_tb, w_ti, w_tn, w_L, w_L0, wb_not, cn_f, startD, arr, gN_eq, gTp, gCn, gNl, Option.bind_some, List.filterMap_cons, List.filterMap_nil, List.map_cons, List.map_nil, List.replicate_succ, List.replicate_zero, List.cons_append, List.nil_append, List.getElem?_cons_zero, List.getElem?_cons_succ, List.set_cons_zero, List.set_cons_succ, List.length_cons, List.length_nil, Nat.reduceAdd, Nat.reduceSub, Nat.reduceLeDiff, Nat.reduceEqDiff, Int.reducePow, Int.reduceToNat, Int.reduceNeg, Int.reduceAdd, Int.reduceMul, Int.reduceSub, Int.reduceLT, Int.reduceLE, Int.reduceEq, Nat.zero_add, Int.zero_add, big_eq, true_and, and_true, and_self, dSub_int, dAdd_int, dAddI_int, dLt_int, dLe_int, dGt_int, dGe_int, dEqD_int, bInt_int, bLen_lst, bLen_tup, bMin_int, bMax_int, bAbs_int, dIs_non, dIs_int, dIs_nn, Bool.not_true, Bool.not_false, decide_true, decide_false, reduceIte, Bool.false_eq_true, if_false, if_true, iSeq_lst, iSeq_tup, iSeq_rdl, iEnu_lst, iEnu_tup]
  refine ws_lst (xs := zs) (f := rwT) (fun i L s' => ∃ y4 y5 y6, L = [some (M.d c), some (.int n), some (.lst (zs.map rwT)), some (.int (endP M.letter (zs.take i))), y4, y5, y6] ∧ s = s') ⟨_, _, _, rfl, rfl⟩ ?_ ?_
  · rintro i hi L s' ⟨y4, y5, y6, rfl, rfl⟩
    have e := tk_s hi
    rw [rAt_eq hi] at e
    rw [e, endP_s]
    generalize zs[i] = z at *
    obtain ⟨a, b, d⟩ := z
    unfold rwT
    dsimp only
    simp (implicitDefEqProofs := false) only [fld_letter, ↓w_srtT, ↓w_par2, ↓w_par3, ↓w_setd, ↓w_dict1, ↓w_maxDf, ↓w_slT, ↓w_addT, ↓w_dictT, ↓w_dictI, ↓w_get, ↓w_lrg1T, ↓w_lrg2T, ↓w_lrg1, ↓w_lrg2, ↓w_pop0, ↓w_lcT, ↓w_mth, ↓w_calm, ↓w_tryM, ↓w_tm0, ↓w_tmN, ↓w_tmS, ↓w_seq, ↓w_next, ↓w_break, ↓w_cont, ↓w_retN, ↓w_asg, ↓w_expr, ↓w_ret, ↓w_if, ↓w_asgG, ↓w_for, ↓w_put, ↓w_aug, ↓w_augS, ↓w_raise0, ↓w_raise1, ↓w_raise2, ↓w_try, ↓w_tryAs, ↓w_var, ↓w_c, ↓w_op, ↓w_chain, ↓w_notV, ↓w_andV, ↓w_orV, ↓w_ifE, ↓w_tst, ↓w_not, ↓w_and, ↓w_or, ↓w_yes, ↓w_nil, ↓w_cons, ↓w_tup, ↓w_lst, ↓w_lstT, ↓w_cb, ↓w_call, ↓w_callK, ↓w_neg, ↓w_no, ↓w_pt, ↓w_sl, ↓w_fld, ↓w_src, ↓w_rng, ↓w_enu, ↓w_listT, ↓w_app, ↓w_lc, ↓w_xf, ↓w_fldT, ↓w_make, ↓w_makeL, ↓w_run, ↓w_cut, ↓w_pure, ↓w_drop, nth2_eq, nth3_eq, w_ok, w_ex, w_nx, w_rt, w_bk, w_ct, w_exS, w_some, w_v, w_tr, w_fa, w_tb, w_ti, w_tn, w_L, w_L0, wb_not, cn_f, startD, arr, gN_eq, gTp, gCn, gNl, Option.bind_some, List.filterMap_cons, List.filterMap_nil, List.map_cons, List.map_nil, List.replicate_succ, List.replicate_zero, List.cons_append, List.nil_append, List.getElem?_cons_zero, List.getElem?_cons_succ, List.set_cons_zero, List.set_cons_succ, List.length_cons, List.length_nil, Nat.reduceAdd, Nat.reduceSub, Nat.reduceLeDiff, Nat.reduceEqDiff, Int.reducePow, Int.reduceToNat, Int.reduceNeg, Int.reduceAdd, Int.reduceMul, Int.reduceSub, Int.reduceLT, Int.reduceLE, Int.reduceEq, Nat.zero_add, Int.zero_add, big_eq, true_and, and_true, and_self, dSub_int, dAdd_int, dAddI_int, dLt_int, dLe_int, dGt_int, dGe_int, dEqD_int, bInt_int, bLen_lst, bLen_tup, bMin_int, bMax_int, bAbs_int, dIs_non, dIs_int, dIs_nn, Bool.not_true, Bool.not_false, decide_true, decide_false, reduceIte, Bool.false_eq_true, if_false, if_true, iSeq_lst, iSeq_tup, iSeq_rdl, iEnu_lst, iEnu_tup]
    exact ⟨_, _, _, rfl⟩
  · rintro L s' ⟨y4, y5, y6, rfl, rfl⟩
    rw [List.take_length]
    simp (implicitDefEqProofs := false) only [↓w_srtT, ↓w_par2, ↓w_par3, ↓w_setd, ↓w_dict1, ↓w_maxDf, ↓w_slT, ↓w_addT, ↓w_dictT, ↓w_dictI, ↓w_get, ↓w_lrg1T, ↓w_lrg2T, ↓w_lrg1, ↓w_lrg2, ↓w_pop0, ↓w_lcT, ↓w_mth, ↓w_calm, ↓w_tryM, ↓w_tm0, ↓w_tmN, ↓w_tmS, ↓w_seq, ↓w_next, ↓w_break, ↓w_cont, ↓w_retN, ↓w_asg, ↓w_expr, ↓w_ret, ↓w_if, ↓w_asgG, ↓w_for, ↓w_put, ↓w_aug, ↓w_augS, ↓w_raise0, ↓w_raise1, ↓w_raise2, ↓w_try, ↓w_tryAs, ↓w_var, ↓w_c, ↓w_op, ↓w_chain, ↓w_notV, ↓w_andV, ↓w_orV, ↓w_ifE, ↓w_tst, ↓w_not, ↓w_and, ↓w_or, ↓w_yes, ↓w_nil, ↓w_cons, ↓w_tup, ↓w_lst, ↓w_lstT, ↓w_cb, ↓w_call, ↓w_callK, ↓w_neg, ↓w_no, ↓w_pt, ↓w_sl, ↓w_fld, ↓w_src, ↓w_rng, ↓w_enu, ↓w_listT, ↓w_app, ↓w_lc, ↓w_xf, ↓w_fldT, ↓w_make, ↓w_makeL, ↓w_run, ↓w_cut, ↓w_pure, ↓w_drop, nth2_eq, nth3_eq, w_ok, w_ex, w_nx, w_rt, w_bk, w_ct, w_exS, w_some, w_v, w_tr, w_fa, w_tb, w_ti, w_tn, w_L, w_L0, wb_not, cn_f, startD, arr, gN_eq, gTp, gCn, gNl, Option.bind_some, List.filterMap_cons, List.filterMap_nil, List.map_cons, List.map_nil, List.replicate_succ, List.replicate_zero, List.cons_append, List.nil_append, List.getElem?_cons_zero, List.getElem?_cons_succ, List.set_cons_zero, List.set_cons_succ, List.length_cons, List.length_nil, Nat.reduceAdd, Nat.reduceSub, Nat.reduceLeDiff, Nat.reduceEqDiff, Int.reducePow, Int.reduceToNat, Int.reduceNeg, Int.reduceAdd, Int.reduceMul, Int.reduceSub, Int.reduceLT, Int.reduceLE, Int.reduceEq, Nat.zero_add, Int.zero_add, big_eq, true_and, and_true, and_self, dSub_int, dAdd_int, dAddI_int, dLt_int, dLe_int, dGt_int, dGe_int, dEqD_int, bInt_int, bLen_lst, bLen_tup, bMin_int, bMax_int, bAbs_int, dIs_non, dIs_int, dIs_nn, Bool.not_true, Bool.not_false, decide_true, decide_false, reduceIte, Bool.false_eq_true, if_false, if_true, iSeq_lst, iSeq_tup, iSeq_rdl, iEnu_lst, iEnu_tup]
end Pg

/-! plans that are drawn row by row -/
namespace Pg
open PySem L2 SI Mt
variable {M : Mc}
/-- a hand that is told: its number, when it is free, how many it has told -/
abbrev Us := Int × Int × Nat
def Us.hs (us : List Us) : List Int := us.map fun u => u.1
def Us.cs (M : Mc) (us : List Us) : List (Int × Nat) := us.map fun u => (u.2.1 + M.letter, u.2.2)
def stp (M : Mc) : Int := 4 * (M.letter + M.gap)
structure PlI (M : Mc) (n k : Nat) (us : List Us) (rest : List Int) (ys : List Rw) : Prop where
  nd : (Us.hs us ++ rest).Nodup
  rg : ∀ x ∈ Us.hs us ++ rest, 0 ≤ x ∧ x < n
  z0 : (0 : Int) ∈ Us.hs us
  lu : us.length = k + 1
  lr : rest.length + k + 1 = n
  cov : ∀ x : Int, 0 ≤ x → x < n → x ∈ Us.hs us ++ rest
  ly : ys.length = k
  rc : ∀ h, h ∈ rcs ys ↔ h ∈ Us.hs us ∧ h ≠ 0
  rn : (rcs ys).Nodup
  row : ∀ z ∈ ys, z.1 ∈ Us.hs us ∧ z.1 ≠ z.2.1 ∧ 0 ≤ z.2.2 ∧ z.2.2 ≤ k * stp M ∧ (z.1 = 0 ∨ ∃ y ∈ ys, y.2.1 = z.1 ∧ y.2.2 + M.letter ≤ z.2.2)
  fr : ∀ u ∈ us, 0 ≤ u.2.1 ∧ u.2.1 ≤ k * stp M ∧ (u.1 = 0 ∨ ∃ y ∈ ys, y.2.1 = u.1 ∧ y.2.2 + M.letter ≤ u.2.1) ∧ (∀ z ∈ ys, z.1 = u.1 → z.2.2 + M.gap ≤ u.2.1) ∧ (ys.filter fun z => decide (z.1 = u.1)).length = u.2.2
  pw : ys.Pairwise fun a b => a.1 = b.1 → M.gap ≤ ((a.2.2 - b.2.2).natAbs : Int)
  cn : ∀ (T : Nat) (x : Int), 0 ≤ x → 1 ≤ T → T ≤ 10 ^ 12 → (∀ u ∈ us, u.2.2 ≤ T) → 1 + ((ys.filter fun z => decide (z.2.2 + M.letter ≤ x)).length : Int) + WS2 M (some T) x (Us.cs M us) ≤ FR M (some T) x
end Pg

/-! a drawn plan is right -/
namespace Pg
open PySem L2 SI Mt
variable {M : Mc}
end Pg

/-! the plans that the laws draw -/
namespace Pg
open PySem L2 SI Mt
variable {c : Cl} {M : Mc}
--PLANG
--END PLANG
section
variable {o : O} {r : S} {rest ts k1 : List Int} {sv : List D} {k2 : List Int} {fv : List D} {zs : List Rw}
end
end Pg

/-! the first start that lies near an earlier one of the same hand -/
namespace Pg
open PySem L2 SI Mt
variable {c : Cl} {M : Mc}
abbrev Pr := Int × Int
/-- the starts of a hand -/
def stOf (h : Int) (ps : List Pr) : List Int := (ps.filter fun q => decide (q.1 = h)).map fun q => q.2
/-- where the hand stands first -/
def ix1 (ps : List Pr) (h : Int) : Nat := (ps.map fun q => q.1).idxOf h
structure NrI (ps : List Pr) (m i : Nat) (ks : List Key) (vs : List D) (T : List O) : Prop where
  nd : ks.Nodup
  ln : ks.length = vs.length
  le : ks.length ≤ i
  lt : T.length = i
  lk : ∀ h, lkD ks vs (.inl h) = if h ∈ (ps.take i).map (fun q => q.1) then some (.ref (m + 1 + ix1 ps h)) else none
  at' : ∀ h, h ∈ (ps.take i).map (fun q => q.1) → T[ix1 ps h]? = some (.lst ((stOf h (ps.take i)).map D.int))
section
variable {s : S} {ks : List Key} {vs : List D} {T : List O}
end
end Pg

/-! faults of gathers -/
namespace Pg
open PySem L2 SI Mt
variable {c : Cl} {M : Mc}
def sds (zs : List Rw) : List Int := zs.map fun z => z.1
--NEXT
end Pg

/-! right plans, right gathers, and their mirrors -/
namespace Pg
open PySem L2 SI Mt
variable {M : Mc}
def Tm (z : Rw) : Prop := 0 ≤ z.2.2 ∧ z.2.2 ≤ 1000000000000000
def Gp (g : Int) (zs : List Rw) (f : Rw → Int) : Prop := zs.Pairwise fun a b => f a = f b → g ≤ ((a.2.2 - b.2.2).natAbs : Int)
structure PlR (l g : Int) (n : Nat) (zs : List Rw) : Prop where
  frm : ∀ z ∈ zs, Tm z
  hnd : ∀ z ∈ zs, 0 ≤ z.1 ∧ z.1 < n ∧ 0 < z.2.1 ∧ z.2.1 < n ∧ z.1 ≠ z.2.1
  nd : (rcs zs).Nodup
  cov : ∀ h : Int, 0 < h → h < n → h ∈ rcs zs
  ear : ∀ z ∈ zs, ∀ y ∈ zs, y.2.1 = z.1 → y.2.2 + l ≤ z.2.2
  gap : Gp g zs fun a => a.1
structure GtR (l g : Int) (n : Nat) (zs : List Rw) : Prop where
  frm : ∀ z ∈ zs, Tm z
  hnd : ∀ z ∈ zs, 0 < z.1 ∧ z.1 < n ∧ 0 ≤ z.2.1 ∧ z.2.1 < n ∧ z.1 ≠ z.2.1
  nd : (sds zs).Nodup
  cov : ∀ h : Int, 0 < h → h < n → h ∈ sds zs
  ear : ∀ z ∈ zs, ∀ y ∈ zs, y.2.1 = z.1 → y.2.2 + l ≤ z.2.2
  gap : Gp g zs fun a => a.2.1
variable {l g L b : Int} {n : Nat} {zs ys : List Rw}
/-! what holds of an item and the items before it -/
end Pg

/-! plans and gathers drawn row by row, and hands under new names -/
namespace Pg
open PySem L2 SI Mt
variable {M : Mc}
/-- hands under new names -/
structure Rel (n : Nat) (f : Int → Int) : Prop where
  rg : ∀ x : Int, 0 ≤ x → x < n → 0 ≤ f x ∧ f x < n
  inj : ∀ x y : Int, 0 ≤ x → x < n → 0 ≤ y → y < n → f x = f y → x = y
  sur : ∀ h : Int, 0 ≤ h → h < n → ∃ x : Int, 0 ≤ x ∧ x < n ∧ f x = h
  z0 : f 0 = 0
variable {l g : Int} {n : Nat} {zs : List Rw} {f : Int → Int}
theorem Rel.pos (r : Rel n f) {x : Int} (h0 : 0 < x) (h1 : x < n) : 0 < f x := by
  have a := r.rg x (by omega) h1
  have : f x ≠ 0 := fun e => by
    have := r.inj x 0 (by omega) h1 (by omega) (by omega) (by rw [e, r.z0])
    omega
  omega
/-! a gather in the making: the places from k on have sent -/
def at0 (xs : List Int) (i : Nat) : Int := xs.getD i 0
structure GaI (M : Mc) (n k b : Nat) (rd fr : List Int) (zs : List Rw) : Prop where
  lr : rd.length = n
  lf : fr.length = n
  lz : zs.length = b
  sm : ∀ h : Int, h ∈ sds zs ↔ (k : Int) ≤ h ∧ h < n
  nd : (sds zs).Nodup
  row : ∀ z ∈ zs, 0 ≤ z.2.1 ∧ z.2.1 < z.1 ∧ (k : Int) ≤ z.1 ∧ z.1 < n ∧ 0 ≤ z.2.2 ∧ z.2.2 ≤ b * stp M ∧ z.2.2 + M.letter ≤ at0 rd z.2.1.toNat ∧ z.2.2 + M.gap ≤ at0 fr z.2.1.toNat
  ear : ∀ z ∈ zs, ∀ y ∈ zs, y.2.1 = z.1 → y.2.2 + M.letter ≤ z.2.2
  gap : Gp M.gap zs fun a => a.2.1
  bd : ∀ j, 0 ≤ at0 rd j ∧ at0 rd j ≤ b * stp M ∧ 0 ≤ at0 fr j ∧ at0 fr j ≤ b * stp M
/-! a plan in the making: the places below k know -/
structure PnI (M : Mc) (k b : Nat) (kn fr : List Int) (zs : List Rw) : Prop where
  lr : kn.length = k
  lf : fr.length = k
  lz : zs.length = b
  rm : ∀ h : Int, h ∈ rcs zs ↔ 0 < h ∧ h < k
  nd : (rcs zs).Nodup
  row : ∀ z ∈ zs, 0 ≤ z.1 ∧ z.1 < z.2.1 ∧ z.2.1 < k ∧ 0 ≤ z.2.2 ∧ z.2.2 ≤ b * stp M ∧ z.2.2 + M.letter ≤ at0 kn z.2.1.toNat ∧ z.2.2 + M.gap ≤ at0 fr z.1.toNat
  ear : ∀ z ∈ zs, ∀ y ∈ zs, y.2.1 = z.1 → y.2.2 + M.letter ≤ z.2.2
  gap : Gp M.gap zs fun a => a.1
  bd : ∀ j, 0 ≤ at0 kn j ∧ at0 kn j ≤ b * stp M ∧ 0 ≤ at0 fr j ∧ at0 fr j ≤ b * stp M
end Pg

/-! the plans that the laws draw: the walk -/
namespace Pg
open PySem L2 SI Mt
variable {c : Cl} {M : Mc}
variable {v : SrcV} {k : Nat} {r : S} {Q : Cn (D → S → Prop)} {E : Cn (Addr → List Str → List D → S → Prop)}
end Pg

/-! a law's own growing tree: the last time; bounds -/
namespace Pg
open PySem L2 SI Mt
variable {c : Cl} {M : Mc} {t : Option Nat}
end Pg

/-! bounds of several letters -/
namespace Pg
open PySem L2 SI Mt
variable {c : Cl} {M : Mc} {t : Option Nat}
open Classical in
/-- the least time of n hands -/
noncomputable def mt (M : Mc) (t : Option Nat) (n : Nat) : Int := if h : ∃ x, MinT M t n x then h.choose else 0
/-- how much later -/
def spc (M : Mc) (n T : Nat) : Int := if n = 2 then M.gap else max (T * M.gap) ((T - 1) * M.gap + 2 * M.o)
/-- the end of k letters on a tree with T turns -/
noncomputable def eT (M : Mc) (n k T : Nat) : Int := mt M (some T) n + (k - 1) * spc M n T
structure BT (M : Mc) (n k : Nat) (b : Int) : Prop where
  at_ : ∃ T, 1 ≤ T ∧ T < n ∧ b = eT M n k T
  le : ∀ T, 1 ≤ T → T < n → b ≤ eT M n k T
end Pg

/-! what a drawn plan tells -/
namespace Pg
open PySem L2 SI Mt
variable {c : Cl} {M : Mc} {t : Option Nat}
theorem MinT.le (hM : M.Ok) {n x y : Int} (h : MinT M t n x) (hy : n ≤ FR M t y) : x ≤ y := by
  by_cases hxy : x ≤ y
  · exact hxy
  · have := FR_mono (t := t) hM (show y ≤ x - 1 by omega)
    have := h.1
    omega
end Pg

/-! gather_fault, checked_gather, gather_ends, turned -/
namespace Pg
open PySem L2 SI Mt
variable {c : Cl} {M : Mc}
section
variable {n : Int} {zs : List Rw} {s : S} {sq : D} {rr : Option (Nat × List D)}
end
end Pg

/-! draws of the laws from k40 on -/
namespace SI
open PySem L2 Pg
def drawB : List D → S → R D := runF 7
  (sSeq (sAugS dIxL dAddI dPut (fVar 0) (fC (.int 3)) (fC (.int 1)))
    (sSeq (sIf (fAnd (fTst (fOp (dEqD false) (fOp dIx (fVar 0) (fC (.int 2))) (fC (.int 0)))) (fTst (fOp dLt (fOp dIx (fVar 0) (fC (.int 1))) (fCB bLen (fCons (fOp dIx (fVar 0) (fC (.int 0))) fNil))))) (sSeq (sAsg 2 (fOp dIx (fOp dIx (fVar 0) (fC (.int 0))) (fOp dIx (fVar 0) (fC (.int 1)))))
    (sSeq (sAugS dIxL dAddI dPut (fVar 0) (fC (.int 1)) (fC (.int 1)))
    (sIf (fTst (fOp dGe (fVar 2) (fOp dPow (fC (.int 10)) (fC (.int 18))))) (sPut dPut (fVar 2) (fVar 0) (fC (.int 2))) (sPut dPut (fOp dMod (fCB bInt (fCons (fOp dAdd (fOp dAdd (fOp dMul (fOp dIx (fVar 0) (fC (.int 4))) (fC (.int 48271))) (fOp dMul (fVar 2) (fC (.int 2)))) (fC (.int 11))) fNil)) (fC (.int 2147483629))) (fVar 0) (fC (.int 4)))))) sNext)
    (sSeq (sIf (fTst (fOp dGt (fOp dIx (fVar 0) (fC (.int 2))) (fC (.int 0)))) (sSeq (sAsg 3 (fOp dMod (fCB bInt (fCons (fOp dIx (fVar 0) (fC (.int 2))) fNil)) (fVar 1)))
    (sSeq (sPut dPut (fOp dDiv (fOp dIx (fVar 0) (fC (.int 2))) (fVar 1)) (fVar 0) (fC (.int 2)))
    (sRet (fVar 3)))) sNext)
    (sSeq (sAsg 4 (fOp dMod (fCB bInt (fCons (fOp dMul (fOp dAdd (fOp dAdd (fOp dIx (fVar 0) (fC (.int 4))) (fOp dMul (fC (.int 6151)) (fOp dIx (fVar 0) (fC (.int 3))))) (fC (.int 1))) (fC (.int 69621))) fNil)) (fC (.int 2147483647))))
    (sSeq (sAsg 5 (fOp dMod (fCB bInt (fCons (fOp dMul (fVar 4) (fOp dAdd (fOp dDiv (fVar 4) (fC (.int 1013))) (fC (.int 48271)))) fNil)) (fC (.int 2147483647))))
    (sSeq (sAsg 6 (fOp dMod (fCB bInt (fCons (fOp dMul (fVar 5) (fOp dAdd (fOp dDiv (fVar 5) (fC (.int 2011))) (fC (.int 40692)))) fNil)) (fC (.int 2147483399))))
    (sRet (fOp dMod (fCB bInt (fCons (fOp dDiv (fVar 6) (fC (.int 8))) fNil)) (fVar 1)))))))))
/-- a draw: some number below the limit, the source goes on -/
theorem drawB_ok {s : S} {k n : Nat} {v : SrcV} {lim : Int} (h : s[k]? = some v.o) (ok : v.Ok n) (hn : n < 2 ^ 60) (h0 : 0 < lim) (h1 : lim < 2 ^ 200) :
    ∃ (r : Int) (v' : SrcV), 0 ≤ r ∧ r < lim ∧ v'.Ok (n + 1) ∧ drawB [.ref k, .int lim] s = .ok (.int r) (s.set k v'.o) := by
  have hb : v.b + 1 < 2 ^ 61 := by
    have := ok.bn
    omega
  have hb0 := ok.b0
  -- the last part: the digits of the hash
  have tail : ∀ (w : SrcV) (s1 : S), s1[k]? = some w.o → w.a = 0 → 0 ≤ w.d → w.d < 2147483629 → 0 ≤ w.b → w.b < 2 ^ 61 → ∀ (x2 x3 : Option D), ∃ r : Int, 0 ≤ r ∧ r < lim ∧
      sSeq (sAsg 4 (fOp dMod (fCB bInt (fCons (fOp dMul (fOp dAdd (fOp dAdd (fOp dIx (fVar 0) (fC (.int 4))) (fOp dMul (fC (.int 6151)) (fOp dIx (fVar 0) (fC (.int 3))))) (fC (.int 1))) (fC (.int 69621))) fNil)) (fC (.int 2147483647))))
    (sSeq (sAsg 5 (fOp dMod (fCB bInt (fCons (fOp dMul (fVar 4) (fOp dAdd (fOp dDiv (fVar 4) (fC (.int 1013))) (fC (.int 48271)))) fNil)) (fC (.int 2147483647))))
    (sSeq (sAsg 6 (fOp dMod (fCB bInt (fCons (fOp dMul (fVar 5) (fOp dAdd (fOp dDiv (fVar 5) (fC (.int 2011))) (fC (.int 40692)))) fNil)) (fC (.int 2147483399))))
    (sRet (fOp dMod (fCB bInt (fCons (fOp dDiv (fVar 6) (fC (.int 8))) fNil)) (fVar 1))))) [some (.ref k), some (.int lim), x2, x3, none, none, none] s1 = .rt (.int r) s1 := by
    intro w s1 hs ha hd0 hd1 hw0 hw1 x2 x3
    obtain ⟨i0, i1, i2, i3, i4, _, _⟩ := srcIx hs
    have m1 : mulOk 6151 w.b = true := mulOk_log (a := 17) (b := 61) (by decide) (log_of hw0 hw1 (by decide)) (by decide)
    have m2 : mulOk (w.d + 6151 * w.b + 1) 69621 = true := mulOk_log (a := 100) (b := 17) (log_of (by omega) (by omega) (by decide)) (by decide) (by decide)
    obtain ⟨one, hone⟩ : ∃ z, z = (w.d + 6151 * w.b + 1) * 69621 % 2147483647 := ⟨_, rfl⟩
    have o0 : 0 ≤ one := by rw [hone]; exact Int.emod_nonneg _ (by decide)
    have o1 : one < 2147483647 := by rw [hone]; exact Int.emod_lt_of_pos _ (by decide)
    have q0 : 0 ≤ one / 1013 := Int.ediv_nonneg o0 (by decide)
    have q1 : one / 1013 ≤ one := Int.ediv_le_self _ o0
    have m3 : mulOk one (one / 1013 + 48271) = true := mulOk_log (a := 31) (b := 33) (log_of o0 (by omega) (by decide)) (log_of (by omega) (by omega) (by decide)) (by decide)
    obtain ⟨two, htwo⟩ : ∃ z, z = one * (one / 1013 + 48271) % 2147483647 := ⟨_, rfl⟩
    have t0 : 0 ≤ two := by rw [htwo]; exact Int.emod_nonneg _ (by decide)
    have t1 : two < 2147483647 := by rw [htwo]; exact Int.emod_lt_of_pos _ (by decide)
    have u0 : 0 ≤ two / 2011 := Int.ediv_nonneg t0 (by decide)
    have u1 : two / 2011 ≤ two := Int.ediv_le_self _ t0
    have m4 : mulOk two (two / 2011 + 40692) = true := mulOk_log (a := 31) (b := 33) (log_of t0 (by omega) (by decide)) (log_of (by omega) (by omega) (by decide)) (by decide)
    refine ⟨two * (two / 2011 + 40692) % 2147483399 / 8 % lim, Int.emod_nonneg _ (by omega), Int.emod_lt_of_pos _ h0, ?_⟩
    simp [fVar, i4, i3, m1, m2, dMod_int, dDiv_int, ← hone, m3, ← htwo, m4, h0]
  -- the second part: a great number gives its digits
  have mid : ∀ (w : SrcV) (s1 : S), s1[k]? = some w.o → w.Ok (n + 1) → ∀ (x2 : Option D), ∃ (r : Int) (v' : SrcV), 0 ≤ r ∧ r < lim ∧ v'.Ok (n + 1) ∧
      (sSeq (sIf (fTst (fOp dGt (fOp dIx (fVar 0) (fC (.int 2))) (fC (.int 0)))) (sSeq (sAsg 3 (fOp dMod (fCB bInt (fCons (fOp dIx (fVar 0) (fC (.int 2))) fNil)) (fVar 1)))
    (sSeq (sPut dPut (fOp dDiv (fOp dIx (fVar 0) (fC (.int 2))) (fVar 1)) (fVar 0) (fC (.int 2)))
    (sRet (fVar 3)))) sNext)
    (sSeq (sAsg 4 (fOp dMod (fCB bInt (fCons (fOp dMul (fOp dAdd (fOp dAdd (fOp dIx (fVar 0) (fC (.int 4))) (fOp dMul (fC (.int 6151)) (fOp dIx (fVar 0) (fC (.int 3))))) (fC (.int 1))) (fC (.int 69621))) fNil)) (fC (.int 2147483647))))
    (sSeq (sAsg 5 (fOp dMod (fCB bInt (fCons (fOp dMul (fVar 4) (fOp dAdd (fOp dDiv (fVar 4) (fC (.int 1013))) (fC (.int 48271)))) fNil)) (fC (.int 2147483647))))
    (sSeq (sAsg 6 (fOp dMod (fCB bInt (fCons (fOp dMul (fVar 5) (fOp dAdd (fOp dDiv (fVar 5) (fC (.int 2011))) (fC (.int 40692)))) fNil)) (fC (.int 2147483399))))
    (sRet (fOp dMod (fCB bInt (fCons (fOp dDiv (fVar 6) (fC (.int 8))) fNil)) (fVar 1)))))) [some (.ref k), some (.int lim), x2, none, none, none, none] s1) = .rt (.int r) (s1.set k v'.o) := by
    intro w s1 hs hw x2
    obtain ⟨i0, i1, i2, i3, i4, _, _⟩ := srcIx hs
    by_cases ha : 0 < w.a
    · refine ⟨w.a % lim, { w with a := w.a / lim }, Int.emod_nonneg _ (by omega), Int.emod_lt_of_pos _ h0, ⟨hw.i0, Int.ediv_nonneg hw.a0 (Int.le_of_lt h0), hw.b0, hw.bn, hw.d0, hw.dn, hw.cs⟩, ?_⟩
      have hp := (srcPut hs (w.a / lim)).2.1
      simp [fVar, i2, ha, dMod_int, h0, dDiv_int h0 h1, hp]
    · have ha0 : w.a = 0 := by
        have := hw.a0
        omega
      have hbn := hw.bn
      obtain ⟨r, r0, r1, e⟩ := tail w s1 hs ha0 hw.d0 hw.dn hw.b0 (by omega) x2 none
      refine ⟨r, w, r0, r1, hw, ?_⟩
      have hset : s1.set k w.o = s1 := by
        have hk := (List.getElem?_eq_some_iff.mp hs)
        obtain ⟨hk1, hk2⟩ := hk
        rw [← hk2]
        exact List.set_getElem_self hk1
      rw [hset, ← e]
      simp [fVar, i2, ha]
  -- the first part
  obtain ⟨_, _, _, _, _, _, j3⟩ := srcIx h
  have p3 := (srcPut h (v.b + 1)).2.2.1
  obtain ⟨w, hw⟩ : ∃ w : SrcV, w = { v with b := v.b + 1 } := ⟨_, rfl⟩
  rw [← hw] at p3
  have gw : (s.set k w.o)[k]? = some w.o := get_set h
  have okw : w.Ok (n + 1) := by
    subst hw
    exact ⟨ok.i0, ok.a0, by show 0 ≤ v.b + 1; omega, by show v.b + 1 ≤ ((n + 1 : Nat) : Int); have := ok.bn; omega, ok.d0, ok.dn, ok.cs⟩
  obtain ⟨i0, i1, i2, i3, i4, k1, k3⟩ := srcIx gw
  unfold drawB runF startD
  by_cases hc : w.a = 0 ∧ w.i < (w.cs.length : Int)
  · -- a cell is taken
    obtain ⟨ca, ci⟩ := hc
    have hlt : w.i.toNat < w.cs.length := by
      have := okw.i0
      omega
    obtain ⟨cell, hcell⟩ : ∃ z, w.cs[w.i.toNat]? = some z := ⟨_, List.getElem?_eq_getElem hlt⟩
    have hix : dIx (s.set k w.o) (.lst (w.cs.map D.int)) (.int w.i) = some (.int cell) := by
      rw [dIx_lst, atI_in okw.i0 (by rw [List.length_map]; exact ci), List.getElem?_map, hcell]
      rfl
    have q1 := (srcPut gw (w.i + 1)).1
    obtain ⟨u, hu⟩ : ∃ u : SrcV, u = { w with i := w.i + 1 } := ⟨_, rfl⟩
    rw [← hu] at q1
    have gu : ((s.set k w.o).set k u.o)[k]? = some u.o := get_set gw
    rw [List.set_set] at gu q1
    have oku : u.Ok (n + 1) := by
      subst hu
      exact ⟨by show 0 ≤ w.i + 1; have := okw.i0; omega, okw.a0, okw.b0, okw.bn, okw.d0, okw.dn, okw.cs⟩
    obtain ⟨a0, a1, a2, a3, a4, b1, b3⟩ := srcIx gu
    have hbits := okw.cs cell (List.mem_of_getElem? hcell)
    by_cases hbig : (1000000000000000000 : Int) ≤ cell
    · have q2 := (srcPut gu cell).2.1
      rw [List.set_set] at q2
      obtain ⟨r, v', r0, r1, ov, e⟩ := mid { u with a := cell } _ (get_set h) ⟨oku.i0, by show 0 ≤ cell; omega, oku.b0, oku.bn, oku.d0, oku.dn, oku.cs⟩ (some (.int cell))
      refine ⟨r, v', r0, r1, ov, ?_⟩
      rw [List.set_set] at e
      refine fin_rt ?_
      rw [← e]
      simp [fVar, j3, p3, i2, ca, i1, i0, ci, hix, k1, q1, powOk, hbig, q2]
    · have m1 : mulOk u.d 48271 = true := mulOk_log (a := 31) (b := 16) (log_of oku.d0 (by have := oku.dn; omega) (by decide)) (by decide) (by decide)
      have m2 : mulOk cell 2 = true := mulOk_log (a := 1048576) (b := 5) (log_bits hbits) (by decide) (by decide)
      obtain ⟨dd, hdd⟩ : ∃ z, z = (u.d * 48271 + cell * 2 + 11) % 2147483629 := ⟨_, rfl⟩
      have q4 := (srcPut gu dd).2.2.2
      rw [List.set_set] at q4
      obtain ⟨r, v', r0, r1, ov, e⟩ := mid { u with d := dd } _ (get_set h) ⟨oku.i0, oku.a0, oku.b0, oku.bn, by show 0 ≤ dd; rw [hdd]; exact Int.emod_nonneg _ (by decide), by show dd < 2147483629; rw [hdd]; exact Int.emod_lt_of_pos _ (by decide), oku.cs⟩ (some (.int cell))
      refine ⟨r, v', r0, r1, ov, ?_⟩
      rw [List.set_set] at e
      refine fin_rt ?_
      rw [← e]
      simp [fVar, j3, p3, i2, ca, i1, i0, ci, hix, k1, q1, powOk, hbig, a4, m1, m2, dMod_int, ← hdd, q4]
  · obtain ⟨r, v', r0, r1, ov, e⟩ := mid w _ gw okw none
    refine ⟨r, v', r0, r1, ov, ?_⟩
    rw [List.set_set] at e
    refine fin_rt ?_
    rw [← e]
    by_cases ca : w.a = 0
    · have ci : ¬ w.i < (w.cs.length : Int) := fun z => hc ⟨ca, z⟩
      simp [fVar, j3, p3, i2, ca, i1, i0, ci]
    · simp [fVar, j3, p3, i2, ca]

section
variable {v : SrcV} {n : Nat} {lim : Int} {r : S} {Q : Cn (D → S → Prop)} {E : Cn (Addr → List Str → List D → S → Prop)}
theorem drawB_wp (ok : v.Ok n) (hn : n < 2 ^ 60) (h0 : 0 < lim) (h1 : lim < 2 ^ 200) (h : ∀ x v', 0 ≤ x → x < lim → SrcV.Ok v' (n + 1) → Q (.int x) (v'.o :: r)) : @WR _ (drawB [.ref 0, .int lim] (v.o :: r)) Q E := by
  obtain ⟨x, v', x0, x1, ov, e⟩ := drawB_ok (s := v.o :: r) (k := 0) rfl ok hn h0 h1
  rw [e]
  exact h x v' x0 x1 ov
end
end SI

/-! a law's _law_shuffled -/
namespace Pg
open PySem L2 SI Mt
variable {v : SrcV} {k : Nat} {r : S} {Q : Cn (D → S → Prop)} {E : Cn (Addr → List Str → List D → S → Prop)}
end Pg

/-! a law's drawn gathers and plans -/
namespace Pg
open PySem L2 SI Mt
--TAKE
--END TAKE
variable {M : Mc} {v : SrcV} {k : Nat} {r : S} {Q : Cn (D → S → Prop)} {E : Cn (Addr → List Str → List D → S → Prop)}
section
variable {o : O} {rd fr : List Int} {zs : List Rw}
end
end Pg

/-! a law's own clauses of plans and gathers: nothing is found in a right one -/
namespace Pg
open PySem L2 SI Mt
--TAKE
--END TAKE
variable {c : Cl} {M : Mc} {zs : List Rw} {s : S} {sq : D} {rr : Option (Nat × List D)}
--DUE
end Pg

/-! early and gap by rows -/
namespace Pg
open PySem L2 SI Mt
variable {zs : List Rw} {l g : Int}
end Pg

/-! a law's own clauses of gathers are those of the program -/
namespace Pg
open PySem L2 SI Mt
variable {c : Cl} {M : Mc} {zs : List Rw} {s : S} {sq : D} {rr : Option (Nat × List D)}
--GDUE
end Pg

/-! the form of rows among which any other thing may stand -/
namespace Pg
open PySem L2 SI Mt
variable {c : Cl} {M : Mc} {s : S} {sq : D} {rr : Option (Nat × List D)} {xs : List D}
/-- a row, or any other thing in its place -/
inductive Rowy (c : Cl) : D → Prop
  | tup (ys : List D) (h : ∀ y ∈ ys, Th c y) (l : ys.length ≤ 1000) : Rowy c (.tup ys)
  | no {d : D} (h : ∀ s, bIsi c.cs s [d, .ty "tuple"] = some (.bl false)) (h1 : ∀ ys, d ≠ .tup ys) : Rowy c d
theorem bls_map {α : Type} (p : α → Bool) : ∀ xs : List α, blsOf (xs.map fun x => D.bl (p x)) = some (xs.map p)
  | [] => rfl
  | x :: xs => by
    show (blsOf (xs.map fun x => D.bl (p x))).map (p x :: ·) = _
    rw [bls_map p xs]
    rfl
theorem all_map {α : Type} (s : S) (xs : List α) (p : α → Bool) : bAll s [.lst (xs.map fun x => D.bl (p x))] = some (.bl (xs.all p)) := by
  have h : lstOf s (.lst (xs.map fun x => D.bl (p x))) = some (xs.map fun x => D.bl (p x)) := rfl
  show ((lstOf s (.lst (xs.map fun x => D.bl (p x)))).bind blsOf).map (fun bs => D.bl (bs.all id)) = _
  rw [h, Option.bind_some, bls_map, Option.map_some, List.all_map]
  rfl
theorem atI_last {xs : List D} (h : 1 ≤ xs.length) : L2.atI xs (-1) = xs[xs.length - 1]? := by
  unfold L2.atI ixN
  rw [if_neg (by decide), if_pos (by omega)]
  rw [Option.bind_some]
  congr 1
  omega
end Pg

/-! bands -/
namespace Pg
open PySem L2 SI Mt
variable {c : Cl}
def orD : Option Rt → D
  | none => .non
  | some r => rtD r
def bdD (b : Bd) : D := .tup [rtD b.1, orD b.2.1, nI b.2.2.1, nI b.2.2.2]
theorem orD_pur (r : Option Rt) : Pur (orD r) := by
  cases r with
  | none => exact fun _ => rfl
  | some r => exact rtD_pur r
theorem bdD_pur (b : Bd) : Pur (bdD b) := pur_tup fun x hx => by
  simp only [List.mem_cons, List.not_mem_nil, or_false] at hx
  rcases hx with rfl | rfl | rfl | rfl
  · exact rtD_pur _
  · exact orD_pur _
  · exact pur_int _
  · exact pur_int _
theorem btw_ok (low : Rt) (high : Option Rt) (s : S) : G_between_ratios c [rtD low, orD high] s = .ok (rtD (btw low high)) s := by
  apply eq_ok
  unfold G_between_ratios
  cases high with
  | none =>
    unfold orD rtD nI btw
    simp (implicitDefEqProofs := false) only [t2_0, t2_1, ↓w_srtT, ↓w_par2, ↓w_par3, ↓w_setd, ↓w_dict1, ↓w_maxDf, ↓w_slT, ↓w_addT, ↓w_dictT, ↓w_dictI, ↓w_get, ↓w_lrg1T, ↓w_lrg2T, ↓w_lrg1, ↓w_lrg2, ↓w_pop0, ↓w_lcT, ↓w_mth, ↓w_calm, ↓w_tryM, ↓w_tm0, ↓w_tmN, ↓w_tmS, ↓w_seq, ↓w_next, ↓w_break, ↓w_cont, ↓w_retN, ↓w_asg, ↓w_expr, ↓w_ret, ↓w_if, ↓w_asgG, ↓w_for, ↓w_put, ↓w_aug, ↓w_augS, ↓w_raise0, ↓w_raise1, ↓w_raise2, ↓w_try, ↓w_tryAs, ↓w_var, ↓w_c, ↓w_op, ↓w_chain, ↓w_notV, ↓w_andV, ↓w_orV, ↓w_ifE, ↓w_tst, ↓w_not, ↓w_and, ↓w_or, ↓w_yes, ↓w_nil, ↓w_cons, ↓w_tup, ↓w_lst, ↓w_lstT, ↓w_cb, ↓w_call, ↓w_callK, ↓w_neg, ↓w_no, ↓w_pt, ↓w_sl, ↓w_fld, ↓w_src, ↓w_rng, ↓w_enu, ↓w_listT, ↓w_app, ↓w_lc, ↓w_xf, ↓w_fldT, ↓w_make, ↓w_makeL, ↓w_run, ↓w_cut, ↓w_pure, ↓w_drop, nth2_eq, nth3_eq, w_ok, w_ex, w_nx, w_rt, w_bk, w_ct, w_exS, w_some, w_v, w_tr, w_fa, w_tb, w_ti, w_tn, w_L, w_L0, wb_not, cn_f, startD, arr, gN_eq, gTp, gCn, gNl, Option.bind_some, List.filterMap_cons, List.filterMap_nil, List.map_cons, List.map_nil, List.replicate_succ, List.replicate_zero, List.cons_append, List.nil_append, List.getElem?_cons_zero, List.getElem?_cons_succ, List.set_cons_zero, List.set_cons_succ, List.length_cons, List.length_nil, Nat.reduceAdd, Nat.reduceSub, Nat.reduceLeDiff, Nat.reduceEqDiff, Int.reducePow, Int.reduceToNat, Int.reduceNeg, Int.reduceAdd, Int.reduceMul, Int.reduceSub, Int.reduceLT, Int.reduceLE, Int.reduceEq, Nat.zero_add, Int.zero_add, big_eq, true_and, and_true, and_self, dSub_int, dAdd_int, dAddI_int, dLt_int, dLe_int, dGt_int, dGe_int, dEqD_int, bInt_int, bLen_lst, bLen_tup, bMin_int, bMax_int, bAbs_int, dIs_non, dIs_int, dIs_nn, Bool.not_true, Bool.not_false, decide_true, decide_false, reduceIte, Bool.false_eq_true, if_false, if_true, iSeq_lst, iSeq_tup, iSeq_rdl, iEnu_lst, iEnu_tup]
    push_cast
    first | rfl | exact ⟨rfl, rfl⟩
  | some h =>
    unfold orD rtD nI btw
    simp (implicitDefEqProofs := false) only [t2_0, t2_1, ↓w_srtT, ↓w_par2, ↓w_par3, ↓w_setd, ↓w_dict1, ↓w_maxDf, ↓w_slT, ↓w_addT, ↓w_dictT, ↓w_dictI, ↓w_get, ↓w_lrg1T, ↓w_lrg2T, ↓w_lrg1, ↓w_lrg2, ↓w_pop0, ↓w_lcT, ↓w_mth, ↓w_calm, ↓w_tryM, ↓w_tm0, ↓w_tmN, ↓w_tmS, ↓w_seq, ↓w_next, ↓w_break, ↓w_cont, ↓w_retN, ↓w_asg, ↓w_expr, ↓w_ret, ↓w_if, ↓w_asgG, ↓w_for, ↓w_put, ↓w_aug, ↓w_augS, ↓w_raise0, ↓w_raise1, ↓w_raise2, ↓w_try, ↓w_tryAs, ↓w_var, ↓w_c, ↓w_op, ↓w_chain, ↓w_notV, ↓w_andV, ↓w_orV, ↓w_ifE, ↓w_tst, ↓w_not, ↓w_and, ↓w_or, ↓w_yes, ↓w_nil, ↓w_cons, ↓w_tup, ↓w_lst, ↓w_lstT, ↓w_cb, ↓w_call, ↓w_callK, ↓w_neg, ↓w_no, ↓w_pt, ↓w_sl, ↓w_fld, ↓w_src, ↓w_rng, ↓w_enu, ↓w_listT, ↓w_app, ↓w_lc, ↓w_xf, ↓w_fldT, ↓w_make, ↓w_makeL, ↓w_run, ↓w_cut, ↓w_pure, ↓w_drop, nth2_eq, nth3_eq, w_ok, w_ex, w_nx, w_rt, w_bk, w_ct, w_exS, w_some, w_v, w_tr, w_fa, w_tb, w_ti, w_tn, w_L, w_L0, wb_not, cn_f, startD, arr, gN_eq, gTp, gCn, gNl, Option.bind_some, List.filterMap_cons, List.filterMap_nil, List.map_cons, List.map_nil, List.replicate_succ, List.replicate_zero, List.cons_append, List.nil_append, List.getElem?_cons_zero, List.getElem?_cons_succ, List.set_cons_zero, List.set_cons_succ, List.length_cons, List.length_nil, Nat.reduceAdd, Nat.reduceSub, Nat.reduceLeDiff, Nat.reduceEqDiff, Int.reducePow, Int.reduceToNat, Int.reduceNeg, Int.reduceAdd, Int.reduceMul, Int.reduceSub, Int.reduceLT, Int.reduceLE, Int.reduceEq, Nat.zero_add, Int.zero_add, big_eq, true_and, and_true, and_self, dSub_int, dAdd_int, dAddI_int, dLt_int, dLe_int, dGt_int, dGe_int, dEqD_int, bInt_int, bLen_lst, bLen_tup, bMin_int, bMax_int, bAbs_int, dIs_non, dIs_int, dIs_nn, Bool.not_true, Bool.not_false, decide_true, decide_false, reduceIte, Bool.false_eq_true, if_false, if_true, iSeq_lst, iSeq_tup, iSeq_rdl, iEnu_lst, iEnu_tup]
    push_cast
    first | rfl | exact ⟨rfl, rfl⟩
def prD : Option (Nat × Nat) → D
  | none => .non
  | some p => rtD p
theorem eq_pr (s : S) (a : Rt) (b : Option Rt) : dEqD false s (rtD a) (prD b) = some (.bl (decide (b = some a))) := by
  cases b with
  | none => rfl
  | some b =>
    obtain ⟨p, q⟩ := a
    obtain ⟨u, v⟩ := b
    have h := eqv_n [p, q] [u, v]
    show some (D.bl (PyData.eqvAll _ _)) = _
    have h2 : PyData.eqvAll [PyData.int (p : Int), .int (q : Int)] [.int (u : Int), .int (v : Int)] = decide ([p, q] = [u, v]) := h
    rw [h2]
    congr 2
    rw [decide_eq_decide]
    constructor
    · intro h
      cases h
      rfl
    · intro h
      cases h
      rfl
theorem rt_0 (s : S) (r : Rt) : dIx s (rtD r) (.int 0) = some (.int r.1) := rfl
theorem rt_1 (s : S) (r : Rt) : dIx s (rtD r) (.int 1) = some (.int r.2) := rfl
theorem bd_0 (s : S) (b : Bd) : dIx s (bdD b) (.int 0) = some (rtD b.1) := rfl
theorem put_last {r : S} {xs : List D} (h : 1 ≤ xs.length) (d : D) : dPut (r ++ [.lst xs]) (.ref r.length) (.int (-1)) d = some (r ++ [.lst (xs.set (xs.length - 1) d)]) := by
  unfold dPut
  simp only [get_app]
  have : ixN xs.length (-1) = some (xs.length - 1) := by
    unfold ixN
    rw [if_neg (by omega), if_pos (by omega)]
    congr 1
    omega
  rw [this]
  simp only [Option.bind_some, set_app]
theorem is_non (s : S) (h : Option Rt) : dIs true s (orD h) .non = some (.bl h.isSome) := by
  cases h <;> rfl
theorem crossN_mem {n : Nat} (hn : n ≤ 20) {r : Rt} (h : r ∈ crossN n) : Nat.gcd r.1 r.2 = 1 ∧ 1 ≤ r.1 ∧ r.1 ≤ 18 ∧ 1 ≤ r.2 ∧ r.2 ≤ 18 := rawN_mem hn ((srt_perm _).mem_iff.mp h)
theorem bands_raw {n : Nat} (n0 : 2 ≤ n) (n1 : n ≤ 20) (s : S) : Gr_checked_bands c [.int n] s = .ok (.ref s.length) (s ++ [.lst ((bandsN n).map bdD)]) := by
  apply eq_ok
  unfold Gr_checked_bands
  have hC := fun s => crossings_ok (c := c) n0 n1 s
  have hB := fun low high s => btw_ok (c := c) low high s
  have hP : ∀ (l g : Nat) (s : S) (hl : l ≤ 1000) (hg : g ≤ 1000), G_pair_at c [.int n, .int l, .int g] s = .ok (rtD (pairN n l g)) s := fun l g s hl hg => pair_ok (c := c) n0 n1 hl hg s
  generalize G_crossings c = crG at *
  generalize G_between_ratios c = btG at *
  generalize G_pair_at c = paG at *
  obtain ⟨H, eH⟩ : ∃ H, H = (crossN n).map some ++ [none] := ⟨_, rfl⟩
  have hst : (fStar (fCall 1 crG (fCons (fVar 0) fNil)) (fCons (fC .non) fNil)) [some (.int n), some (.ref s.length), some (.tup [.int 0, .int 1]), some .non, none, none, none] (s ++ [.lst []]) = .ok (H.map orD) (s ++ [.lst []]) := by
    unfold fStar
    have e1 : (fCall 1 crG (fCons (fVar 0) fNil) : F D) [some (.int n), some (.ref s.length), some (.tup [.int 0, .int 1]), some .non, none, none, none] (s ++ [.lst []]) = .ok (.lst ((crossN n).map rtD)) (s ++ [.lst []]) := by
      apply eq_ok
      simp (implicitDefEqProofs := false) only [hC, ↓w_srtT, ↓w_par2, ↓w_par3, ↓w_setd, ↓w_dict1, ↓w_maxDf, ↓w_slT, ↓w_addT, ↓w_dictT, ↓w_dictI, ↓w_get, ↓w_lrg1T, ↓w_lrg2T, ↓w_lrg1, ↓w_lrg2, ↓w_pop0, ↓w_lcT, ↓w_mth, ↓w_calm, ↓w_tryM, ↓w_tm0, ↓w_tmN, ↓w_tmS, ↓w_seq, ↓w_next, ↓w_break, ↓w_cont, ↓w_retN, ↓w_asg, ↓w_expr, ↓w_ret, ↓w_if, ↓w_asgG, ↓w_for, ↓w_put, ↓w_aug, ↓w_augS, ↓w_raise0, ↓w_raise1, ↓w_raise2, ↓w_try, ↓w_tryAs, ↓w_var, ↓w_c, ↓w_op, ↓w_chain, ↓w_notV, ↓w_andV, ↓w_orV, ↓w_ifE, ↓w_tst, ↓w_not, ↓w_and, ↓w_or, ↓w_yes, ↓w_nil, ↓w_cons, ↓w_tup, ↓w_lst, ↓w_lstT, ↓w_cb, ↓w_call, ↓w_callK, ↓w_neg, ↓w_no, ↓w_pt, ↓w_sl, ↓w_fld, ↓w_src, ↓w_rng, ↓w_enu, ↓w_listT, ↓w_app, ↓w_lc, ↓w_xf, ↓w_fldT, ↓w_make, ↓w_makeL, ↓w_run, ↓w_cut, ↓w_pure, ↓w_drop, nth2_eq, nth3_eq, w_ok, w_ex, w_nx, w_rt, w_bk, w_ct, w_exS, w_some, w_v, w_tr, w_fa, w_tb, w_ti, w_tn, w_L, w_L0, wb_not, cn_f, startD, arr, gN_eq, gTp, gCn, gNl, Option.bind_some, List.filterMap_cons, List.filterMap_nil, List.map_cons, List.map_nil, List.replicate_succ, List.replicate_zero, List.cons_append, List.nil_append, List.getElem?_cons_zero, List.getElem?_cons_succ, List.set_cons_zero, List.set_cons_succ, List.length_cons, List.length_nil, Nat.reduceAdd, Nat.reduceSub, Nat.reduceLeDiff, Nat.reduceEqDiff, Int.reducePow, Int.reduceToNat, Int.reduceNeg, Int.reduceAdd, Int.reduceMul, Int.reduceSub, Int.reduceLT, Int.reduceLE, Int.reduceEq, Nat.zero_add, Int.zero_add, big_eq, true_and, and_true, and_self, dSub_int, dAdd_int, dAddI_int, dLt_int, dLe_int, dGt_int, dGe_int, dEqD_int, bInt_int, bLen_lst, bLen_tup, bMin_int, bMax_int, bAbs_int, dIs_non, dIs_int, dIs_nn, Bool.not_true, Bool.not_false, decide_true, decide_false, reduceIte, Bool.false_eq_true, if_false, if_true, iSeq_lst, iSeq_tup, iSeq_rdl, iEnu_lst, iEnu_tup]
    rw [e1, R_bind_ok]
    subst eH
    rw [List.map_append, List.map_map]
    rfl
  generalize fStar (fCall 1 crG (fCons (fVar 0) fNil)) (fCons (fC .non) fNil) = fS at *
  have hH : ∀ h ∈ H, ∀ r, h = some r → r.1 ≤ 18 ∧ r.2 ≤ 18 := fun h hh r hr => by
    subst eH hr
    rcases List.mem_append.mp hh with h1 | h1
    · obtain ⟨r', h2, h3⟩ := List.mem_map.mp h1
      cases h3
      have := crossN_mem n1 h2
      exact ⟨this.2.2.1, this.2.2.2.2⟩
    · rw [List.mem_singleton] at h1
      cases h1
  have lH : H.length ≤ 1000 := by
    subst eH
    rw [List.length_append, List.length_map]
    have h1 := (srt_perm (rawN n)).length_eq
    have h2 := rwsN_len (n - 2) (n - 2)
    have h3 : (n - 2) * (n - 2) ≤ 18 * 18 := Nat.mul_le_mul (by omega) (by omega)
    have h4 : (crossN n).length = (rwsN (n - 2) (n - 2)).length := h1
    simp only [List.length_cons, List.length_nil]
    omega
  have eN : bandsN n = (H.foldl (bstp n) ([], (0, 1), none)).1 := by rw [eH]; rfl
  rw [eN]
  clear eN eH
  simp (implicitDefEqProofs := false) only [hst, ↓w_srtT, ↓w_par2, ↓w_par3, ↓w_setd, ↓w_dict1, ↓w_maxDf, ↓w_slT, ↓w_addT, ↓w_dictT, ↓w_dictI, ↓w_get, ↓w_lrg1T, ↓w_lrg2T, ↓w_lrg1, ↓w_lrg2, ↓w_pop0, ↓w_lcT, ↓w_mth, ↓w_calm, ↓w_tryM, ↓w_tm0, ↓w_tmN, ↓w_tmS, ↓w_seq, ↓w_next, ↓w_break, ↓w_cont, ↓w_retN, ↓w_asg, ↓w_expr, ↓w_ret, ↓w_if, ↓w_asgG, ↓w_for, ↓w_put, ↓w_aug, ↓w_augS, ↓w_raise0, ↓w_raise1, ↓w_raise2, ↓w_try, ↓w_tryAs, ↓w_var, ↓w_c, ↓w_op, ↓w_chain, ↓w_notV, ↓w_andV, ↓w_orV, ↓w_ifE, ↓w_tst, ↓w_not, ↓w_and, ↓w_or, ↓w_yes, ↓w_nil, ↓w_cons, ↓w_tup, ↓w_lst, ↓w_lstT, ↓w_cb, ↓w_call, ↓w_callK, ↓w_neg, ↓w_no, ↓w_pt, ↓w_sl, ↓w_fld, ↓w_src, ↓w_rng, ↓w_enu, ↓w_listT, ↓w_app, ↓w_lc, ↓w_xf, ↓w_fldT, ↓w_make, ↓w_makeL, ↓w_run, ↓w_cut, ↓w_pure, ↓w_drop, nth2_eq, nth3_eq, w_ok, w_ex, w_nx, w_rt, w_bk, w_ct, w_exS, w_some, w_v, w_tr, w_fa, w_tb, w_ti, w_tn, w_L, w_L0, wb_not, cn_f, startD, arr, gN_eq, gTp, gCn, gNl, Option.bind_some, List.filterMap_cons, List.filterMap_nil, List.map_cons, List.map_nil, List.replicate_succ, List.replicate_zero, List.cons_append, List.nil_append, List.getElem?_cons_zero, List.getElem?_cons_succ, List.set_cons_zero, List.set_cons_succ, List.length_cons, List.length_nil, Nat.reduceAdd, Nat.reduceSub, Nat.reduceLeDiff, Nat.reduceEqDiff, Int.reducePow, Int.reduceToNat, Int.reduceNeg, Int.reduceAdd, Int.reduceMul, Int.reduceSub, Int.reduceLT, Int.reduceLE, Int.reduceEq, Nat.zero_add, Int.zero_add, big_eq, true_and, and_true, and_self, dSub_int, dAdd_int, dAddI_int, dLt_int, dLe_int, dGt_int, dGe_int, dEqD_int, bInt_int, bLen_lst, bLen_tup, bMin_int, bMax_int, bAbs_int, dIs_non, dIs_int, dIs_nn, Bool.not_true, Bool.not_false, decide_true, decide_false, reduceIte, Bool.false_eq_true, if_false, if_true, iSeq_lst, iSeq_tup, iSeq_rdl, iEnu_lst, iEnu_tup]
  refine ⟨by rw [List.length_map]; omega, ?_⟩
  refine ws_lst (xs := H) (f := orD) (fun i L s' => ∃ (found : List Bd) (low : Rt) (pair : Option (Nat × Nat)) (y4 y5 y6 : Option D), L = [some (.int n), some (.ref s.length), some (rtD low), some (prD pair), y4, y5, y6] ∧ s' = s ++ [.lst (found.map bdD)] ∧ (H.take i).foldl (bstp n) ([], (0, 1), none) = (found, low, pair) ∧ found.length ≤ i ∧ (pair ≠ none → 1 ≤ found.length) ∧ low.1 ≤ 18 ∧ low.2 ≤ 18) ⟨[], (0, 1), none, none, none, none, rfl, rfl, rfl, Nat.le_refl _, fun h => absurd rfl h, by decide, by decide⟩ ?_ ?_
  · rintro i hi L s' ⟨found, low, pair, y4, y5, y6, rfl, rfl, hf, hl, hp, l1, l2⟩
    have tk : (H.take (i + 1)).foldl (bstp n) ([], (0, 1), none) = bstp n (found, low, pair) H[i] := by
      rw [List.take_succ_eq_append_getElem hi, List.foldl_append, hf]
      rfl
    rw [tk]
    have hh := hH H[i] (List.getElem_mem hi)
    generalize H[i] = high at *
    obtain ⟨x, y, exy⟩ : ∃ x y, btw low high = (x, y) := ⟨_, _, rfl⟩
    obtain ⟨T, S', eTS⟩ : ∃ T S', pairN n x y = (T, S') := ⟨_, _, rfl⟩
    have hxy : x ≤ 1000 ∧ y ≤ 1000 := by
      cases high with
      | none =>
        cases exy
        exact ⟨by omega, by omega⟩
      | some r =>
        have := hh r rfl
        cases exy
        exact ⟨by omega, by omega⟩
    have hb := fun s => hB low high s
    rw [exy] at hb
    have hpa := fun s => hP x y s hxy.1 hxy.2
    rw [eTS] at hpa
    have est : bstp n (found, low, pair) high = ((if pair = some (T, S') then found.set (found.length - 1) (lowOf found, high, T, S') else found ++ [(low, high, T, S')]), high.getD low, some (T, S')) := by
      unfold bstp
      dsimp only
      rw [exy]
      dsimp only
      rw [eTS]
    rw [est]
    have low' : (high.getD low).1 ≤ 18 ∧ (high.getD low).2 ≤ 18 := by
      cases high with
      | none => exact ⟨l1, l2⟩
      | some r => exact hh r rfl
    have fin : ∀ (F : List Bd) (L : Lc), F.length ≤ i + 1 → 1 ≤ F.length → (if pair = some (T, S') then found.set (found.length - 1) (lowOf found, high, T, S') else found ++ [(low, high, T, S')]) = F → ∃ (found_1 : List Bd) (low_1 : Rt) (pair_1 : Option (Nat × Nat)) (y4 y5 y6 : Option D), [some (.int n), some (.ref s.length), some (rtD (high.getD low)), some (rtD (T, S')), some (orD high), some (rtD (x, y)), some (rtD (T, S'))] = [some (.int n), some (.ref s.length), some (rtD low_1), some (prD pair_1), y4, y5, y6] ∧ s ++ [O.lst (F.map bdD)] = s ++ [O.lst (found_1.map bdD)] ∧ ((if pair = some (T, S') then found.set (found.length - 1) (lowOf found, high, T, S') else found ++ [(low, high, T, S')]), high.getD low, some (T, S')) = (found_1, low_1, pair_1) ∧ found_1.length ≤ i + 1 ∧ (pair_1 ≠ none → 1 ≤ found_1.length) ∧ low_1.1 ≤ 18 ∧ low_1.2 ≤ 18 := fun F L h1 h2 h3 => ⟨F, high.getD low, some (T, S'), _, _, _, rfl, rfl, by rw [h3], h1, fun _ => h2, low'.1, low'.2⟩
    simp (implicitDefEqProofs := false) only [hb, rt_0, rt_1, hpa, eq_pr, ↓w_srtT, ↓w_par2, ↓w_par3, ↓w_setd, ↓w_dict1, ↓w_maxDf, ↓w_slT, ↓w_addT, ↓w_dictT, ↓w_dictI, ↓w_get, ↓w_lrg1T, ↓w_lrg2T, ↓w_lrg1, ↓w_lrg2, ↓w_pop0, ↓w_lcT, ↓w_mth, ↓w_calm, ↓w_tryM, ↓w_tm0, ↓w_tmN, ↓w_tmS, ↓w_seq, ↓w_next, ↓w_break, ↓w_cont, ↓w_retN, ↓w_asg, ↓w_expr, ↓w_ret, ↓w_if, ↓w_asgG, ↓w_for, ↓w_put, ↓w_aug, ↓w_augS, ↓w_raise0, ↓w_raise1, ↓w_raise2, ↓w_try, ↓w_tryAs, ↓w_var, ↓w_c, ↓w_op, ↓w_chain, ↓w_notV, ↓w_andV, ↓w_orV, ↓w_ifE, ↓w_tst, ↓w_not, ↓w_and, ↓w_or, ↓w_yes, ↓w_nil, ↓w_cons, ↓w_tup, ↓w_lst, ↓w_lstT, ↓w_cb, ↓w_call, ↓w_callK, ↓w_neg, ↓w_no, ↓w_pt, ↓w_sl, ↓w_fld, ↓w_src, ↓w_rng, ↓w_enu, ↓w_listT, ↓w_app, ↓w_lc, ↓w_xf, ↓w_fldT, ↓w_make, ↓w_makeL, ↓w_run, ↓w_cut, ↓w_pure, ↓w_drop, nth2_eq, nth3_eq, w_ok, w_ex, w_nx, w_rt, w_bk, w_ct, w_exS, w_some, w_v, w_tr, w_fa, w_tb, w_ti, w_tn, w_L, w_L0, wb_not, cn_f, startD, arr, gN_eq, gTp, gCn, gNl, Option.bind_some, List.filterMap_cons, List.filterMap_nil, List.map_cons, List.map_nil, List.replicate_succ, List.replicate_zero, List.cons_append, List.nil_append, List.getElem?_cons_zero, List.getElem?_cons_succ, List.set_cons_zero, List.set_cons_succ, List.length_cons, List.length_nil, Nat.reduceAdd, Nat.reduceSub, Nat.reduceLeDiff, Nat.reduceEqDiff, Int.reducePow, Int.reduceToNat, Int.reduceNeg, Int.reduceAdd, Int.reduceMul, Int.reduceSub, Int.reduceLT, Int.reduceLE, Int.reduceEq, Nat.zero_add, Int.zero_add, big_eq, true_and, and_true, and_self, dSub_int, dAdd_int, dAddI_int, dLt_int, dLe_int, dGt_int, dGe_int, dEqD_int, bInt_int, bLen_lst, bLen_tup, bMin_int, bMax_int, bAbs_int, dIs_non, dIs_int, dIs_nn, Bool.not_true, Bool.not_false, decide_true, decide_false, reduceIte, Bool.false_eq_true, if_false, if_true, iSeq_lst, iSeq_tup, iSeq_rdl, iEnu_lst, iEnu_tup]
    refine wb_dec (fun h => ?_) (fun h => ?_)
    · have hne := hp (by rw [h]; simp)
      obtain ⟨pre, b, rfl⟩ : ∃ pre b, found = pre ++ [b] := ⟨found.dropLast, found.getLast (fun e => by rw [e] at hne; exact absurd hne (by decide)), (List.dropLast_concat_getLast _).symm⟩
      have ll : lowOf (pre ++ [b]) = b.1 := by unfold lowOf; rw [List.getLast?_append]; rfl
      have ix : dIx (s ++ [.lst ((pre ++ [b]).map bdD)]) (.ref s.length) (.int (-1)) = some (bdD b) := by
        rw [ap_ix, atI_last (by simp), List.map_append, List.length_append, List.length_map]
        simp
      have pt : dPut (s ++ [.lst ((pre ++ [b]).map bdD)]) (.ref s.length) (.int (-1)) (.tup [rtD b.1, orD high, .int T, .int S']) = some (s ++ [.lst (((pre ++ [b]).set ((pre ++ [b]).length - 1) (lowOf (pre ++ [b]), high, T, S')).map bdD)]) := by
        rw [put_last (by simp), ll, List.map_set, List.length_map]
        rfl
      have fin1 := fin _ [] (by rw [List.length_set]; exact Nat.le_succ_of_le hl) (by rw [List.length_set]; exact hne) (if_pos h)
      generalize (pre ++ [b]).set ((pre ++ [b]).length - 1) (lowOf (pre ++ [b]), high, T, S') = F at *
      simp (implicitDefEqProofs := false) only [ix, bd_0, rt_0, rt_1, pt, is_non, ↓w_srtT, ↓w_par2, ↓w_par3, ↓w_setd, ↓w_dict1, ↓w_maxDf, ↓w_slT, ↓w_addT, ↓w_dictT, ↓w_dictI, ↓w_get, ↓w_lrg1T, ↓w_lrg2T, ↓w_lrg1, ↓w_lrg2, ↓w_pop0, ↓w_lcT, ↓w_mth, ↓w_calm, ↓w_tryM, ↓w_tm0, ↓w_tmN, ↓w_tmS, ↓w_seq, ↓w_next, ↓w_break, ↓w_cont, ↓w_retN, ↓w_asg, ↓w_expr, ↓w_ret, ↓w_if, ↓w_asgG, ↓w_for, ↓w_put, ↓w_aug, ↓w_augS, ↓w_raise0, ↓w_raise1, ↓w_raise2, ↓w_try, ↓w_tryAs, ↓w_var, ↓w_c, ↓w_op, ↓w_chain, ↓w_notV, ↓w_andV, ↓w_orV, ↓w_ifE, ↓w_tst, ↓w_not, ↓w_and, ↓w_or, ↓w_yes, ↓w_nil, ↓w_cons, ↓w_tup, ↓w_lst, ↓w_lstT, ↓w_cb, ↓w_call, ↓w_callK, ↓w_neg, ↓w_no, ↓w_pt, ↓w_sl, ↓w_fld, ↓w_src, ↓w_rng, ↓w_enu, ↓w_listT, ↓w_app, ↓w_lc, ↓w_xf, ↓w_fldT, ↓w_make, ↓w_makeL, ↓w_run, ↓w_cut, ↓w_pure, ↓w_drop, nth2_eq, nth3_eq, w_ok, w_ex, w_nx, w_rt, w_bk, w_ct, w_exS, w_some, w_v, w_tr, w_fa, w_tb, w_ti, w_tn, w_L, w_L0, wb_not, cn_f, startD, arr, gN_eq, gTp, gCn, gNl, Option.bind_some, List.filterMap_cons, List.filterMap_nil, List.map_cons, List.map_nil, List.replicate_succ, List.replicate_zero, List.cons_append, List.nil_append, List.getElem?_cons_zero, List.getElem?_cons_succ, List.set_cons_zero, List.set_cons_succ, List.length_cons, List.length_nil, Nat.reduceAdd, Nat.reduceSub, Nat.reduceLeDiff, Nat.reduceEqDiff, Int.reducePow, Int.reduceToNat, Int.reduceNeg, Int.reduceAdd, Int.reduceMul, Int.reduceSub, Int.reduceLT, Int.reduceLE, Int.reduceEq, Nat.zero_add, Int.zero_add, big_eq, true_and, and_true, and_self, dSub_int, dAdd_int, dAddI_int, dLt_int, dLe_int, dGt_int, dGe_int, dEqD_int, bInt_int, bLen_lst, bLen_tup, bMin_int, bMax_int, bAbs_int, dIs_non, dIs_int, dIs_nn, Bool.not_true, Bool.not_false, decide_true, decide_false, reduceIte, Bool.false_eq_true, if_false, if_true, iSeq_lst, iSeq_tup, iSeq_rdl, iEnu_lst, iEnu_tup]
      cases high with
      | none =>
        exact fin1
      | some r =>
        exact fin1
    · have ap := ap_app (r := s) (xs := found.map bdD) (.tup [rtD low, orD high, .int T, .int S']) (by rw [List.length_map]; omega)
      have is := ap_isl (r := s) (xs := found.map bdD)
      have fin1 := fin _ [] (by rw [List.length_append]; exact Nat.succ_le_succ hl) (by rw [List.length_append]; exact Nat.le_add_left ..) (if_neg h)
      have em : found.map bdD ++ [.tup [rtD low, orD high, .int T, .int S']] = (found ++ [(low, high, T, S')]).map bdD := by rw [List.map_append]; rfl
      rw [em] at ap
      generalize found ++ [(low, high, T, S')] = F at *
      simp (implicitDefEqProofs := false) only [rt_0, rt_1, ap, is, is_non, ↓w_srtT, ↓w_par2, ↓w_par3, ↓w_setd, ↓w_dict1, ↓w_maxDf, ↓w_slT, ↓w_addT, ↓w_dictT, ↓w_dictI, ↓w_get, ↓w_lrg1T, ↓w_lrg2T, ↓w_lrg1, ↓w_lrg2, ↓w_pop0, ↓w_lcT, ↓w_mth, ↓w_calm, ↓w_tryM, ↓w_tm0, ↓w_tmN, ↓w_tmS, ↓w_seq, ↓w_next, ↓w_break, ↓w_cont, ↓w_retN, ↓w_asg, ↓w_expr, ↓w_ret, ↓w_if, ↓w_asgG, ↓w_for, ↓w_put, ↓w_aug, ↓w_augS, ↓w_raise0, ↓w_raise1, ↓w_raise2, ↓w_try, ↓w_tryAs, ↓w_var, ↓w_c, ↓w_op, ↓w_chain, ↓w_notV, ↓w_andV, ↓w_orV, ↓w_ifE, ↓w_tst, ↓w_not, ↓w_and, ↓w_or, ↓w_yes, ↓w_nil, ↓w_cons, ↓w_tup, ↓w_lst, ↓w_lstT, ↓w_cb, ↓w_call, ↓w_callK, ↓w_neg, ↓w_no, ↓w_pt, ↓w_sl, ↓w_fld, ↓w_src, ↓w_rng, ↓w_enu, ↓w_listT, ↓w_app, ↓w_lc, ↓w_xf, ↓w_fldT, ↓w_make, ↓w_makeL, ↓w_run, ↓w_cut, ↓w_pure, ↓w_drop, nth2_eq, nth3_eq, w_ok, w_ex, w_nx, w_rt, w_bk, w_ct, w_exS, w_some, w_v, w_tr, w_fa, w_tb, w_ti, w_tn, w_L, w_L0, wb_not, cn_f, startD, arr, gN_eq, gTp, gCn, gNl, Option.bind_some, List.filterMap_cons, List.filterMap_nil, List.map_cons, List.map_nil, List.replicate_succ, List.replicate_zero, List.cons_append, List.nil_append, List.getElem?_cons_zero, List.getElem?_cons_succ, List.set_cons_zero, List.set_cons_succ, List.length_cons, List.length_nil, Nat.reduceAdd, Nat.reduceSub, Nat.reduceLeDiff, Nat.reduceEqDiff, Int.reducePow, Int.reduceToNat, Int.reduceNeg, Int.reduceAdd, Int.reduceMul, Int.reduceSub, Int.reduceLT, Int.reduceLE, Int.reduceEq, Nat.zero_add, Int.zero_add, big_eq, true_and, and_true, and_self, dSub_int, dAdd_int, dAddI_int, dLt_int, dLe_int, dGt_int, dGe_int, dEqD_int, bInt_int, bLen_lst, bLen_tup, bMin_int, bMax_int, bAbs_int, dIs_non, dIs_int, dIs_nn, Bool.not_true, Bool.not_false, decide_true, decide_false, reduceIte, Bool.false_eq_true, if_false, if_true, iSeq_lst, iSeq_tup, iSeq_rdl, iEnu_lst, iEnu_tup]
      cases high with
      | none =>
        exact fin1
      | some r =>
        exact fin1
  · rintro L s' ⟨found, low, pair, y4, y5, y6, rfl, rfl, hf, hl, hp, l1, l2⟩
    rw [List.take_length] at hf
    rw [hf]
    simp (implicitDefEqProofs := false) only [↓w_srtT, ↓w_par2, ↓w_par3, ↓w_setd, ↓w_dict1, ↓w_maxDf, ↓w_slT, ↓w_addT, ↓w_dictT, ↓w_dictI, ↓w_get, ↓w_lrg1T, ↓w_lrg2T, ↓w_lrg1, ↓w_lrg2, ↓w_pop0, ↓w_lcT, ↓w_mth, ↓w_calm, ↓w_tryM, ↓w_tm0, ↓w_tmN, ↓w_tmS, ↓w_seq, ↓w_next, ↓w_break, ↓w_cont, ↓w_retN, ↓w_asg, ↓w_expr, ↓w_ret, ↓w_if, ↓w_asgG, ↓w_for, ↓w_put, ↓w_aug, ↓w_augS, ↓w_raise0, ↓w_raise1, ↓w_raise2, ↓w_try, ↓w_tryAs, ↓w_var, ↓w_c, ↓w_op, ↓w_chain, ↓w_notV, ↓w_andV, ↓w_orV, ↓w_ifE, ↓w_tst, ↓w_not, ↓w_and, ↓w_or, ↓w_yes, ↓w_nil, ↓w_cons, ↓w_tup, ↓w_lst, ↓w_lstT, ↓w_cb, ↓w_call, ↓w_callK, ↓w_neg, ↓w_no, ↓w_pt, ↓w_sl, ↓w_fld, ↓w_src, ↓w_rng, ↓w_enu, ↓w_listT, ↓w_app, ↓w_lc, ↓w_xf, ↓w_fldT, ↓w_make, ↓w_makeL, ↓w_run, ↓w_cut, ↓w_pure, ↓w_drop, nth2_eq, nth3_eq, w_ok, w_ex, w_nx, w_rt, w_bk, w_ct, w_exS, w_some, w_v, w_tr, w_fa, w_tb, w_ti, w_tn, w_L, w_L0, wb_not, cn_f, startD, arr, gN_eq, gTp, gCn, gNl, Option.bind_some, List.filterMap_cons, List.filterMap_nil, List.map_cons, List.map_nil, List.replicate_succ, List.replicate_zero, List.cons_append, List.nil_append, List.getElem?_cons_zero, List.getElem?_cons_succ, List.set_cons_zero, List.set_cons_succ, List.length_cons, List.length_nil, Nat.reduceAdd, Nat.reduceSub, Nat.reduceLeDiff, Nat.reduceEqDiff, Int.reducePow, Int.reduceToNat, Int.reduceNeg, Int.reduceAdd, Int.reduceMul, Int.reduceSub, Int.reduceLT, Int.reduceLE, Int.reduceEq, Nat.zero_add, Int.zero_add, big_eq, true_and, and_true, and_self, dSub_int, dAdd_int, dAddI_int, dLt_int, dLe_int, dGt_int, dGe_int, dEqD_int, bInt_int, bLen_lst, bLen_tup, bMin_int, bMax_int, bAbs_int, dIs_non, dIs_int, dIs_nn, Bool.not_true, Bool.not_false, decide_true, decide_false, reduceIte, Bool.false_eq_true, if_false, if_true, iSeq_lst, iSeq_tup, iSeq_rdl, iEnu_lst, iEnu_tup]
theorem bands_ok {n : Nat} (n0 : 2 ≤ n) (n1 : n ≤ 20) (s : S) : G_checked_bands c [.int n] s = .ok (.lst ((bandsN n).map bdD)) s := by
  apply eq_ok
  rw [show G_checked_bands c = pureF (Gr_checked_bands c) from rfl, w_pure, bands_raw n0 n1]
  refine ⟨by simp, ?_⟩
  rw [fin2_ref (Nat.le_refl _) (xs := (bandsN n).map bdD) (by simp) (fun x hx => by
    obtain ⟨r, _, rfl⟩ := List.mem_map.mp hx
    exact bdD_pur r)]
  exact ⟨rfl, rfl⟩
end Pg

namespace Pg
theorem chk2 : chkN 2 = true := by decide +kernel
theorem chk3 : chkN 3 = true := by decide +kernel
theorem chk4 : chkN 4 = true := by decide +kernel
theorem chk5 : chkN 5 = true := by decide +kernel
theorem chk6 : chkN 6 = true := by decide +kernel
theorem chk7 : chkN 7 = true := by decide +kernel
theorem chk8 : chkN 8 = true := by decide +kernel
theorem chk9 : chkN 9 = true := by decide +kernel
theorem chk10 : chkN 10 = true := by decide +kernel
theorem chk11 : chkN 11 = true := by decide +kernel
theorem chk12 : chkN 12 = true := by decide +kernel
theorem chk13 : chkN 13 = true := by decide +kernel
theorem chk14 : chkN 14 = true := by decide +kernel
theorem chk20 : chkN 20 = true := by decide +kernel
theorem chk_all {n : Nat} (h : 2 ≤ n) (h1 : n ≤ 14 ∨ n = 20) : chkN n = true := by
  rcases h1 with h1 | h1
  · have : n = 2 ∨ n = 3 ∨ n = 4 ∨ n = 5 ∨ n = 6 ∨ n = 7 ∨ n = 8 ∨ n = 9 ∨ n = 10 ∨ n = 11 ∨ n = 12 ∨ n = 13 ∨ n = 14 := by omega
    rcases this with rfl | rfl | rfl | rfl | rfl | rfl | rfl | rfl | rfl | rfl | rfl | rfl | rfl
    · exact chk2
    · exact chk3
    · exact chk4
    · exact chk5
    · exact chk6
    · exact chk7
    · exact chk8
    · exact chk9
    · exact chk10
    · exact chk11
    · exact chk12
    · exact chk13
    · exact chk14
  · rw [h1]
    exact chk20
end Pg

/-! words heard in a right gather: the tree below a hand -/
namespace Pg
open PySem L2 SI Mt
variable {l g : Int} {n : Nat} {R : List Rw}
/-- who sends to h -/
def ch (R : List Rw) (h : Int) : List Int := (R.filter fun z => decide (z.2.1 = h)).map (·.1)
/-- all below h, h included; k: fuel -/
def Wd (R : List Rw) : Nat → Int → List Int
  | 0, h => [h]
  | k + 1, h => h :: (ch R h).flatMap (Wd R k)
/-- all below h -/
def V (R : List Rw) (h : Int) : List Int := Wd R R.length h
end Pg

/-! no right gather ends too soon -/
namespace Pg
open PySem L2 SI Mt
variable {M : Mc} {n : Nat} {R : List Rw}
end Pg

/-! in_order, first_names -/
namespace Pg
open PySem L2 SI Mt
variable {c : Cl} {M : Mc} {t : Option Nat} {rs : List Int}
def gL (c : Cl) (M : Mc) (t : Option Nat) (rs : List Int) (k : Nat) (m : D) (y5 y6 y7 : Option D) : Lc := [some (M.d c), some (tD t), some (.lst (rs.map D.int)), some (.ref k), some m, y5, y6, y7, none, none]
inductive InSt (c : Cl) (M : Mc) (t : Option Nat) (rs : List Int) (s : S) (o : O) (ph : Nat) (Lg : Lc) (s0 : S) (W : List NP) : Prop
  | new (h0 : ph = 0) (h1 : Lg = startD 10 [M.d c, tD t, .lst (rs.map D.int)]) (h2 : s0 = s ++ [o]) (h3 : W = rts rs)
  | old (W1 : List NP) (m : NP) (y5 y6 y7 : Option D) (h0 : ph = 1) (h1 : Lg = gL c M t rs (s.length + 1) (kD M rs m) y5 y6 y7) (h2 : s0 = s ++ [o, .lst (W1.map (kD M rs))]) (h3 : W = W1 ++ kids t m) (h4 : m.2.length ≤ 300) (h5 : W1.length ≤ 300)
end Pg

/-! checked_names, plan_of, best_plan -/
namespace Pg
open PySem L2 SI Mt
variable {c : Cl} {M : Mc} {t : Option Nat}
def pos : List NP → NP → Nat
  | [], _ => 0
  | y :: ys, x => if y = x then 0 else pos ys x + 1
/-- a tree of names -/
structure TrG (Y : List NP) : Prop where
  ok : ∀ y ∈ Y, OkN none 1 y.1 y.2
  nd : Y.Nodup
  l0 : 0 < Y.length
  l1 : Y.length ≤ 100
  rt : ∀ i (hi : i < Y.length), i = 0 → Y[i] = (0, [])
  up : ∀ i (hi : i < Y.length), 0 < i → ∃ ms a, Y[i] = (0, ms ++ [a]) ∧ (0, ms) ∈ Y ∧ ∀ a', a = a' + 1 → (0, ms ++ [a']) ∈ Y
def yAt (Y : List NP) (i : Nat) : NP := Y.getD i (0, [])
theorem yAt_eq {Y : List NP} {i : Nat} (hi : i < Y.length) : yAt Y i = Y[i] := by
  unfold yAt
  rw [List.getD_eq_getElem?_getD, List.getElem?_eq_getElem hi]
  rfl
/-- the row of the hand i -/
def plRow (M : Mc) (Y : List NP) (i : Nat) : Rw := (((pos Y ((yAt Y i).1, (yAt Y i).2.dropLast) : Nat) : Int), ((i : Nat) : Int), TmN M [0] (yAt Y i) - M.letter)
theorem TrG.row {Y : List NP} (h : TrG Y) {i : Nat} (h0 : 0 < i) (hi : i < Y.length) : ∃ ms a, Y[i] = (0, ms ++ [a]) ∧ (0, ms) ∈ Y ∧ plRow M Y i = (((pos Y (0, ms) : Nat) : Int), ((i : Nat) : Int), TM M [0] 0 ms + a * M.gap) := by
  obtain ⟨ms, a, e, hm, _⟩ := h.up i hi h0
  refine ⟨ms, a, e, hm, ?_⟩
  unfold plRow
  rw [yAt_eq hi, e]
  unfold TmN
  dsimp only
  rw [List.dropLast_concat, TM_snoc, show TM M [0] 0 ms + M.letter + a * M.gap - M.letter = TM M [0] 0 ms + a * M.gap by omega]
end Pg

/-! mirrors: when they begin and end; the same rows, tracked -/
namespace Pg
open PySem L2 SI Mt
variable {c : Cl} {M : Mc} {zs : List Rw} {l L m : Int}
def sts (zs : List Rw) : List Int := zs.map fun z => z.2.2
/-- the least start, or the end where there is none -/
structure Lo (l : Int) (zs : List Rw) (m : Int) : Prop where
  eq : lsI ((l + endP 0 zs) :: sts zs) = some m
  le : ∀ z ∈ zs, m ≤ z.2.2
  mem : zs ≠ [] → ∃ z ∈ zs, z.2.2 = m
  m0 : 0 ≤ m
theorem isi_refl {cs : List Addr} {s : S} {k : Nat} {xs : List D} (e : s[k]? = some (.lst xs)) (ty : String) : bIsi cs s [.ref k, .ty ty] = bIsi cs s [.lst xs, .ty ty] := by
  have t : tyD s (.ref k) = tyD s (.lst xs) := by simp only [tyD, e]
  have i : insOf s (.ref k) = none := by unfold insOf; simp only [e]
  unfold bIsi isi1
  simp only [t, i]
  rfl
/-- the same data, of which the first is tracked -/
theorem same_ref {n : Nat} {xs : List D} {s : S} {k : Nat} (e : s[k]? = some (.lst xs)) (h : smOk (n + 1) (.lst xs) = true) : sameN c (n + 1) [.ref k, .lst xs] s = .ok (.bl true) s := by
  have ih := same_refl (c := c) n
  apply eq_ok
  rw [sameN]
  have lb : ∀ (xs : List D) (y : String), y ∈ ["bool", "int", "str"] → bIsi c.cs s [.lst xs, .ty y] = some (.bl false) := fun xs y hy => by
    simp only [List.mem_cons, List.not_mem_nil, or_false] at hy
    rcases hy with rfl | rfl | rfl <;> rfl
  simp only [smOk, Bool.and_eq_true, decide_eq_true_eq] at h
  obtain ⟨hl, ha⟩ := h
  have hq := sq_ref e
  simp (implicitDefEqProofs := false) only [show dIs false s (.lst xs) .non = some (.bl false) from rfl, lb xs "bool" (by simp), lb xs "int" (by simp), lb xs "str" (by simp), show bIsi c.cs s [.lst xs, .ty "list"] = some (.bl true) from rfl, show bIsi c.cs s [.lst xs, .ty "tuple"] = some (.bl false) from rfl, isi_refl (cs := c.cs) e "list", hq.len (pfx_refl s), ↓w_srtT, ↓w_par2, ↓w_par3, ↓w_setd, ↓w_dict1, ↓w_maxDf, ↓w_slT, ↓w_addT, ↓w_dictT, ↓w_dictI, ↓w_get, ↓w_lrg1T, ↓w_lrg2T, ↓w_lrg1, ↓w_lrg2, ↓w_pop0, ↓w_lcT, ↓w_mth, ↓w_calm, ↓w_tryM, ↓w_tm0, ↓w_tmN, ↓w_tmS, ↓w_seq, ↓w_next, ↓w_break, ↓w_cont, ↓w_retN, ↓w_asg, ↓w_expr, ↓w_ret, ↓w_if, ↓w_asgG, ↓w_for, ↓w_put, ↓w_aug, ↓w_augS, ↓w_raise0, ↓w_raise1, ↓w_raise2, ↓w_try, ↓w_tryAs, ↓w_var, ↓w_c, ↓w_op, ↓w_chain, ↓w_notV, ↓w_andV, ↓w_orV, ↓w_ifE, ↓w_tst, ↓w_not, ↓w_and, ↓w_or, ↓w_yes, ↓w_nil, ↓w_cons, ↓w_tup, ↓w_lst, ↓w_lstT, ↓w_cb, ↓w_call, ↓w_callK, ↓w_neg, ↓w_no, ↓w_pt, ↓w_sl, ↓w_fld, ↓w_src, ↓w_rng, ↓w_enu, ↓w_listT, ↓w_app, ↓w_lc, ↓w_xf, ↓w_fldT, ↓w_make, ↓w_makeL, ↓w_run, ↓w_cut, ↓w_pure, ↓w_drop, nth2_eq, nth3_eq, w_ok, w_ex, w_nx, w_rt, w_bk, w_ct, w_exS, w_some, w_v, w_tr, w_fa, w_tb, w_ti, w_tn, w_L, w_L0, wb_not, cn_f, startD, arr, gN_eq, gTp, gCn, gNl, Option.bind_some, List.filterMap_cons, List.filterMap_nil, List.map_cons, List.map_nil, List.replicate_succ, List.replicate_zero, List.cons_append, List.nil_append, List.getElem?_cons_zero, List.getElem?_cons_succ, List.set_cons_zero, List.set_cons_succ, List.length_cons, List.length_nil, Nat.reduceAdd, Nat.reduceSub, Nat.reduceLeDiff, Nat.reduceEqDiff, Int.reducePow, Int.reduceToNat, Int.reduceNeg, Int.reduceAdd, Int.reduceMul, Int.reduceSub, Int.reduceLT, Int.reduceLE, Int.reduceEq, Nat.zero_add, Int.zero_add, big_eq, true_and, and_true, and_self, dSub_int, dAdd_int, dAddI_int, dLt_int, dLe_int, dGt_int, dGe_int, dEqD_int, bInt_int, bLen_lst, bLen_tup, bMin_int, bMax_int, bAbs_int, dIs_non, dIs_int, dIs_nn, Bool.not_true, Bool.not_false, decide_true, decide_false, reduceIte, Bool.false_eq_true, if_false, if_true, iSeq_lst, iSeq_tup, iSeq_rdl, iEnu_lst, iEnu_tup]
  rw [rng1 (by omega) (by omega), w_some, Int.toNat_natCast]
  refine ws_rng (fun i L s' => ∃ y, L = [some (.ref k), some (.lst xs), y] ∧ s = s') ⟨none, rfl, rfl⟩ ?_ ?_
  · rintro i L s' hi ⟨y, rfl, rfl⟩
    simp (implicitDefEqProofs := false) only [il_at s hi, hq.ix (pfx_refl s) hi, ih xs[i] (List.all_eq_true.mp ha _ (List.getElem_mem hi)) s, ↓w_srtT, ↓w_par2, ↓w_par3, ↓w_setd, ↓w_dict1, ↓w_maxDf, ↓w_slT, ↓w_addT, ↓w_dictT, ↓w_dictI, ↓w_get, ↓w_lrg1T, ↓w_lrg2T, ↓w_lrg1, ↓w_lrg2, ↓w_pop0, ↓w_lcT, ↓w_mth, ↓w_calm, ↓w_tryM, ↓w_tm0, ↓w_tmN, ↓w_tmS, ↓w_seq, ↓w_next, ↓w_break, ↓w_cont, ↓w_retN, ↓w_asg, ↓w_expr, ↓w_ret, ↓w_if, ↓w_asgG, ↓w_for, ↓w_put, ↓w_aug, ↓w_augS, ↓w_raise0, ↓w_raise1, ↓w_raise2, ↓w_try, ↓w_tryAs, ↓w_var, ↓w_c, ↓w_op, ↓w_chain, ↓w_notV, ↓w_andV, ↓w_orV, ↓w_ifE, ↓w_tst, ↓w_not, ↓w_and, ↓w_or, ↓w_yes, ↓w_nil, ↓w_cons, ↓w_tup, ↓w_lst, ↓w_lstT, ↓w_cb, ↓w_call, ↓w_callK, ↓w_neg, ↓w_no, ↓w_pt, ↓w_sl, ↓w_fld, ↓w_src, ↓w_rng, ↓w_enu, ↓w_listT, ↓w_app, ↓w_lc, ↓w_xf, ↓w_fldT, ↓w_make, ↓w_makeL, ↓w_run, ↓w_cut, ↓w_pure, ↓w_drop, nth2_eq, nth3_eq, w_ok, w_ex, w_nx, w_rt, w_bk, w_ct, w_exS, w_some, w_v, w_tr, w_fa, w_tb, w_ti, w_tn, w_L, w_L0, wb_not, cn_f, startD, arr, gN_eq, gTp, gCn, gNl, Option.bind_some, List.filterMap_cons, List.filterMap_nil, List.map_cons, List.map_nil, List.replicate_succ, List.replicate_zero, List.cons_append, List.nil_append, List.getElem?_cons_zero, List.getElem?_cons_succ, List.set_cons_zero, List.set_cons_succ, List.length_cons, List.length_nil, Nat.reduceAdd, Nat.reduceSub, Nat.reduceLeDiff, Nat.reduceEqDiff, Int.reducePow, Int.reduceToNat, Int.reduceNeg, Int.reduceAdd, Int.reduceMul, Int.reduceSub, Int.reduceLT, Int.reduceLE, Int.reduceEq, Nat.zero_add, Int.zero_add, big_eq, true_and, and_true, and_self, dSub_int, dAdd_int, dAddI_int, dLt_int, dLe_int, dGt_int, dGe_int, dEqD_int, bInt_int, bLen_lst, bLen_tup, bMin_int, bMax_int, bAbs_int, dIs_non, dIs_int, dIs_nn, Bool.not_true, Bool.not_false, decide_true, decide_false, reduceIte, Bool.false_eq_true, if_false, if_true, iSeq_lst, iSeq_tup, iSeq_rdl, iEnu_lst, iEnu_tup]
    exact ⟨_, rfl⟩
  · rintro L s' ⟨y, rfl, rfl⟩
    simp (implicitDefEqProofs := false) only [↓w_srtT, ↓w_par2, ↓w_par3, ↓w_setd, ↓w_dict1, ↓w_maxDf, ↓w_slT, ↓w_addT, ↓w_dictT, ↓w_dictI, ↓w_get, ↓w_lrg1T, ↓w_lrg2T, ↓w_lrg1, ↓w_lrg2, ↓w_pop0, ↓w_lcT, ↓w_mth, ↓w_calm, ↓w_tryM, ↓w_tm0, ↓w_tmN, ↓w_tmS, ↓w_seq, ↓w_next, ↓w_break, ↓w_cont, ↓w_retN, ↓w_asg, ↓w_expr, ↓w_ret, ↓w_if, ↓w_asgG, ↓w_for, ↓w_put, ↓w_aug, ↓w_augS, ↓w_raise0, ↓w_raise1, ↓w_raise2, ↓w_try, ↓w_tryAs, ↓w_var, ↓w_c, ↓w_op, ↓w_chain, ↓w_notV, ↓w_andV, ↓w_orV, ↓w_ifE, ↓w_tst, ↓w_not, ↓w_and, ↓w_or, ↓w_yes, ↓w_nil, ↓w_cons, ↓w_tup, ↓w_lst, ↓w_lstT, ↓w_cb, ↓w_call, ↓w_callK, ↓w_neg, ↓w_no, ↓w_pt, ↓w_sl, ↓w_fld, ↓w_src, ↓w_rng, ↓w_enu, ↓w_listT, ↓w_app, ↓w_lc, ↓w_xf, ↓w_fldT, ↓w_make, ↓w_makeL, ↓w_run, ↓w_cut, ↓w_pure, ↓w_drop, nth2_eq, nth3_eq, w_ok, w_ex, w_nx, w_rt, w_bk, w_ct, w_exS, w_some, w_v, w_tr, w_fa, w_tb, w_ti, w_tn, w_L, w_L0, wb_not, cn_f, startD, arr, gN_eq, gTp, gCn, gNl, Option.bind_some, List.filterMap_cons, List.filterMap_nil, List.map_cons, List.map_nil, List.replicate_succ, List.replicate_zero, List.cons_append, List.nil_append, List.getElem?_cons_zero, List.getElem?_cons_succ, List.set_cons_zero, List.set_cons_succ, List.length_cons, List.length_nil, Nat.reduceAdd, Nat.reduceSub, Nat.reduceLeDiff, Nat.reduceEqDiff, Int.reducePow, Int.reduceToNat, Int.reduceNeg, Int.reduceAdd, Int.reduceMul, Int.reduceSub, Int.reduceLT, Int.reduceLE, Int.reduceEq, Nat.zero_add, Int.zero_add, big_eq, true_and, and_true, and_self, dSub_int, dAdd_int, dAddI_int, dLt_int, dLe_int, dGt_int, dGe_int, dEqD_int, bInt_int, bLen_lst, bLen_tup, bMin_int, bMax_int, bAbs_int, dIs_non, dIs_int, dIs_nn, Bool.not_true, Bool.not_false, decide_true, decide_false, reduceIte, Bool.false_eq_true, if_false, if_true, iSeq_lst, iSeq_tup, iSeq_rdl, iEnu_lst, iEnu_tup]
end Pg

/-! a law's own times at which the hands of the growing tree know -/
namespace Pg
open PySem L2 SI Mt
variable {c : Cl} {M : Mc}
section
variable {n : Int} {zs : List Rw} {s : S} {sq : D} {rr : Option (Nat × List D)}
end
end Pg

/-! what holds of bands -/
namespace Pg
open PySem L2 SI Mt
variable {c : Cl}
structure RtP (r : Rt) : Prop where
  co : Nat.gcd r.1 r.2 = 1
  y1 : 1 ≤ r.2
  x2 : r.1 ≤ 18
  y2 : r.2 ≤ 18
theorem rtOk_p {r : Rt} (h : rtOk r = true) : RtP r := by
  unfold rtOk at h
  simp only [Bool.and_eq_true, beq_iff_eq, Nat.ble_eq] at h
  exact ⟨h.1.1.1, h.1.1.2, h.1.2, h.2⟩
structure BdP (n : Nat) (b : Bd) : Prop where
  chk : chkB n (crossN n) b = true
  lo : RtP b.1
  hi : ∀ r, b.2.1 = some r → RtP r
  T : b.2.2.1 ≤ 20
  S : b.2.2.2 ≤ 20
/-- two bands in a row -/
structure NxP (b b' : Bd) (h : Rt) : Prop where
  hi : b.2.1 = some h
  lt : b.1.1 * h.2 < h.1 * b.1.2
  lo : b'.1 = h
  ne : b'.2.2 ≠ b.2.2
  eq : (h.1 : Int) * ((b.2.2.1 : Int) - b'.2.2.1) = h.2 * ((b'.2.2.2 : Int) - b.2.2.2)
theorem chkL_nx {n : Nat} : ∀ {bs : List Bd}, chkL n bs = true → ∀ (i : Nat) (hi : i + 1 < bs.length), ∃ h, RtP h ∧ NxP bs[i] bs[i + 1] h
  | [], h, i, hi => by simp at hi
  | [b], h, i, hi => by simp at hi
  | b :: b' :: r, h, i, hi => by
    unfold chkL at h
    rw [Bool.and_eq_true] at h
    cases i with
    | succ i =>
      have := chkL_nx h.2 i (by simpa using hi)
      exact this
    | zero =>
      have h1 := h.1
      split at h1
      · cases h1
      · rename_i h' eh
        simp only [Bool.and_eq_true, beq_iff_eq, Bool.not_eq_true', decide_eq_true_eq] at h1
        obtain ⟨⟨⟨⟨a1, a2⟩, a3⟩, a4⟩, a5⟩ := h1
        exact ⟨h', rtOk_p a1, ⟨eh, Nat.blt_eq.mp a2, a3, fun e => by
          have e' : b'.2.2 = b.2.2 := e
          rw [e'] at a4
          simp at a4, a5⟩⟩
theorem chkL_end {n : Nat} : ∀ {bs : List Bd}, chkL n bs = true → ∀ (i : Nat) (hi : i + 1 = bs.length), (bs[i]'(by omega)) = ((n - 2, 1), none, 1, n - 2)
  | [], h, i, hi => by simp at hi
  | [b], h, i, hi => by
    have : i = 0 := by simpa using hi
    subst this
    unfold chkL at h
    simp only [Bool.and_eq_true, beq_iff_eq] at h
    obtain ⟨⟨a1, a2⟩, a3⟩ := h
    obtain ⟨b1, b2, b3, b4⟩ := b
    dsimp only at a1 a2 a3
    rw [a1, a2, a3]
    rfl
  | b :: b' :: r, h, i, hi => by
    unfold chkL at h
    rw [Bool.and_eq_true] at h
    cases i with
    | succ i => exact chkL_end h.2 i (by simpa using hi)
    | zero => simp at hi
structure BsP (n : Nat) (bs : List Bd) : Prop where
  bd : ∀ b ∈ bs, BdP n b
  nx : ∀ (i : Nat) (hi : i + 1 < bs.length), ∃ h, RtP h ∧ NxP bs[i] bs[i + 1] h
  fin : ∀ (i : Nat) (hi : i + 1 = bs.length), (bs[i]'(by omega)) = ((n - 2, 1), none, 1, n - 2)
  len : bs.length ≤ 100
  fst : ∃ (h : 0 < bs.length), (bs[0]).1 = (0, 1) ∧ (bs[0]).2.2 = (n - 1, 0)
theorem bands_p {n : Nat} (h : 2 ≤ n) (h1 : n ≤ 14 ∨ n = 20) : BsP n (bandsN n) := by
  have k := chk_all h h1
  unfold chkN at k
  generalize bandsN n = bs at *
  rw [Bool.and_eq_true, Bool.and_eq_true, Bool.and_eq_true, List.all_eq_true] at k
  obtain ⟨⟨⟨k1, k2⟩, k3⟩, k4⟩ := k
  have nx := chkL_nx k2
  have fin := chkL_end k2
  have h0 : 0 < bs.length := by
    cases bs with
    | nil => cases k3
    | cons => simp
  refine ⟨fun b hb => ?_, nx, fin, Nat.ble_eq.mp k4, h0, ?_⟩
  · have a := k1 b hb
    simp only [Bool.and_eq_true, Nat.ble_eq] at a
    refine ⟨a.1.1.1, rtOk_p a.1.1.2, fun r hr => ?_, a.1.2, a.2⟩
    obtain ⟨i, hi, rfl⟩ := List.getElem_of_mem hb
    rcases Nat.lt_or_ge (i + 1) bs.length with h2 | h2
    · obtain ⟨h', p, q⟩ := nx i h2
      rw [q.hi] at hr
      cases hr
      exact p
    · rw [fin i (by omega)] at hr
      cases hr
  · cases bs with
    | nil => cases k3
    | cons b bs =>
      simp only [Bool.and_eq_true, beq_iff_eq] at k3
      exact k3
/-- within a band the pair of the last hand is the band's -/
theorem BdP.min {n : Nat} {b : Bd} (h : BdP n b) {M : Mc} (l0 : 1 ≤ M.letter) (g0 : 1 ≤ M.gap) (h1 : b.1.1 * M.gap ≤ M.letter * b.1.2) (h2 : ∀ r, b.2.1 = some r → M.letter * r.2 ≤ r.1 * M.gap) : MinT M none n (b.2.2.1 * M.letter + b.2.2.2 * M.gap) :=
  fit_ch l0 g0 h2 h.chk h1
theorem bands_q {n : Nat} (n0 : 2 ≤ n) (n1 : n ≤ 20) (s : S) : G_bands c [.int n] s = .ok (.lst ((bandsN n).map bdD)) s := by
  apply eq_ok
  unfold G_bands
  simp (implicitDefEqProofs := false) only [count_ok (c := c) (i := (n : Int)) (lo := 2) (hi := 20) (by omega) (by omega), bands_ok (c := c) n0 n1, ↓w_srtT, ↓w_par2, ↓w_par3, ↓w_setd, ↓w_dict1, ↓w_maxDf, ↓w_slT, ↓w_addT, ↓w_dictT, ↓w_dictI, ↓w_get, ↓w_lrg1T, ↓w_lrg2T, ↓w_lrg1, ↓w_lrg2, ↓w_pop0, ↓w_lcT, ↓w_mth, ↓w_calm, ↓w_tryM, ↓w_tm0, ↓w_tmN, ↓w_tmS, ↓w_seq, ↓w_next, ↓w_break, ↓w_cont, ↓w_retN, ↓w_asg, ↓w_expr, ↓w_ret, ↓w_if, ↓w_asgG, ↓w_for, ↓w_put, ↓w_aug, ↓w_augS, ↓w_raise0, ↓w_raise1, ↓w_raise2, ↓w_try, ↓w_tryAs, ↓w_var, ↓w_c, ↓w_op, ↓w_chain, ↓w_notV, ↓w_andV, ↓w_orV, ↓w_ifE, ↓w_tst, ↓w_not, ↓w_and, ↓w_or, ↓w_yes, ↓w_nil, ↓w_cons, ↓w_tup, ↓w_lst, ↓w_lstT, ↓w_cb, ↓w_call, ↓w_callK, ↓w_neg, ↓w_no, ↓w_pt, ↓w_sl, ↓w_fld, ↓w_src, ↓w_rng, ↓w_enu, ↓w_listT, ↓w_app, ↓w_lc, ↓w_xf, ↓w_fldT, ↓w_make, ↓w_makeL, ↓w_run, ↓w_cut, ↓w_pure, ↓w_drop, nth2_eq, nth3_eq, w_ok, w_ex, w_nx, w_rt, w_bk, w_ct, w_exS, w_some, w_v, w_tr, w_fa, w_tb, w_ti, w_tn, w_L, w_L0, wb_not, cn_f, startD, arr, gN_eq, gTp, gCn, gNl, Option.bind_some, List.filterMap_cons, List.filterMap_nil, List.map_cons, List.map_nil, List.replicate_succ, List.replicate_zero, List.cons_append, List.nil_append, List.getElem?_cons_zero, List.getElem?_cons_succ, List.set_cons_zero, List.set_cons_succ, List.length_cons, List.length_nil, Nat.reduceAdd, Nat.reduceSub, Nat.reduceLeDiff, Nat.reduceEqDiff, Int.reducePow, Int.reduceToNat, Int.reduceNeg, Int.reduceAdd, Int.reduceMul, Int.reduceSub, Int.reduceLT, Int.reduceLE, Int.reduceEq, Nat.zero_add, Int.zero_add, big_eq, true_and, and_true, and_self, dSub_int, dAdd_int, dAddI_int, dLt_int, dLe_int, dGt_int, dGe_int, dEqD_int, bInt_int, bLen_lst, bLen_tup, bMin_int, bMax_int, bAbs_int, dIs_non, dIs_int, dIs_nn, Bool.not_true, Bool.not_false, decide_true, decide_false, reduceIte, Bool.false_eq_true, if_false, if_true, iSeq_lst, iSeq_tup, iSeq_rdl, iEnu_lst, iEnu_tup]
theorem bands_r {n : Nat} (n0 : 2 ≤ n) (n1 : n ≤ 20) (s : S) : Gr_bands c [.int n] s = .ok (.ref s.length) (s ++ [.lst ((bandsN n).map bdD)]) := by
  apply eq_ok
  unfold Gr_bands
  simp (implicitDefEqProofs := false) only [count_ok (c := c) (i := (n : Int)) (lo := 2) (hi := 20) (by omega) (by omega), bands_raw (c := c) n0 n1, ↓w_srtT, ↓w_par2, ↓w_par3, ↓w_setd, ↓w_dict1, ↓w_maxDf, ↓w_slT, ↓w_addT, ↓w_dictT, ↓w_dictI, ↓w_get, ↓w_lrg1T, ↓w_lrg2T, ↓w_lrg1, ↓w_lrg2, ↓w_pop0, ↓w_lcT, ↓w_mth, ↓w_calm, ↓w_tryM, ↓w_tm0, ↓w_tmN, ↓w_tmS, ↓w_seq, ↓w_next, ↓w_break, ↓w_cont, ↓w_retN, ↓w_asg, ↓w_expr, ↓w_ret, ↓w_if, ↓w_asgG, ↓w_for, ↓w_put, ↓w_aug, ↓w_augS, ↓w_raise0, ↓w_raise1, ↓w_raise2, ↓w_try, ↓w_tryAs, ↓w_var, ↓w_c, ↓w_op, ↓w_chain, ↓w_notV, ↓w_andV, ↓w_orV, ↓w_ifE, ↓w_tst, ↓w_not, ↓w_and, ↓w_or, ↓w_yes, ↓w_nil, ↓w_cons, ↓w_tup, ↓w_lst, ↓w_lstT, ↓w_cb, ↓w_call, ↓w_callK, ↓w_neg, ↓w_no, ↓w_pt, ↓w_sl, ↓w_fld, ↓w_src, ↓w_rng, ↓w_enu, ↓w_listT, ↓w_app, ↓w_lc, ↓w_xf, ↓w_fldT, ↓w_make, ↓w_makeL, ↓w_run, ↓w_cut, ↓w_pure, ↓w_drop, nth2_eq, nth3_eq, w_ok, w_ex, w_nx, w_rt, w_bk, w_ct, w_exS, w_some, w_v, w_tr, w_fa, w_tb, w_ti, w_tn, w_L, w_L0, wb_not, cn_f, startD, arr, gN_eq, gTp, gCn, gNl, Option.bind_some, List.filterMap_cons, List.filterMap_nil, List.map_cons, List.map_nil, List.replicate_succ, List.replicate_zero, List.cons_append, List.nil_append, List.getElem?_cons_zero, List.getElem?_cons_succ, List.set_cons_zero, List.set_cons_succ, List.length_cons, List.length_nil, Nat.reduceAdd, Nat.reduceSub, Nat.reduceLeDiff, Nat.reduceEqDiff, Int.reducePow, Int.reduceToNat, Int.reduceNeg, Int.reduceAdd, Int.reduceMul, Int.reduceSub, Int.reduceLT, Int.reduceLE, Int.reduceEq, Nat.zero_add, Int.zero_add, big_eq, true_and, and_true, and_self, dSub_int, dAdd_int, dAddI_int, dLt_int, dLe_int, dGt_int, dGe_int, dEqD_int, bInt_int, bLen_lst, bLen_tup, bMin_int, bMax_int, bAbs_int, dIs_non, dIs_int, dIs_nn, Bool.not_true, Bool.not_false, decide_true, decide_false, reduceIte, Bool.false_eq_true, if_false, if_true, iSeq_lst, iSeq_tup, iSeq_rdl, iEnu_lst, iEnu_tup]
end Pg

/-! law k61: the law's own bands -/
namespace Pg
def pst61 (ss : List Nat) : Nat → List Nat
  | 0 => ss
  | i + 1 => (pst61 ss i).set (i + 1) ((pst61 ss i).getD (i + 1) 0 + (pst61 ss i).getD i 0)
def prs61 (b : Nat) : Nat → List Nat
  | 0 => List.replicate (b + 1) 1
  | t + 1 => pst61 (prs61 b t) b
def wyL (a b : Nat) : Nat := if a = 0 then (if b = 0 then 1 else 0) else (prs61 b (a - 1)).getD b 0
abbrev T3 := Nat × Nat × Nat
def tr3 (r : Rt) (a b : Nat) : T3 := (a * r.1 + b * r.2, a, b)
def rowL (n : Nat) (r : Rt) (a : Nat) : Nat → List T3
  | 0 => []
  | b + 1 => rowL n r a b ++ List.replicate (min n (wyL a b)) (tr3 r a b)
def rowsL (n : Nat) (r : Rt) : Nat → List T3
  | 0 => []
  | a + 1 => rowsL n r a ++ rowL n r a n
def k361 (z : T3) : List Int := [z.1, z.2.1, z.2.2]
def le3 (x y : T3) : Bool := decide (k361 x ≤ k361 y)
/-- written out -/
def ltB (x y : T3) : Bool := Nat.blt x.1 y.1 || (x.1 == y.1 && (Nat.blt x.2.1 y.2.1 || (x.2.1 == y.2.1 && Nat.blt x.2.2 y.2.2)))
def leB (x y : T3) : Bool := !ltB y x
def cntR (p : T3 → Bool) (n : Nat) (r : Rt) (a : Nat) : Nat → Nat
  | 0 => 0
  | b + 1 => cntR p n r a b + (if p (tr3 r a b) = true then min n (wyL a b) else 0)
def cntL (p : T3 → Bool) (n : Nat) (r : Rt) : Nat → Nat
  | 0 => 0
  | a + 1 => cntL p n r a + cntR p n r a n
theorem cnt_rep (p : T3 → Bool) (k : Nat) (x : T3) : (List.replicate k x).countP p = if p x = true then k else 0 := by
  rw [List.countP_replicate]
theorem cntR_ok (p : T3 → Bool) (n : Nat) (r : Rt) (a : Nat) : ∀ b, (rowL n r a b).countP p = cntR p n r a b
  | 0 => rfl
  | b + 1 => by rw [rowL, cntR, List.countP_append, cntR_ok p n r a b, cnt_rep]
theorem cntL_ok (p : T3 → Bool) (n : Nat) (r : Rt) : ∀ a, (rowsL n r a).countP p = cntL p n r a
  | 0 => rfl
  | a + 1 => by rw [rowsL, cntL, List.countP_append, cntL_ok p n r a, cntR_ok]
theorem lt3_iff (x y : T3) : ltB x y = true ↔ k361 x < k361 y := by
  obtain ⟨a, b, d⟩ := x
  obtain ⟨u, v, w⟩ := y
  unfold ltB k361
  simp only [Bool.or_eq_true, Bool.and_eq_true, Nat.blt_eq, beq_iff_eq, List.cons_lt_cons_iff, Int.ofNat_lt, Int.ofNat_inj]
  simp
theorem le3_iff (x y : T3) : le3 x y = true ↔ leB x y = true := by
  unfold le3 leB
  rw [decide_eq_true_eq, Bool.not_eq_true', ← Bool.not_eq_true, lt3_iff]
  exact List.not_lt.symm
theorem k3_inj {x y : T3} (h : k361 x = k361 y) : x = y := by
  obtain ⟨a, b, d⟩ := x
  obtain ⟨u, v, w⟩ := y
  unfold k361 at h
  simp only [List.cons.injEq, Int.ofNat_inj, and_true] at h
  obtain ⟨rfl, rfl, rfl⟩ := h
  rfl
/-- the item at a place of the sorted list -/
theorem at_sorted {xs : List T3} {x : T3} {m : Nat} (h1 : xs.countP (fun y => ltB y x) ≤ m) (h2 : m < xs.countP fun y => leB y x) : (xs.mergeSort le3)[m]? = some x := by
  have hp := List.mergeSort_perm xs le3
  have hs : (xs.mergeSort le3).Pairwise fun a b => le3 a b = true := List.pairwise_mergeSort (le := le3) (fun a b c h1 h2 => decide_eq_true (List.le_trans (of_decide_eq_true h1) (of_decide_eq_true h2))) (fun a b => by
    rcases List.le_total (k361 a) (k361 b) with q | q
    · simp [le3, q]
    · simp [le3, q]) xs
  rw [← hp.countP_eq] at h1 h2
  generalize xs.mergeSort le3 = zs at *
  have hm : m < zs.length := Nat.lt_of_lt_of_le h2 (List.countP_le_length ..)
  rw [List.getElem?_eq_getElem hm]
  congr 1
  have tk : zs = zs.take m ++ zs[m] :: zs.drop (m + 1) := by rw [← List.drop_eq_getElem_cons hm, List.take_append_drop]
  generalize hz : zs[m] = z at *
  have hl : (zs.take m).length = m := by rw [List.length_take]; omega
  generalize zs.take m = us at *
  generalize zs.drop (m + 1) = vs at *
  clear hz
  subst tk
  rw [List.pairwise_append, List.pairwise_cons] at hs
  obtain ⟨p1, ⟨p2, p3⟩, p4⟩ := hs
  have key : ∀ a b : T3, le3 a b = true ↔ ¬ k361 b < k361 a := fun a b => by
    unfold le3
    rw [decide_eq_true_eq]
    exact List.not_lt.symm
  have nlt : ¬ k361 z < k361 x := fun h => by
    have hz : ltB z x = true := (lt3_iff ..).mpr h
    have hu : us.countP (fun y => ltB y x) = us.length := List.countP_eq_length.mpr fun y hy => by
      have := (key _ _).mp (p4 y hy z (List.mem_cons_self ..))
      exact (lt3_iff ..).mpr (List.lt_of_le_of_lt (List.not_lt.mp this) h)
    rw [List.countP_append, List.countP_cons, hu, hz, if_pos rfl] at h1
    omega
  have ngt : ¬ k361 x < k361 z := fun h => by
    have hv : (z :: vs).countP (fun y => leB y x) = 0 := List.countP_eq_zero.mpr fun y hy => by
      rw [← le3_iff, key]
      rcases List.mem_cons.mp hy with rfl | hy
      · exact fun q => q h
      · have := (key _ _).mp (p2 y hy)
        exact fun q => List.not_lt.mpr (List.le_trans (List.not_lt.mp this) (List.not_lt.mp q)) h
    have hu : us.countP (fun y => leB y x) ≤ us.length := List.countP_le_length ..
    rw [List.countP_append, hv] at h2
    omega
  exact k3_inj (List.le_antisymm (List.not_lt.mp ngt) (List.not_lt.mp nlt))
/-- the law's pair is the program's -/
def chkP (n : Nat) (r : Rt) : Bool := match pairN n r.1 r.2 with
  | (T, S) => Nat.ble (cntL (fun y => ltB y (tr3 r T S)) n r n) (n - 1) && Nat.blt (n - 1) (cntL (fun y => leB y (tr3 r T S)) n r n)
theorem chkP_ok {n : Nat} {r : Rt} (h : chkP n r = true) : ((rowsL n r n).mergeSort le3)[n - 1]? = some (tr3 r (pairN n r.1 r.2).1 (pairN n r.1 r.2).2) := by
  unfold chkP at h
  generalize pairN n r.1 r.2 = q at *
  obtain ⟨T, S⟩ := q
  simp only [Bool.and_eq_true, Nat.ble_eq, Nat.blt_eq] at h
  exact at_sorted (by rw [cntL_ok]; exact h.1) (by rw [cntL_ok]; exact h.2)
def insL (F : List Rt) (u d : Nat) : List Rt := F.take (F.filter fun r => Nat.blt (r.1 * d) (u * r.2)).length ++ [(u, d)] ++ F.drop (F.filter fun r => Nat.blt (r.1 * d) (u * r.2)).length
def rowE (F : List Rt) (u : Nat) : Nat → List Rt
  | 0 => F
  | i + 1 => if Nat.gcd u (i + 1) = 1 then insL (rowE F u i) u (i + 1) else rowE F u i
def endsE (m : Nat) : Nat → List Rt
  | 0 => []
  | k + 1 => rowE (endsE m k) (k + 1) m
def lowAt (E : List Rt) (i : Nat) : Rt := if i = 0 then (0, 1) else if 0 < E.length then E.getD (min (i - 1) (E.length - 1)) (0, 1) else (0, 1)
def bstL (n : Nat) (E : List Rt) (F : List Bd) (i : Nat) : List Bd := match pairN n (btw (lowAt E i) E[i]?).1 (btw (lowAt E i) E[i]?).2 with
  | (T, S) => match F.getLast? with
    | none => F ++ [(lowAt E i, E[i]?, T, S)]
    | some b => if b.2.2 = (T, S) then F.set (F.length - 1) (b.1, E[i]?, T, S) else F ++ [(lowAt E i, E[i]?, T, S)]
def chk61 (n : Nat) : Bool := decide (endsE (n - 2) (n - 2) = crossN n) && decide ((List.range ((crossN n).length + 1)).foldl (bstL n (crossN n)) [] = bandsN n) && (List.range ((crossN n).length + 1)).all fun i => chkP n (btw (lowAt (crossN n) i) (crossN n)[i]?)
theorem chk61_all {n : Nat} (h : 2 ≤ n) (h1 : n ≤ 8) : chk61 n = true := by
  have k2 : chk61 2 = true := by decide +kernel
  have k3 : chk61 3 = true := by decide +kernel
  have k4 : chk61 4 = true := by decide +kernel
  have k5 : chk61 5 = true := by decide +kernel
  have k6 : chk61 6 = true := by decide +kernel
  have k7 : chk61 7 = true := by decide +kernel
  have k8 : chk61 8 = true := by decide +kernel
  have : n = 2 ∨ n = 3 ∨ n = 4 ∨ n = 5 ∨ n = 6 ∨ n = 7 ∨ n = 8 := by omega
  rcases this with rfl | rfl | rfl | rfl | rfl | rfl | rfl <;> assumption
end Pg

namespace Lw
open PySem L2 SI Pg Mt
variable {c : Cl}
theorem eDraw : G__law_draw c = drawB := rfl
theorem eSrc : G__law_source c = srcG := rfl
theorem eSame : ∀ n, Gn__law_same c n = sameN c n
  | 0 => rfl
  | n + 1 => by
    unfold Gn__law_same sameN
    rw [eSame n]
    rfl
theorem same_ok {d : D} (h : smOk 24 d = true) (s : S) : G__law_same c [d, d] s = .ok (.bl true) s := by
  unfold G__law_same
  rw [eSame]
  exact same_refl 24 d h s
theorem div_ok {a b : Int} (hab : 2 * (a.natAbs * b.natAbs) + 1 < 2 ^ 199) (s : S) : G__law_divisor c [.int a, .int b] s = .ok (.int (Nat.gcd a.natAbs b.natAbs)) s := by
  apply eq_ok
  unfold G__law_divisor
  simp (implicitDefEqProofs := false) only [↓w_srtT, ↓w_par2, ↓w_par3, ↓w_setd, ↓w_dict1, ↓w_maxDf, ↓w_slT, ↓w_addT, ↓w_dictT, ↓w_dictI, ↓w_get, ↓w_lrg1T, ↓w_lrg2T, ↓w_lrg1, ↓w_lrg2, ↓w_pop0, ↓w_lcT, ↓w_mth, ↓w_calm, ↓w_tryM, ↓w_tm0, ↓w_tmN, ↓w_tmS, ↓w_seq, ↓w_next, ↓w_break, ↓w_cont, ↓w_retN, ↓w_asg, ↓w_expr, ↓w_ret, ↓w_if, ↓w_asgG, ↓w_for, ↓w_put, ↓w_aug, ↓w_augS, ↓w_raise0, ↓w_raise1, ↓w_raise2, ↓w_try, ↓w_tryAs, ↓w_var, ↓w_c, ↓w_op, ↓w_chain, ↓w_notV, ↓w_andV, ↓w_orV, ↓w_ifE, ↓w_tst, ↓w_not, ↓w_and, ↓w_or, ↓w_yes, ↓w_nil, ↓w_cons, ↓w_tup, ↓w_lst, ↓w_lstT, ↓w_cb, ↓w_call, ↓w_callK, ↓w_neg, ↓w_no, ↓w_pt, ↓w_sl, ↓w_fld, ↓w_src, ↓w_rng, ↓w_enu, ↓w_listT, ↓w_app, ↓w_lc, ↓w_xf, ↓w_fldT, ↓w_make, ↓w_makeL, ↓w_run, ↓w_cut, ↓w_pure, ↓w_drop, nth2_eq, nth3_eq, w_ok, w_ex, w_nx, w_rt, w_bk, w_ct, w_exS, w_some, w_v, w_tr, w_fa, w_tb, w_ti, w_tn, w_L, w_L0, wb_not, cn_f, startD, arr, gN_eq, gTp, gCn, gNl, Option.bind_some, List.filterMap_cons, List.filterMap_nil, List.map_cons, List.map_nil, List.replicate_succ, List.replicate_zero, List.cons_append, List.nil_append, List.getElem?_cons_zero, List.getElem?_cons_succ, List.set_cons_zero, List.set_cons_succ, List.length_cons, List.length_nil, Nat.reduceAdd, Nat.reduceSub, Nat.reduceLeDiff, Nat.reduceEqDiff, Int.reducePow, Int.reduceToNat, Int.reduceNeg, Int.reduceAdd, Int.reduceMul, Int.reduceSub, Int.reduceLT, Int.reduceLE, Int.reduceEq, Nat.zero_add, Int.zero_add, big_eq, true_and, and_true, and_self, dSub_int, dAdd_int, dAddI_int, dLt_int, dLe_int, dGt_int, dGe_int, dEqD_int, bInt_int, bLen_lst, bLen_tup, bMin_int, bMax_int, bAbs_int, dIs_non, dIs_int, dIs_nn, Bool.not_true, Bool.not_false, decide_true, decide_false, reduceIte, Bool.false_eq_true, if_false, if_true, iSeq_lst, iSeq_tup, iSeq_rdl, iEnu_lst, iEnu_tup]
  rw [rng1 (by decide) (by decide), w_some]
  refine ws_rng (fun i L s' => ∃ (x y : Nat) (y2 y3 : Option D), L = [some (.int x), some (.int y), y2, y3] ∧ s = s' ∧ Nat.gcd x y = Nat.gcd a.natAbs b.natAbs ∧ (y = 0 ∨ y ≤ x ∧ x * y < 2 ^ (199 - i) ∨ 2 * (x * y) + 1 < 2 ^ (199 - i))) ⟨a.natAbs, b.natAbs, _, _, rfl, rfl, rfl, .inr (.inr hab)⟩ ?_ ?_
  · rintro i L s' hi ⟨x, y, y2, y3, rfl, rfl, hg, hk⟩
    simp (implicitDefEqProofs := false) only [↓w_srtT, ↓w_par2, ↓w_par3, ↓w_setd, ↓w_dict1, ↓w_maxDf, ↓w_slT, ↓w_addT, ↓w_dictT, ↓w_dictI, ↓w_get, ↓w_lrg1T, ↓w_lrg2T, ↓w_lrg1, ↓w_lrg2, ↓w_pop0, ↓w_lcT, ↓w_mth, ↓w_calm, ↓w_tryM, ↓w_tm0, ↓w_tmN, ↓w_tmS, ↓w_seq, ↓w_next, ↓w_break, ↓w_cont, ↓w_retN, ↓w_asg, ↓w_expr, ↓w_ret, ↓w_if, ↓w_asgG, ↓w_for, ↓w_put, ↓w_aug, ↓w_augS, ↓w_raise0, ↓w_raise1, ↓w_raise2, ↓w_try, ↓w_tryAs, ↓w_var, ↓w_c, ↓w_op, ↓w_chain, ↓w_notV, ↓w_andV, ↓w_orV, ↓w_ifE, ↓w_tst, ↓w_not, ↓w_and, ↓w_or, ↓w_yes, ↓w_nil, ↓w_cons, ↓w_tup, ↓w_lst, ↓w_lstT, ↓w_cb, ↓w_call, ↓w_callK, ↓w_neg, ↓w_no, ↓w_pt, ↓w_sl, ↓w_fld, ↓w_src, ↓w_rng, ↓w_enu, ↓w_listT, ↓w_app, ↓w_lc, ↓w_xf, ↓w_fldT, ↓w_make, ↓w_makeL, ↓w_run, ↓w_cut, ↓w_pure, ↓w_drop, nth2_eq, nth3_eq, w_ok, w_ex, w_nx, w_rt, w_bk, w_ct, w_exS, w_some, w_v, w_tr, w_fa, w_tb, w_ti, w_tn, w_L, w_L0, wb_not, cn_f, startD, arr, gN_eq, gTp, gCn, gNl, Option.bind_some, List.filterMap_cons, List.filterMap_nil, List.map_cons, List.map_nil, List.replicate_succ, List.replicate_zero, List.cons_append, List.nil_append, List.getElem?_cons_zero, List.getElem?_cons_succ, List.set_cons_zero, List.set_cons_succ, List.length_cons, List.length_nil, Nat.reduceAdd, Nat.reduceSub, Nat.reduceLeDiff, Nat.reduceEqDiff, Int.reducePow, Int.reduceToNat, Int.reduceNeg, Int.reduceAdd, Int.reduceMul, Int.reduceSub, Int.reduceLT, Int.reduceLE, Int.reduceEq, Nat.zero_add, Int.zero_add, big_eq, true_and, and_true, and_self, dSub_int, dAdd_int, dAddI_int, dLt_int, dLe_int, dGt_int, dGe_int, dEqD_int, bInt_int, bLen_lst, bLen_tup, bMin_int, bMax_int, bAbs_int, dIs_non, dIs_int, dIs_nn, Bool.not_true, Bool.not_false, decide_true, decide_false, reduceIte, Bool.false_eq_true, if_false, if_true, iSeq_lst, iSeq_tup, iSeq_rdl, iEnu_lst, iEnu_tup]
    refine wb_dec (fun h => ?_) (fun h => ?_)
    · have y0 : 0 < y := by omega
      have em : (x : Int) % (y : Int) = ((x % y : Nat) : Int) := (Int.natCast_emod ..).symm
      simp (implicitDefEqProofs := false) only [dMod_int (s := s) (i := (x : Int)) (j := (y : Int)) h, em, ↓w_srtT, ↓w_par2, ↓w_par3, ↓w_setd, ↓w_dict1, ↓w_maxDf, ↓w_slT, ↓w_addT, ↓w_dictT, ↓w_dictI, ↓w_get, ↓w_lrg1T, ↓w_lrg2T, ↓w_lrg1, ↓w_lrg2, ↓w_pop0, ↓w_lcT, ↓w_mth, ↓w_calm, ↓w_tryM, ↓w_tm0, ↓w_tmN, ↓w_tmS, ↓w_seq, ↓w_next, ↓w_break, ↓w_cont, ↓w_retN, ↓w_asg, ↓w_expr, ↓w_ret, ↓w_if, ↓w_asgG, ↓w_for, ↓w_put, ↓w_aug, ↓w_augS, ↓w_raise0, ↓w_raise1, ↓w_raise2, ↓w_try, ↓w_tryAs, ↓w_var, ↓w_c, ↓w_op, ↓w_chain, ↓w_notV, ↓w_andV, ↓w_orV, ↓w_ifE, ↓w_tst, ↓w_not, ↓w_and, ↓w_or, ↓w_yes, ↓w_nil, ↓w_cons, ↓w_tup, ↓w_lst, ↓w_lstT, ↓w_cb, ↓w_call, ↓w_callK, ↓w_neg, ↓w_no, ↓w_pt, ↓w_sl, ↓w_fld, ↓w_src, ↓w_rng, ↓w_enu, ↓w_listT, ↓w_app, ↓w_lc, ↓w_xf, ↓w_fldT, ↓w_make, ↓w_makeL, ↓w_run, ↓w_cut, ↓w_pure, ↓w_drop, nth2_eq, nth3_eq, w_ok, w_ex, w_nx, w_rt, w_bk, w_ct, w_exS, w_some, w_v, w_tr, w_fa, w_tb, w_ti, w_tn, w_L, w_L0, wb_not, cn_f, startD, arr, gN_eq, gTp, gCn, gNl, Option.bind_some, List.filterMap_cons, List.filterMap_nil, List.map_cons, List.map_nil, List.replicate_succ, List.replicate_zero, List.cons_append, List.nil_append, List.getElem?_cons_zero, List.getElem?_cons_succ, List.set_cons_zero, List.set_cons_succ, List.length_cons, List.length_nil, Nat.reduceAdd, Nat.reduceSub, Nat.reduceLeDiff, Nat.reduceEqDiff, Int.reducePow, Int.reduceToNat, Int.reduceNeg, Int.reduceAdd, Int.reduceMul, Int.reduceSub, Int.reduceLT, Int.reduceLE, Int.reduceEq, Nat.zero_add, Int.zero_add, big_eq, true_and, and_true, and_self, dSub_int, dAdd_int, dAddI_int, dLt_int, dLe_int, dGt_int, dGe_int, dEqD_int, bInt_int, bLen_lst, bLen_tup, bMin_int, bMax_int, bAbs_int, dIs_non, dIs_int, dIs_nn, Bool.not_true, Bool.not_false, decide_true, decide_false, reduceIte, Bool.false_eq_true, if_false, if_true, iSeq_lst, iSeq_tup, iSeq_rdl, iEnu_lst, iEnu_tup]
      refine ⟨y, x % y, _, _, rfl, ?_, ?_⟩
      · rw [Nat.gcd_comm, ← Nat.gcd_rec, Nat.gcd_comm]
        exact hg
      · have k0 : 0 < 199 - i := by
          rcases Nat.eq_zero_or_pos (199 - i) with e | e
          · rw [e] at hk
            rcases hk with hk | ⟨h1, h2⟩ | h2
            · omega
            · have : 0 < x * y := Nat.mul_pos (by omega) y0
              omega
            · omega
          · exact e
        have e2 : 2 ^ (199 - i) = 2 * 2 ^ (199 - (i + 1)) := by
          rw [← Nat.pow_succ', Nat.succ_eq_add_one]
          congr 1
          omega
        rcases Nat.lt_or_ge x y with hxy | hxy
        · right; left
          rw [Nat.mod_eq_of_lt hxy]
          refine ⟨by omega, ?_⟩
          rcases hk with hk | ⟨h1, h2⟩ | h2
          · omega
          · omega
          · rw [Nat.mul_comm]
            omega
        · right; left
          have m := mod_half y0 hxy
          refine ⟨Nat.le_of_lt (Nat.mod_lt _ y0), ?_⟩
          have m2 : y * (2 * (x % y)) < y * x := Nat.mul_lt_mul_of_pos_left m y0
          have m3 : y * (2 * (x % y)) = 2 * (y * (x % y)) := by rw [Nat.mul_left_comm]
          have m4 : y * x = x * y := Nat.mul_comm ..
          rcases hk with hk | ⟨h1, h2⟩ | h2 <;> omega
    · simp (implicitDefEqProofs := false) only [↓w_srtT, ↓w_par2, ↓w_par3, ↓w_setd, ↓w_dict1, ↓w_maxDf, ↓w_slT, ↓w_addT, ↓w_dictT, ↓w_dictI, ↓w_get, ↓w_lrg1T, ↓w_lrg2T, ↓w_lrg1, ↓w_lrg2, ↓w_pop0, ↓w_lcT, ↓w_mth, ↓w_calm, ↓w_tryM, ↓w_tm0, ↓w_tmN, ↓w_tmS, ↓w_seq, ↓w_next, ↓w_break, ↓w_cont, ↓w_retN, ↓w_asg, ↓w_expr, ↓w_ret, ↓w_if, ↓w_asgG, ↓w_for, ↓w_put, ↓w_aug, ↓w_augS, ↓w_raise0, ↓w_raise1, ↓w_raise2, ↓w_try, ↓w_tryAs, ↓w_var, ↓w_c, ↓w_op, ↓w_chain, ↓w_notV, ↓w_andV, ↓w_orV, ↓w_ifE, ↓w_tst, ↓w_not, ↓w_and, ↓w_or, ↓w_yes, ↓w_nil, ↓w_cons, ↓w_tup, ↓w_lst, ↓w_lstT, ↓w_cb, ↓w_call, ↓w_callK, ↓w_neg, ↓w_no, ↓w_pt, ↓w_sl, ↓w_fld, ↓w_src, ↓w_rng, ↓w_enu, ↓w_listT, ↓w_app, ↓w_lc, ↓w_xf, ↓w_fldT, ↓w_make, ↓w_makeL, ↓w_run, ↓w_cut, ↓w_pure, ↓w_drop, nth2_eq, nth3_eq, w_ok, w_ex, w_nx, w_rt, w_bk, w_ct, w_exS, w_some, w_v, w_tr, w_fa, w_tb, w_ti, w_tn, w_L, w_L0, wb_not, cn_f, startD, arr, gN_eq, gTp, gCn, gNl, Option.bind_some, List.filterMap_cons, List.filterMap_nil, List.map_cons, List.map_nil, List.replicate_succ, List.replicate_zero, List.cons_append, List.nil_append, List.getElem?_cons_zero, List.getElem?_cons_succ, List.set_cons_zero, List.set_cons_succ, List.length_cons, List.length_nil, Nat.reduceAdd, Nat.reduceSub, Nat.reduceLeDiff, Nat.reduceEqDiff, Int.reducePow, Int.reduceToNat, Int.reduceNeg, Int.reduceAdd, Int.reduceMul, Int.reduceSub, Int.reduceLT, Int.reduceLE, Int.reduceEq, Nat.zero_add, Int.zero_add, big_eq, true_and, and_true, and_self, dSub_int, dAdd_int, dAddI_int, dLt_int, dLe_int, dGt_int, dGe_int, dEqD_int, bInt_int, bLen_lst, bLen_tup, bMin_int, bMax_int, bAbs_int, dIs_non, dIs_int, dIs_nn, Bool.not_true, Bool.not_false, decide_true, decide_false, reduceIte, Bool.false_eq_true, if_false, if_true, iSeq_lst, iSeq_tup, iSeq_rdl, iEnu_lst, iEnu_tup]
      exact ⟨x, y, _, _, rfl, hg, .inl (by omega)⟩
  · rintro L s' ⟨x, y, y2, y3, rfl, rfl, hg, hk⟩
    have y0 : y = 0 := by
      have e : Int.toNat 200 = 200 := rfl
      rw [e, show 199 - 200 = 0 from rfl] at hk
      rcases hk with hk | ⟨h1, h2⟩ | h2
      · exact hk
      · rcases Nat.eq_zero_or_pos y with e | e
        · exact e
        · have : 0 < x * y := Nat.mul_pos (by omega) e
          omega
      · omega
    subst y0
    rw [Nat.gcd_zero_right] at hg
    simp (implicitDefEqProofs := false) only [↓w_srtT, ↓w_par2, ↓w_par3, ↓w_setd, ↓w_dict1, ↓w_maxDf, ↓w_slT, ↓w_addT, ↓w_dictT, ↓w_dictI, ↓w_get, ↓w_lrg1T, ↓w_lrg2T, ↓w_lrg1, ↓w_lrg2, ↓w_pop0, ↓w_lcT, ↓w_mth, ↓w_calm, ↓w_tryM, ↓w_tm0, ↓w_tmN, ↓w_tmS, ↓w_seq, ↓w_next, ↓w_break, ↓w_cont, ↓w_retN, ↓w_asg, ↓w_expr, ↓w_ret, ↓w_if, ↓w_asgG, ↓w_for, ↓w_put, ↓w_aug, ↓w_augS, ↓w_raise0, ↓w_raise1, ↓w_raise2, ↓w_try, ↓w_tryAs, ↓w_var, ↓w_c, ↓w_op, ↓w_chain, ↓w_notV, ↓w_andV, ↓w_orV, ↓w_ifE, ↓w_tst, ↓w_not, ↓w_and, ↓w_or, ↓w_yes, ↓w_nil, ↓w_cons, ↓w_tup, ↓w_lst, ↓w_lstT, ↓w_cb, ↓w_call, ↓w_callK, ↓w_neg, ↓w_no, ↓w_pt, ↓w_sl, ↓w_fld, ↓w_src, ↓w_rng, ↓w_enu, ↓w_listT, ↓w_app, ↓w_lc, ↓w_xf, ↓w_fldT, ↓w_make, ↓w_makeL, ↓w_run, ↓w_cut, ↓w_pure, ↓w_drop, nth2_eq, nth3_eq, w_ok, w_ex, w_nx, w_rt, w_bk, w_ct, w_exS, w_some, w_v, w_tr, w_fa, w_tb, w_ti, w_tn, w_L, w_L0, wb_not, cn_f, startD, arr, gN_eq, gTp, gCn, gNl, Option.bind_some, List.filterMap_cons, List.filterMap_nil, List.map_cons, List.map_nil, List.replicate_succ, List.replicate_zero, List.cons_append, List.nil_append, List.getElem?_cons_zero, List.getElem?_cons_succ, List.set_cons_zero, List.set_cons_succ, List.length_cons, List.length_nil, Nat.reduceAdd, Nat.reduceSub, Nat.reduceLeDiff, Nat.reduceEqDiff, Int.reducePow, Int.reduceToNat, Int.reduceNeg, Int.reduceAdd, Int.reduceMul, Int.reduceSub, Int.reduceLT, Int.reduceLE, Int.reduceEq, Nat.zero_add, Int.zero_add, big_eq, true_and, and_true, and_self, dSub_int, dAdd_int, dAddI_int, dLt_int, dLe_int, dGt_int, dGe_int, dEqD_int, bInt_int, bLen_lst, bLen_tup, bMin_int, bMax_int, bAbs_int, dIs_non, dIs_int, dIs_nn, Bool.not_true, Bool.not_false, decide_true, decide_false, reduceIte, Bool.false_eq_true, if_false, if_true, iSeq_lst, iSeq_tup, iSeq_rdl, iEnu_lst, iEnu_tup]
    rw [hg]
theorem same_t {s : S} {xs : List D} {k : Nat} (e : s[k]? = some (.lst xs)) (h : smOk 24 (.lst xs) = true) : G__law_same c [.ref k, .lst xs] s = .ok (.bl true) s := by
  unfold G__law_same
  rw [eSame]
  exact same_ref e h
theorem pst61_len (ss : List Nat) : ∀ i, (pst61 ss i).length = ss.length
  | 0 => rfl
  | i + 1 => by rw [pst61, List.length_set, pst61_len ss i]
theorem prs61_len (b : Nat) : ∀ t, (prs61 b t).length = b + 1
  | 0 => List.length_replicate ..
  | t + 1 => by rw [prs61, pst61_len, prs61_len b t]
theorem ways_ok {a b : Nat} (ha : a ≤ 20) (hb : b ≤ 20) (s : S) : G__law_ways c [.int a, .int b] s = .ok (.int (wyL a b : Nat)) s := by
  apply eq_ok
  unfold G__law_ways
  simp (implicitDefEqProofs := false) only [↓w_srtT, ↓w_par2, ↓w_par3, ↓w_setd, ↓w_dict1, ↓w_maxDf, ↓w_slT, ↓w_addT, ↓w_dictT, ↓w_dictI, ↓w_get, ↓w_lrg1T, ↓w_lrg2T, ↓w_lrg1, ↓w_lrg2, ↓w_pop0, ↓w_lcT, ↓w_mth, ↓w_calm, ↓w_tryM, ↓w_tm0, ↓w_tmN, ↓w_tmS, ↓w_seq, ↓w_next, ↓w_break, ↓w_cont, ↓w_retN, ↓w_asg, ↓w_expr, ↓w_ret, ↓w_if, ↓w_asgG, ↓w_for, ↓w_put, ↓w_aug, ↓w_augS, ↓w_raise0, ↓w_raise1, ↓w_raise2, ↓w_try, ↓w_tryAs, ↓w_var, ↓w_c, ↓w_op, ↓w_chain, ↓w_notV, ↓w_andV, ↓w_orV, ↓w_ifE, ↓w_tst, ↓w_not, ↓w_and, ↓w_or, ↓w_yes, ↓w_nil, ↓w_cons, ↓w_tup, ↓w_lst, ↓w_lstT, ↓w_cb, ↓w_call, ↓w_callK, ↓w_neg, ↓w_no, ↓w_pt, ↓w_sl, ↓w_fld, ↓w_src, ↓w_rng, ↓w_enu, ↓w_listT, ↓w_app, ↓w_lc, ↓w_xf, ↓w_fldT, ↓w_make, ↓w_makeL, ↓w_run, ↓w_cut, ↓w_pure, ↓w_drop, nth2_eq, nth3_eq, w_ok, w_ex, w_nx, w_rt, w_bk, w_ct, w_exS, w_some, w_v, w_tr, w_fa, w_tb, w_ti, w_tn, w_L, w_L0, wb_not, cn_f, startD, arr, gN_eq, gTp, gCn, gNl, Option.bind_some, List.filterMap_cons, List.filterMap_nil, List.map_cons, List.map_nil, List.replicate_succ, List.replicate_zero, List.cons_append, List.nil_append, List.getElem?_cons_zero, List.getElem?_cons_succ, List.set_cons_zero, List.set_cons_succ, List.length_cons, List.length_nil, Nat.reduceAdd, Nat.reduceSub, Nat.reduceLeDiff, Nat.reduceEqDiff, Int.reducePow, Int.reduceToNat, Int.reduceNeg, Int.reduceAdd, Int.reduceMul, Int.reduceSub, Int.reduceLT, Int.reduceLE, Int.reduceEq, Nat.zero_add, Int.zero_add, big_eq, true_and, and_true, and_self, dSub_int, dAdd_int, dAddI_int, dLt_int, dLe_int, dGt_int, dGe_int, dEqD_int, bInt_int, bLen_lst, bLen_tup, bMin_int, bMax_int, bAbs_int, dIs_non, dIs_int, dIs_nn, Bool.not_true, Bool.not_false, decide_true, decide_false, reduceIte, Bool.false_eq_true, if_false, if_true, iSeq_lst, iSeq_tup, iSeq_rdl, iEnu_lst, iEnu_tup]
  refine wb_dec (fun h => ?_) (fun h => ?_)
  · have : a = 0 := by omega
    subst this
    unfold wyL
    rw [if_pos rfl]
    by_cases hb0 : b = 0
    · subst hb0
      simp (implicitDefEqProofs := false) only [↓w_srtT, ↓w_par2, ↓w_par3, ↓w_setd, ↓w_dict1, ↓w_maxDf, ↓w_slT, ↓w_addT, ↓w_dictT, ↓w_dictI, ↓w_get, ↓w_lrg1T, ↓w_lrg2T, ↓w_lrg1, ↓w_lrg2, ↓w_pop0, ↓w_lcT, ↓w_mth, ↓w_calm, ↓w_tryM, ↓w_tm0, ↓w_tmN, ↓w_tmS, ↓w_seq, ↓w_next, ↓w_break, ↓w_cont, ↓w_retN, ↓w_asg, ↓w_expr, ↓w_ret, ↓w_if, ↓w_asgG, ↓w_for, ↓w_put, ↓w_aug, ↓w_augS, ↓w_raise0, ↓w_raise1, ↓w_raise2, ↓w_try, ↓w_tryAs, ↓w_var, ↓w_c, ↓w_op, ↓w_chain, ↓w_notV, ↓w_andV, ↓w_orV, ↓w_ifE, ↓w_tst, ↓w_not, ↓w_and, ↓w_or, ↓w_yes, ↓w_nil, ↓w_cons, ↓w_tup, ↓w_lst, ↓w_lstT, ↓w_cb, ↓w_call, ↓w_callK, ↓w_neg, ↓w_no, ↓w_pt, ↓w_sl, ↓w_fld, ↓w_src, ↓w_rng, ↓w_enu, ↓w_listT, ↓w_app, ↓w_lc, ↓w_xf, ↓w_fldT, ↓w_make, ↓w_makeL, ↓w_run, ↓w_cut, ↓w_pure, ↓w_drop, nth2_eq, nth3_eq, w_ok, w_ex, w_nx, w_rt, w_bk, w_ct, w_exS, w_some, w_v, w_tr, w_fa, w_tb, w_ti, w_tn, w_L, w_L0, wb_not, cn_f, startD, arr, gN_eq, gTp, gCn, gNl, Option.bind_some, List.filterMap_cons, List.filterMap_nil, List.map_cons, List.map_nil, List.replicate_succ, List.replicate_zero, List.cons_append, List.nil_append, List.getElem?_cons_zero, List.getElem?_cons_succ, List.set_cons_zero, List.set_cons_succ, List.length_cons, List.length_nil, Nat.reduceAdd, Nat.reduceSub, Nat.reduceLeDiff, Nat.reduceEqDiff, Int.reducePow, Int.reduceToNat, Int.reduceNeg, Int.reduceAdd, Int.reduceMul, Int.reduceSub, Int.reduceLT, Int.reduceLE, Int.reduceEq, Nat.zero_add, Int.zero_add, big_eq, true_and, and_true, and_self, dSub_int, dAdd_int, dAddI_int, dLt_int, dLe_int, dGt_int, dGe_int, dEqD_int, bInt_int, bLen_lst, bLen_tup, bMin_int, bMax_int, bAbs_int, dIs_non, dIs_int, dIs_nn, Bool.not_true, Bool.not_false, decide_true, decide_false, reduceIte, Bool.false_eq_true, if_false, if_true, iSeq_lst, iSeq_tup, iSeq_rdl, iEnu_lst, iEnu_tup]
      rw [decide_eq_true (show ((0 : Nat) : Int) = 0 from rfl)]
      refine ⟨by simp, ?_⟩
      exact ⟨rfl, rfl⟩
    · rw [if_neg hb0]
      simp (implicitDefEqProofs := false) only [↓w_srtT, ↓w_par2, ↓w_par3, ↓w_setd, ↓w_dict1, ↓w_maxDf, ↓w_slT, ↓w_addT, ↓w_dictT, ↓w_dictI, ↓w_get, ↓w_lrg1T, ↓w_lrg2T, ↓w_lrg1, ↓w_lrg2, ↓w_pop0, ↓w_lcT, ↓w_mth, ↓w_calm, ↓w_tryM, ↓w_tm0, ↓w_tmN, ↓w_tmS, ↓w_seq, ↓w_next, ↓w_break, ↓w_cont, ↓w_retN, ↓w_asg, ↓w_expr, ↓w_ret, ↓w_if, ↓w_asgG, ↓w_for, ↓w_put, ↓w_aug, ↓w_augS, ↓w_raise0, ↓w_raise1, ↓w_raise2, ↓w_try, ↓w_tryAs, ↓w_var, ↓w_c, ↓w_op, ↓w_chain, ↓w_notV, ↓w_andV, ↓w_orV, ↓w_ifE, ↓w_tst, ↓w_not, ↓w_and, ↓w_or, ↓w_yes, ↓w_nil, ↓w_cons, ↓w_tup, ↓w_lst, ↓w_lstT, ↓w_cb, ↓w_call, ↓w_callK, ↓w_neg, ↓w_no, ↓w_pt, ↓w_sl, ↓w_fld, ↓w_src, ↓w_rng, ↓w_enu, ↓w_listT, ↓w_app, ↓w_lc, ↓w_xf, ↓w_fldT, ↓w_make, ↓w_makeL, ↓w_run, ↓w_cut, ↓w_pure, ↓w_drop, nth2_eq, nth3_eq, w_ok, w_ex, w_nx, w_rt, w_bk, w_ct, w_exS, w_some, w_v, w_tr, w_fa, w_tb, w_ti, w_tn, w_L, w_L0, wb_not, cn_f, startD, arr, gN_eq, gTp, gCn, gNl, Option.bind_some, List.filterMap_cons, List.filterMap_nil, List.map_cons, List.map_nil, List.replicate_succ, List.replicate_zero, List.cons_append, List.nil_append, List.getElem?_cons_zero, List.getElem?_cons_succ, List.set_cons_zero, List.set_cons_succ, List.length_cons, List.length_nil, Nat.reduceAdd, Nat.reduceSub, Nat.reduceLeDiff, Nat.reduceEqDiff, Int.reducePow, Int.reduceToNat, Int.reduceNeg, Int.reduceAdd, Int.reduceMul, Int.reduceSub, Int.reduceLT, Int.reduceLE, Int.reduceEq, Nat.zero_add, Int.zero_add, big_eq, true_and, and_true, and_self, dSub_int, dAdd_int, dAddI_int, dLt_int, dLe_int, dGt_int, dGe_int, dEqD_int, bInt_int, bLen_lst, bLen_tup, bMin_int, bMax_int, bAbs_int, dIs_non, dIs_int, dIs_nn, Bool.not_true, Bool.not_false, decide_true, decide_false, reduceIte, Bool.false_eq_true, if_false, if_true, iSeq_lst, iSeq_tup, iSeq_rdl, iEnu_lst, iEnu_tup]
      rw [decide_eq_false (show ¬ (b : Int) = 0 by omega)]
      refine ⟨by simp, ?_⟩
      exact ⟨rfl, rfl⟩
  · simp (implicitDefEqProofs := false) only [↓w_srtT, ↓w_par2, ↓w_par3, ↓w_setd, ↓w_dict1, ↓w_maxDf, ↓w_slT, ↓w_addT, ↓w_dictT, ↓w_dictI, ↓w_get, ↓w_lrg1T, ↓w_lrg2T, ↓w_lrg1, ↓w_lrg2, ↓w_pop0, ↓w_lcT, ↓w_mth, ↓w_calm, ↓w_tryM, ↓w_tm0, ↓w_tmN, ↓w_tmS, ↓w_seq, ↓w_next, ↓w_break, ↓w_cont, ↓w_retN, ↓w_asg, ↓w_expr, ↓w_ret, ↓w_if, ↓w_asgG, ↓w_for, ↓w_put, ↓w_aug, ↓w_augS, ↓w_raise0, ↓w_raise1, ↓w_raise2, ↓w_try, ↓w_tryAs, ↓w_var, ↓w_c, ↓w_op, ↓w_chain, ↓w_notV, ↓w_andV, ↓w_orV, ↓w_ifE, ↓w_tst, ↓w_not, ↓w_and, ↓w_or, ↓w_yes, ↓w_nil, ↓w_cons, ↓w_tup, ↓w_lst, ↓w_lstT, ↓w_cb, ↓w_call, ↓w_callK, ↓w_neg, ↓w_no, ↓w_pt, ↓w_sl, ↓w_fld, ↓w_src, ↓w_rng, ↓w_enu, ↓w_listT, ↓w_app, ↓w_lc, ↓w_xf, ↓w_fldT, ↓w_make, ↓w_makeL, ↓w_run, ↓w_cut, ↓w_pure, ↓w_drop, nth2_eq, nth3_eq, w_ok, w_ex, w_nx, w_rt, w_bk, w_ct, w_exS, w_some, w_v, w_tr, w_fa, w_tb, w_ti, w_tn, w_L, w_L0, wb_not, cn_f, startD, arr, gN_eq, gTp, gCn, gNl, Option.bind_some, List.filterMap_cons, List.filterMap_nil, List.map_cons, List.map_nil, List.replicate_succ, List.replicate_zero, List.cons_append, List.nil_append, List.getElem?_cons_zero, List.getElem?_cons_succ, List.set_cons_zero, List.set_cons_succ, List.length_cons, List.length_nil, Nat.reduceAdd, Nat.reduceSub, Nat.reduceLeDiff, Nat.reduceEqDiff, Int.reducePow, Int.reduceToNat, Int.reduceNeg, Int.reduceAdd, Int.reduceMul, Int.reduceSub, Int.reduceLT, Int.reduceLE, Int.reduceEq, Nat.zero_add, Int.zero_add, big_eq, true_and, and_true, and_self, dSub_int, dAdd_int, dAddI_int, dLt_int, dLe_int, dGt_int, dGe_int, dEqD_int, bInt_int, bLen_lst, bLen_tup, bMin_int, bMax_int, bAbs_int, dIs_non, dIs_int, dIs_nn, Bool.not_true, Bool.not_false, decide_true, decide_false, reduceIte, Bool.false_eq_true, if_false, if_true, iSeq_lst, iSeq_tup, iSeq_rdl, iEnu_lst, iEnu_tup]
    rw [rng1 (by omega) (by omega), w_some, show ((b : Int) + 1).toNat = b + 1 by omega]
    refine lcT_all (List.range (b + 1)) (fun k : Nat => D.int (0 + (k : Int))) (fun _ => nI 1) rfl (fun acc => rfl) (by simp; omega) (fun x hx acc => by
      simp (implicitDefEqProofs := false) only [wipeD, ↓w_srtT, ↓w_par2, ↓w_par3, ↓w_setd, ↓w_dict1, ↓w_maxDf, ↓w_slT, ↓w_addT, ↓w_dictT, ↓w_dictI, ↓w_get, ↓w_lrg1T, ↓w_lrg2T, ↓w_lrg1, ↓w_lrg2, ↓w_pop0, ↓w_lcT, ↓w_mth, ↓w_calm, ↓w_tryM, ↓w_tm0, ↓w_tmN, ↓w_tmS, ↓w_seq, ↓w_next, ↓w_break, ↓w_cont, ↓w_retN, ↓w_asg, ↓w_expr, ↓w_ret, ↓w_if, ↓w_asgG, ↓w_for, ↓w_put, ↓w_aug, ↓w_augS, ↓w_raise0, ↓w_raise1, ↓w_raise2, ↓w_try, ↓w_tryAs, ↓w_var, ↓w_c, ↓w_op, ↓w_chain, ↓w_notV, ↓w_andV, ↓w_orV, ↓w_ifE, ↓w_tst, ↓w_not, ↓w_and, ↓w_or, ↓w_yes, ↓w_nil, ↓w_cons, ↓w_tup, ↓w_lst, ↓w_lstT, ↓w_cb, ↓w_call, ↓w_callK, ↓w_neg, ↓w_no, ↓w_pt, ↓w_sl, ↓w_fld, ↓w_src, ↓w_rng, ↓w_enu, ↓w_listT, ↓w_app, ↓w_lc, ↓w_xf, ↓w_fldT, ↓w_make, ↓w_makeL, ↓w_run, ↓w_cut, ↓w_pure, ↓w_drop, nth2_eq, nth3_eq, w_ok, w_ex, w_nx, w_rt, w_bk, w_ct, w_exS, w_some, w_v, w_tr, w_fa, w_tb, w_ti, w_tn, w_L, w_L0, wb_not, cn_f, startD, arr, gN_eq, gTp, gCn, gNl, Option.bind_some, List.filterMap_cons, List.filterMap_nil, List.map_cons, List.map_nil, List.replicate_succ, List.replicate_zero, List.cons_append, List.nil_append, List.getElem?_cons_zero, List.getElem?_cons_succ, List.set_cons_zero, List.set_cons_succ, List.length_cons, List.length_nil, Nat.reduceAdd, Nat.reduceSub, Nat.reduceLeDiff, Nat.reduceEqDiff, Int.reducePow, Int.reduceToNat, Int.reduceNeg, Int.reduceAdd, Int.reduceMul, Int.reduceSub, Int.reduceLT, Int.reduceLE, Int.reduceEq, Nat.zero_add, Int.zero_add, big_eq, true_and, and_true, and_self, dSub_int, dAdd_int, dAddI_int, dLt_int, dLe_int, dGt_int, dGe_int, dEqD_int, bInt_int, bLen_lst, bLen_tup, bMin_int, bMax_int, bAbs_int, dIs_non, dIs_int, dIs_nn, Bool.not_true, Bool.not_false, decide_true, decide_false, reduceIte, Bool.false_eq_true, if_false, if_true, iSeq_lst, iSeq_tup, iSeq_rdl, iEnu_lst, iEnu_tup]
      rfl) ?_
    have e0 : (List.range (b + 1)).map (fun _ => nI 1) = (prs61 b 0).map nI := by
      rw [List.map_const', List.length_range, prs61, List.map_replicate]
    rw [e0]
    simp (implicitDefEqProofs := false) only [↓w_srtT, ↓w_par2, ↓w_par3, ↓w_setd, ↓w_dict1, ↓w_maxDf, ↓w_slT, ↓w_addT, ↓w_dictT, ↓w_dictI, ↓w_get, ↓w_lrg1T, ↓w_lrg2T, ↓w_lrg1, ↓w_lrg2, ↓w_pop0, ↓w_lcT, ↓w_mth, ↓w_calm, ↓w_tryM, ↓w_tm0, ↓w_tmN, ↓w_tmS, ↓w_seq, ↓w_next, ↓w_break, ↓w_cont, ↓w_retN, ↓w_asg, ↓w_expr, ↓w_ret, ↓w_if, ↓w_asgG, ↓w_for, ↓w_put, ↓w_aug, ↓w_augS, ↓w_raise0, ↓w_raise1, ↓w_raise2, ↓w_try, ↓w_tryAs, ↓w_var, ↓w_c, ↓w_op, ↓w_chain, ↓w_notV, ↓w_andV, ↓w_orV, ↓w_ifE, ↓w_tst, ↓w_not, ↓w_and, ↓w_or, ↓w_yes, ↓w_nil, ↓w_cons, ↓w_tup, ↓w_lst, ↓w_lstT, ↓w_cb, ↓w_call, ↓w_callK, ↓w_neg, ↓w_no, ↓w_pt, ↓w_sl, ↓w_fld, ↓w_src, ↓w_rng, ↓w_enu, ↓w_listT, ↓w_app, ↓w_lc, ↓w_xf, ↓w_fldT, ↓w_make, ↓w_makeL, ↓w_run, ↓w_cut, ↓w_pure, ↓w_drop, nth2_eq, nth3_eq, w_ok, w_ex, w_nx, w_rt, w_bk, w_ct, w_exS, w_some, w_v, w_tr, w_fa, w_tb, w_ti, w_tn, w_L, w_L0, wb_not, cn_f, startD, arr, gN_eq, gTp, gCn, gNl, Option.bind_some, List.filterMap_cons, List.filterMap_nil, List.map_cons, List.map_nil, List.replicate_succ, List.replicate_zero, List.cons_append, List.nil_append, List.getElem?_cons_zero, List.getElem?_cons_succ, List.set_cons_zero, List.set_cons_succ, List.length_cons, List.length_nil, Nat.reduceAdd, Nat.reduceSub, Nat.reduceLeDiff, Nat.reduceEqDiff, Int.reducePow, Int.reduceToNat, Int.reduceNeg, Int.reduceAdd, Int.reduceMul, Int.reduceSub, Int.reduceLT, Int.reduceLE, Int.reduceEq, Nat.zero_add, Int.zero_add, big_eq, true_and, and_true, and_self, dSub_int, dAdd_int, dAddI_int, dLt_int, dLe_int, dGt_int, dGe_int, dEqD_int, bInt_int, bLen_lst, bLen_tup, bMin_int, bMax_int, bAbs_int, dIs_non, dIs_int, dIs_nn, Bool.not_true, Bool.not_false, decide_true, decide_false, reduceIte, Bool.false_eq_true, if_false, if_true, iSeq_lst, iSeq_tup, iSeq_rdl, iEnu_lst, iEnu_tup]
    rw [rng1 (by omega) (by omega), w_some, show ((a : Int) - 1).toNat = a - 1 by omega]
    refine ws_rng (fun t L s' => ∃ y3 y4 : Option D, L = [some (.int a), some (.int b), some (.ref s.length), y3, y4] ∧ s' = s ++ [.lst ((prs61 b t).map nI)]) ⟨none, none, rfl, rfl⟩ ?_ ?_
    · rintro t L s' ht ⟨y3, y4, rfl, rfl⟩
      simp (implicitDefEqProofs := false) only [↓w_srtT, ↓w_par2, ↓w_par3, ↓w_setd, ↓w_dict1, ↓w_maxDf, ↓w_slT, ↓w_addT, ↓w_dictT, ↓w_dictI, ↓w_get, ↓w_lrg1T, ↓w_lrg2T, ↓w_lrg1, ↓w_lrg2, ↓w_pop0, ↓w_lcT, ↓w_mth, ↓w_calm, ↓w_tryM, ↓w_tm0, ↓w_tmN, ↓w_tmS, ↓w_seq, ↓w_next, ↓w_break, ↓w_cont, ↓w_retN, ↓w_asg, ↓w_expr, ↓w_ret, ↓w_if, ↓w_asgG, ↓w_for, ↓w_put, ↓w_aug, ↓w_augS, ↓w_raise0, ↓w_raise1, ↓w_raise2, ↓w_try, ↓w_tryAs, ↓w_var, ↓w_c, ↓w_op, ↓w_chain, ↓w_notV, ↓w_andV, ↓w_orV, ↓w_ifE, ↓w_tst, ↓w_not, ↓w_and, ↓w_or, ↓w_yes, ↓w_nil, ↓w_cons, ↓w_tup, ↓w_lst, ↓w_lstT, ↓w_cb, ↓w_call, ↓w_callK, ↓w_neg, ↓w_no, ↓w_pt, ↓w_sl, ↓w_fld, ↓w_src, ↓w_rng, ↓w_enu, ↓w_listT, ↓w_app, ↓w_lc, ↓w_xf, ↓w_fldT, ↓w_make, ↓w_makeL, ↓w_run, ↓w_cut, ↓w_pure, ↓w_drop, nth2_eq, nth3_eq, w_ok, w_ex, w_nx, w_rt, w_bk, w_ct, w_exS, w_some, w_v, w_tr, w_fa, w_tb, w_ti, w_tn, w_L, w_L0, wb_not, cn_f, startD, arr, gN_eq, gTp, gCn, gNl, Option.bind_some, List.filterMap_cons, List.filterMap_nil, List.map_cons, List.map_nil, List.replicate_succ, List.replicate_zero, List.cons_append, List.nil_append, List.getElem?_cons_zero, List.getElem?_cons_succ, List.set_cons_zero, List.set_cons_succ, List.length_cons, List.length_nil, Nat.reduceAdd, Nat.reduceSub, Nat.reduceLeDiff, Nat.reduceEqDiff, Int.reducePow, Int.reduceToNat, Int.reduceNeg, Int.reduceAdd, Int.reduceMul, Int.reduceSub, Int.reduceLT, Int.reduceLE, Int.reduceEq, Nat.zero_add, Int.zero_add, big_eq, true_and, and_true, and_self, dSub_int, dAdd_int, dAddI_int, dLt_int, dLe_int, dGt_int, dGe_int, dEqD_int, bInt_int, bLen_lst, bLen_tup, bMin_int, bMax_int, bAbs_int, dIs_non, dIs_int, dIs_nn, Bool.not_true, Bool.not_false, decide_true, decide_false, reduceIte, Bool.false_eq_true, if_false, if_true, iSeq_lst, iSeq_tup, iSeq_rdl, iEnu_lst, iEnu_tup]
      rw [rng1 (by omega) (by omega), w_some, Int.toNat_natCast]
      have lp := prs61_len b t
      rw [show prs61 b (t + 1) = pst61 (prs61 b t) b from rfl]
      generalize prs61 b t = ss at *
      refine ws_rng (fun i L s' => ∃ y3 y4 : Option D, L = [some (.int a), some (.int b), some (.ref s.length), y3, y4] ∧ s' = s ++ [.lst ((pst61 ss i).map nI)]) ⟨_, y4, rfl, rfl⟩ ?_ ?_
      · rintro i L s' hi ⟨y3, y4, rfl, rfl⟩
        have li := pst61_len ss i
        rw [show pst61 ss (i + 1) = (pst61 ss i).set (i + 1) ((pst61 ss i).getD (i + 1) 0 + (pst61 ss i).getD i 0) from rfl]
        generalize pst61 ss i = zs at *
        have e1 : (0 : Int) + (i : Int) = (i : Int) := by omega
        have e2 : (i : Int) + 1 = ((i + 1 : Nat) : Int) := by omega
        have x1 := w_dIx1 (s := s) (ss := zs) (k := i) (by omega)
        have x2 := w_dIx1 (s := s) (ss := zs) (k := i + 1) (by omega)
        have e3 : ((zs.getD (i + 1) 0 : Nat) : Int) + (zs.getD i 0 : Nat) = ((zs.getD (i + 1) 0 + zs.getD i 0 : Nat) : Int) := by omega
        have pt := ap_put (r := s) (xs := zs.map nI) (k := i + 1) (by rw [List.length_map]; omega) (.int (zs.getD (i + 1) 0 + zs.getD i 0 : Nat))
        have em : (zs.map nI).set (i + 1) (.int (zs.getD (i + 1) 0 + zs.getD i 0 : Nat)) = (zs.set (i + 1) (zs.getD (i + 1) 0 + zs.getD i 0)).map nI := by rw [List.map_set]; rfl
        rw [em] at pt
        generalize zs.getD (i + 1) 0 = p at *
        generalize zs.getD i 0 = q at *
        generalize hi1 : i + 1 = i' at *
        simp (implicitDefEqProofs := false) only [e1, e2, x1, x2, e3, pt, ↓w_srtT, ↓w_par2, ↓w_par3, ↓w_setd, ↓w_dict1, ↓w_maxDf, ↓w_slT, ↓w_addT, ↓w_dictT, ↓w_dictI, ↓w_get, ↓w_lrg1T, ↓w_lrg2T, ↓w_lrg1, ↓w_lrg2, ↓w_pop0, ↓w_lcT, ↓w_mth, ↓w_calm, ↓w_tryM, ↓w_tm0, ↓w_tmN, ↓w_tmS, ↓w_seq, ↓w_next, ↓w_break, ↓w_cont, ↓w_retN, ↓w_asg, ↓w_expr, ↓w_ret, ↓w_if, ↓w_asgG, ↓w_for, ↓w_put, ↓w_aug, ↓w_augS, ↓w_raise0, ↓w_raise1, ↓w_raise2, ↓w_try, ↓w_tryAs, ↓w_var, ↓w_c, ↓w_op, ↓w_chain, ↓w_notV, ↓w_andV, ↓w_orV, ↓w_ifE, ↓w_tst, ↓w_not, ↓w_and, ↓w_or, ↓w_yes, ↓w_nil, ↓w_cons, ↓w_tup, ↓w_lst, ↓w_lstT, ↓w_cb, ↓w_call, ↓w_callK, ↓w_neg, ↓w_no, ↓w_pt, ↓w_sl, ↓w_fld, ↓w_src, ↓w_rng, ↓w_enu, ↓w_listT, ↓w_app, ↓w_lc, ↓w_xf, ↓w_fldT, ↓w_make, ↓w_makeL, ↓w_run, ↓w_cut, ↓w_pure, ↓w_drop, nth2_eq, nth3_eq, w_ok, w_ex, w_nx, w_rt, w_bk, w_ct, w_exS, w_some, w_v, w_tr, w_fa, w_tb, w_ti, w_tn, w_L, w_L0, wb_not, cn_f, startD, arr, gN_eq, gTp, gCn, gNl, Option.bind_some, List.filterMap_cons, List.filterMap_nil, List.map_cons, List.map_nil, List.replicate_succ, List.replicate_zero, List.cons_append, List.nil_append, List.getElem?_cons_zero, List.getElem?_cons_succ, List.set_cons_zero, List.set_cons_succ, List.length_cons, List.length_nil, Nat.reduceAdd, Nat.reduceSub, Nat.reduceLeDiff, Nat.reduceEqDiff, Int.reducePow, Int.reduceToNat, Int.reduceNeg, Int.reduceAdd, Int.reduceMul, Int.reduceSub, Int.reduceLT, Int.reduceLE, Int.reduceEq, Nat.zero_add, Int.zero_add, big_eq, true_and, and_true, and_self, dSub_int, dAdd_int, dAddI_int, dLt_int, dLe_int, dGt_int, dGe_int, dEqD_int, bInt_int, bLen_lst, bLen_tup, bMin_int, bMax_int, bAbs_int, dIs_non, dIs_int, dIs_nn, Bool.not_true, Bool.not_false, decide_true, decide_false, reduceIte, Bool.false_eq_true, if_false, if_true, iSeq_lst, iSeq_tup, iSeq_rdl, iEnu_lst, iEnu_tup]
        exact ⟨_, _, rfl⟩
      · rintro L s' ⟨y3, y4, rfl, rfl⟩
        exact ⟨_, _, rfl, rfl⟩
    · rintro L s' ⟨y3, y4, rfl, rfl⟩
      have x1 := w_dIx1 (s := s) (ss := prs61 b (a - 1)) (k := b) (by rw [prs61_len]; omega)
      have ew : wyL a b = (prs61 b (a - 1)).getD b 0 := by
        unfold wyL
        rw [if_neg (by omega)]
      rw [ew]
      simp (implicitDefEqProofs := false) only [x1, ↓w_srtT, ↓w_par2, ↓w_par3, ↓w_setd, ↓w_dict1, ↓w_maxDf, ↓w_slT, ↓w_addT, ↓w_dictT, ↓w_dictI, ↓w_get, ↓w_lrg1T, ↓w_lrg2T, ↓w_lrg1, ↓w_lrg2, ↓w_pop0, ↓w_lcT, ↓w_mth, ↓w_calm, ↓w_tryM, ↓w_tm0, ↓w_tmN, ↓w_tmS, ↓w_seq, ↓w_next, ↓w_break, ↓w_cont, ↓w_retN, ↓w_asg, ↓w_expr, ↓w_ret, ↓w_if, ↓w_asgG, ↓w_for, ↓w_put, ↓w_aug, ↓w_augS, ↓w_raise0, ↓w_raise1, ↓w_raise2, ↓w_try, ↓w_tryAs, ↓w_var, ↓w_c, ↓w_op, ↓w_chain, ↓w_notV, ↓w_andV, ↓w_orV, ↓w_ifE, ↓w_tst, ↓w_not, ↓w_and, ↓w_or, ↓w_yes, ↓w_nil, ↓w_cons, ↓w_tup, ↓w_lst, ↓w_lstT, ↓w_cb, ↓w_call, ↓w_callK, ↓w_neg, ↓w_no, ↓w_pt, ↓w_sl, ↓w_fld, ↓w_src, ↓w_rng, ↓w_enu, ↓w_listT, ↓w_app, ↓w_lc, ↓w_xf, ↓w_fldT, ↓w_make, ↓w_makeL, ↓w_run, ↓w_cut, ↓w_pure, ↓w_drop, nth2_eq, nth3_eq, w_ok, w_ex, w_nx, w_rt, w_bk, w_ct, w_exS, w_some, w_v, w_tr, w_fa, w_tb, w_ti, w_tn, w_L, w_L0, wb_not, cn_f, startD, arr, gN_eq, gTp, gCn, gNl, Option.bind_some, List.filterMap_cons, List.filterMap_nil, List.map_cons, List.map_nil, List.replicate_succ, List.replicate_zero, List.cons_append, List.nil_append, List.getElem?_cons_zero, List.getElem?_cons_succ, List.set_cons_zero, List.set_cons_succ, List.length_cons, List.length_nil, Nat.reduceAdd, Nat.reduceSub, Nat.reduceLeDiff, Nat.reduceEqDiff, Int.reducePow, Int.reduceToNat, Int.reduceNeg, Int.reduceAdd, Int.reduceMul, Int.reduceSub, Int.reduceLT, Int.reduceLE, Int.reduceEq, Nat.zero_add, Int.zero_add, big_eq, true_and, and_true, and_self, dSub_int, dAdd_int, dAddI_int, dLt_int, dLe_int, dGt_int, dGe_int, dEqD_int, bInt_int, bLen_lst, bLen_tup, bMin_int, bMax_int, bAbs_int, dIs_non, dIs_int, dIs_nn, Bool.not_true, Bool.not_false, decide_true, decide_false, reduceIte, Bool.false_eq_true, if_false, if_true, iSeq_lst, iSeq_tup, iSeq_rdl, iEnu_lst, iEnu_tup]
      refine ⟨by simp, ?_⟩
      rw [fin2_pur (pur_int _)]
      exact ⟨rfl, rfl⟩
def t3D (z : T3) : D := .tup ((k361 z).map D.int)
theorem rowL_len (n : Nat) (r : Rt) (a : Nat) : ∀ b, (rowL n r a b).length ≤ b * n
  | 0 => Nat.zero_le _
  | b + 1 => by
    have := rowL_len n r a b
    rw [rowL, List.length_append, List.length_replicate, Nat.add_mul, Nat.one_mul]
    omega
theorem rowsL_len (n : Nat) (r : Rt) : ∀ a, (rowsL n r a).length ≤ a * (n * n)
  | 0 => Nat.zero_le _
  | a + 1 => by
    have := rowsL_len n r a
    have := rowL_len n r a n
    rw [rowsL, List.length_append, Nat.add_mul, Nat.one_mul]
    omega
theorem lpair_ok {n : Nat} {r : Rt} (n0 : 2 ≤ n) (n1 : n ≤ 8) (x1 : r.1 ≤ 1000) (y1 : r.2 ≤ 1000) (hc : chkP n r = true) (s : S) (hs : ∀ o ∈ s, PurO o) : G__law_pair c [.int n, rtD r] s = .ok (rtD (pairN n r.1 r.2)) s := by
  apply eq_ok
  unfold G__law_pair
  have hw := fun {a b : Nat} ha hb s => ways_ok (c := c) (a := a) (b := b) ha hb s
  generalize G__law_ways c = wG at *
  have at1 := chkP_ok hc
  simp (implicitDefEqProofs := false) only [↓w_srtT, ↓w_par2, ↓w_par3, ↓w_setd, ↓w_dict1, ↓w_maxDf, ↓w_slT, ↓w_addT, ↓w_dictT, ↓w_dictI, ↓w_get, ↓w_lrg1T, ↓w_lrg2T, ↓w_lrg1, ↓w_lrg2, ↓w_pop0, ↓w_lcT, ↓w_mth, ↓w_calm, ↓w_tryM, ↓w_tm0, ↓w_tmN, ↓w_tmS, ↓w_seq, ↓w_next, ↓w_break, ↓w_cont, ↓w_retN, ↓w_asg, ↓w_expr, ↓w_ret, ↓w_if, ↓w_asgG, ↓w_for, ↓w_put, ↓w_aug, ↓w_augS, ↓w_raise0, ↓w_raise1, ↓w_raise2, ↓w_try, ↓w_tryAs, ↓w_var, ↓w_c, ↓w_op, ↓w_chain, ↓w_notV, ↓w_andV, ↓w_orV, ↓w_ifE, ↓w_tst, ↓w_not, ↓w_and, ↓w_or, ↓w_yes, ↓w_nil, ↓w_cons, ↓w_tup, ↓w_lst, ↓w_lstT, ↓w_cb, ↓w_call, ↓w_callK, ↓w_neg, ↓w_no, ↓w_pt, ↓w_sl, ↓w_fld, ↓w_src, ↓w_rng, ↓w_enu, ↓w_listT, ↓w_app, ↓w_lc, ↓w_xf, ↓w_fldT, ↓w_make, ↓w_makeL, ↓w_run, ↓w_cut, ↓w_pure, ↓w_drop, nth2_eq, nth3_eq, w_ok, w_ex, w_nx, w_rt, w_bk, w_ct, w_exS, w_some, w_v, w_tr, w_fa, w_tb, w_ti, w_tn, w_L, w_L0, wb_not, cn_f, startD, arr, gN_eq, gTp, gCn, gNl, Option.bind_some, List.filterMap_cons, List.filterMap_nil, List.map_cons, List.map_nil, List.replicate_succ, List.replicate_zero, List.cons_append, List.nil_append, List.getElem?_cons_zero, List.getElem?_cons_succ, List.set_cons_zero, List.set_cons_succ, List.length_cons, List.length_nil, Nat.reduceAdd, Nat.reduceSub, Nat.reduceLeDiff, Nat.reduceEqDiff, Int.reducePow, Int.reduceToNat, Int.reduceNeg, Int.reduceAdd, Int.reduceMul, Int.reduceSub, Int.reduceLT, Int.reduceLE, Int.reduceEq, Nat.zero_add, Int.zero_add, big_eq, true_and, and_true, and_self, dSub_int, dAdd_int, dAddI_int, dLt_int, dLe_int, dGt_int, dGe_int, dEqD_int, bInt_int, bLen_lst, bLen_tup, bMin_int, bMax_int, bAbs_int, dIs_non, dIs_int, dIs_nn, Bool.not_true, Bool.not_false, decide_true, decide_false, reduceIte, Bool.false_eq_true, if_false, if_true, iSeq_lst, iSeq_tup, iSeq_rdl, iEnu_lst, iEnu_tup]
  rw [rng1 (by omega) (by omega), w_some, Int.toNat_natCast]
  refine ws_rng (fun a L s' => ∃ y3 y4 y5 y6 : Option D, L = [some (.int n), some (rtD r), some (.lst ((rowsL n r a).map t3D)), y3, y4, y5, y6] ∧ s' = s) ⟨none, none, none, none, rfl, rfl⟩ ?_ ?_
  · rintro a L s' ha ⟨y3, y4, y5, y6, rfl, rfl⟩
    simp (implicitDefEqProofs := false) only [↓w_srtT, ↓w_par2, ↓w_par3, ↓w_setd, ↓w_dict1, ↓w_maxDf, ↓w_slT, ↓w_addT, ↓w_dictT, ↓w_dictI, ↓w_get, ↓w_lrg1T, ↓w_lrg2T, ↓w_lrg1, ↓w_lrg2, ↓w_pop0, ↓w_lcT, ↓w_mth, ↓w_calm, ↓w_tryM, ↓w_tm0, ↓w_tmN, ↓w_tmS, ↓w_seq, ↓w_next, ↓w_break, ↓w_cont, ↓w_retN, ↓w_asg, ↓w_expr, ↓w_ret, ↓w_if, ↓w_asgG, ↓w_for, ↓w_put, ↓w_aug, ↓w_augS, ↓w_raise0, ↓w_raise1, ↓w_raise2, ↓w_try, ↓w_tryAs, ↓w_var, ↓w_c, ↓w_op, ↓w_chain, ↓w_notV, ↓w_andV, ↓w_orV, ↓w_ifE, ↓w_tst, ↓w_not, ↓w_and, ↓w_or, ↓w_yes, ↓w_nil, ↓w_cons, ↓w_tup, ↓w_lst, ↓w_lstT, ↓w_cb, ↓w_call, ↓w_callK, ↓w_neg, ↓w_no, ↓w_pt, ↓w_sl, ↓w_fld, ↓w_src, ↓w_rng, ↓w_enu, ↓w_listT, ↓w_app, ↓w_lc, ↓w_xf, ↓w_fldT, ↓w_make, ↓w_makeL, ↓w_run, ↓w_cut, ↓w_pure, ↓w_drop, nth2_eq, nth3_eq, w_ok, w_ex, w_nx, w_rt, w_bk, w_ct, w_exS, w_some, w_v, w_tr, w_fa, w_tb, w_ti, w_tn, w_L, w_L0, wb_not, cn_f, startD, arr, gN_eq, gTp, gCn, gNl, Option.bind_some, List.filterMap_cons, List.filterMap_nil, List.map_cons, List.map_nil, List.replicate_succ, List.replicate_zero, List.cons_append, List.nil_append, List.getElem?_cons_zero, List.getElem?_cons_succ, List.set_cons_zero, List.set_cons_succ, List.length_cons, List.length_nil, Nat.reduceAdd, Nat.reduceSub, Nat.reduceLeDiff, Nat.reduceEqDiff, Int.reducePow, Int.reduceToNat, Int.reduceNeg, Int.reduceAdd, Int.reduceMul, Int.reduceSub, Int.reduceLT, Int.reduceLE, Int.reduceEq, Nat.zero_add, Int.zero_add, big_eq, true_and, and_true, and_self, dSub_int, dAdd_int, dAddI_int, dLt_int, dLe_int, dGt_int, dGe_int, dEqD_int, bInt_int, bLen_lst, bLen_tup, bMin_int, bMax_int, bAbs_int, dIs_non, dIs_int, dIs_nn, Bool.not_true, Bool.not_false, decide_true, decide_false, reduceIte, Bool.false_eq_true, if_false, if_true, iSeq_lst, iSeq_tup, iSeq_rdl, iEnu_lst, iEnu_tup]
    rw [rng1 (by omega) (by omega), w_some, Int.toNat_natCast]
    refine ws_rng (fun b L s'' => ∃ y4 y5 y6 : Option D, L = [some (.int n), some (rtD r), some (.lst ((rowsL n r a ++ rowL n r a b).map t3D)), some (.int a), y4, y5, y6] ∧ s'' = s') ⟨y4, y5, y6, by rw [show rowL n r a 0 = [] from rfl, List.append_nil], rfl⟩ ?_ ?_
    · rintro b L s'' hb ⟨y4, y5, y6, rfl, rfl⟩
      have e1 : (0 : Int) + (a : Int) = (a : Int) := by omega
      have e2 : (0 : Int) + (b : Int) = (b : Int) := by omega
      have l1 := rowsL_len n r a
      have l2 := rowL_len n r a b
      have l3 : a * (n * n) ≤ 8 * (8 * 8) := Nat.mul_le_mul (by omega) (Nat.mul_le_mul n1 n1)
      have l4 : b * n ≤ 8 * 8 := Nat.mul_le_mul (by omega) n1
      have ew := fun s => hw (a := a) (b := b) (by omega) (by omega) s
      have em : min (n : Int) (wyL a b : Nat) = ((min n (wyL a b) : Nat) : Int) := by omega
      obtain ⟨m, hm⟩ : ∃ m, m = min n (wyL a b) := ⟨_, rfl⟩
      rw [← hm] at em
      have m1 : ∀ s, dMul s (.int a) (.int r.1) = some (.int (a * r.1)) := fun s => dMul_small (by omega) (by omega) (by omega) (by omega)
      have m2 : ∀ s, dMul s (.int b) (.int r.2) = some (.int (b * r.2)) := fun s => dMul_small (by omega) (by omega) (by omega) (by omega)
      simp (implicitDefEqProofs := false) only [e1, e2, ew, em, ↓w_srtT, ↓w_par2, ↓w_par3, ↓w_setd, ↓w_dict1, ↓w_maxDf, ↓w_slT, ↓w_addT, ↓w_dictT, ↓w_dictI, ↓w_get, ↓w_lrg1T, ↓w_lrg2T, ↓w_lrg1, ↓w_lrg2, ↓w_pop0, ↓w_lcT, ↓w_mth, ↓w_calm, ↓w_tryM, ↓w_tm0, ↓w_tmN, ↓w_tmS, ↓w_seq, ↓w_next, ↓w_break, ↓w_cont, ↓w_retN, ↓w_asg, ↓w_expr, ↓w_ret, ↓w_if, ↓w_asgG, ↓w_for, ↓w_put, ↓w_aug, ↓w_augS, ↓w_raise0, ↓w_raise1, ↓w_raise2, ↓w_try, ↓w_tryAs, ↓w_var, ↓w_c, ↓w_op, ↓w_chain, ↓w_notV, ↓w_andV, ↓w_orV, ↓w_ifE, ↓w_tst, ↓w_not, ↓w_and, ↓w_or, ↓w_yes, ↓w_nil, ↓w_cons, ↓w_tup, ↓w_lst, ↓w_lstT, ↓w_cb, ↓w_call, ↓w_callK, ↓w_neg, ↓w_no, ↓w_pt, ↓w_sl, ↓w_fld, ↓w_src, ↓w_rng, ↓w_enu, ↓w_listT, ↓w_app, ↓w_lc, ↓w_xf, ↓w_fldT, ↓w_make, ↓w_makeL, ↓w_run, ↓w_cut, ↓w_pure, ↓w_drop, nth2_eq, nth3_eq, w_ok, w_ex, w_nx, w_rt, w_bk, w_ct, w_exS, w_some, w_v, w_tr, w_fa, w_tb, w_ti, w_tn, w_L, w_L0, wb_not, cn_f, startD, arr, gN_eq, gTp, gCn, gNl, Option.bind_some, List.filterMap_cons, List.filterMap_nil, List.map_cons, List.map_nil, List.replicate_succ, List.replicate_zero, List.cons_append, List.nil_append, List.getElem?_cons_zero, List.getElem?_cons_succ, List.set_cons_zero, List.set_cons_succ, List.length_cons, List.length_nil, Nat.reduceAdd, Nat.reduceSub, Nat.reduceLeDiff, Nat.reduceEqDiff, Int.reducePow, Int.reduceToNat, Int.reduceNeg, Int.reduceAdd, Int.reduceMul, Int.reduceSub, Int.reduceLT, Int.reduceLE, Int.reduceEq, Nat.zero_add, Int.zero_add, big_eq, true_and, and_true, and_self, dSub_int, dAdd_int, dAddI_int, dLt_int, dLe_int, dGt_int, dGe_int, dEqD_int, bInt_int, bLen_lst, bLen_tup, bMin_int, bMax_int, bAbs_int, dIs_non, dIs_int, dIs_nn, Bool.not_true, Bool.not_false, decide_true, decide_false, reduceIte, Bool.false_eq_true, if_false, if_true, iSeq_lst, iSeq_tup, iSeq_rdl, iEnu_lst, iEnu_tup]
      rw [rng1 (by omega) (by omega), w_some, Int.toNat_natCast]
      refine lcp_all (List.range m) (fun k : Nat => D.int (0 + (k : Int))) (fun _ => t3D (tr3 r a b)) rfl (fun acc => rfl) (by simp; omega) hs (fun _ _ => pur_tup fun x hx => by
        obtain ⟨i, _, rfl⟩ := List.mem_map.mp hx
        exact pur_int _) (fun x hx acc _ => ?_) ?_
      · simp (implicitDefEqProofs := false) only [wipeD, rt_0, rt_1, m1, m2, ↓w_srtT, ↓w_par2, ↓w_par3, ↓w_setd, ↓w_dict1, ↓w_maxDf, ↓w_slT, ↓w_addT, ↓w_dictT, ↓w_dictI, ↓w_get, ↓w_lrg1T, ↓w_lrg2T, ↓w_lrg1, ↓w_lrg2, ↓w_pop0, ↓w_lcT, ↓w_mth, ↓w_calm, ↓w_tryM, ↓w_tm0, ↓w_tmN, ↓w_tmS, ↓w_seq, ↓w_next, ↓w_break, ↓w_cont, ↓w_retN, ↓w_asg, ↓w_expr, ↓w_ret, ↓w_if, ↓w_asgG, ↓w_for, ↓w_put, ↓w_aug, ↓w_augS, ↓w_raise0, ↓w_raise1, ↓w_raise2, ↓w_try, ↓w_tryAs, ↓w_var, ↓w_c, ↓w_op, ↓w_chain, ↓w_notV, ↓w_andV, ↓w_orV, ↓w_ifE, ↓w_tst, ↓w_not, ↓w_and, ↓w_or, ↓w_yes, ↓w_nil, ↓w_cons, ↓w_tup, ↓w_lst, ↓w_lstT, ↓w_cb, ↓w_call, ↓w_callK, ↓w_neg, ↓w_no, ↓w_pt, ↓w_sl, ↓w_fld, ↓w_src, ↓w_rng, ↓w_enu, ↓w_listT, ↓w_app, ↓w_lc, ↓w_xf, ↓w_fldT, ↓w_make, ↓w_makeL, ↓w_run, ↓w_cut, ↓w_pure, ↓w_drop, nth2_eq, nth3_eq, w_ok, w_ex, w_nx, w_rt, w_bk, w_ct, w_exS, w_some, w_v, w_tr, w_fa, w_tb, w_ti, w_tn, w_L, w_L0, wb_not, cn_f, startD, arr, gN_eq, gTp, gCn, gNl, Option.bind_some, List.filterMap_cons, List.filterMap_nil, List.map_cons, List.map_nil, List.replicate_succ, List.replicate_zero, List.cons_append, List.nil_append, List.getElem?_cons_zero, List.getElem?_cons_succ, List.set_cons_zero, List.set_cons_succ, List.length_cons, List.length_nil, Nat.reduceAdd, Nat.reduceSub, Nat.reduceLeDiff, Nat.reduceEqDiff, Int.reducePow, Int.reduceToNat, Int.reduceNeg, Int.reduceAdd, Int.reduceMul, Int.reduceSub, Int.reduceLT, Int.reduceLE, Int.reduceEq, Nat.zero_add, Int.zero_add, big_eq, true_and, and_true, and_self, dSub_int, dAdd_int, dAddI_int, dLt_int, dLe_int, dGt_int, dGe_int, dEqD_int, bInt_int, bLen_lst, bLen_tup, bMin_int, bMax_int, bAbs_int, dIs_non, dIs_int, dIs_nn, Bool.not_true, Bool.not_false, decide_true, decide_false, reduceIte, Bool.false_eq_true, if_false, if_true, iSeq_lst, iSeq_tup, iSeq_rdl, iEnu_lst, iEnu_tup]
        unfold t3D k361 tr3
        push_cast
        rfl
      have er : (List.range m).map (fun _ => t3D (tr3 r a b)) = (List.replicate m (tr3 r a b)).map t3D := by
        rw [List.map_const', List.length_range, List.map_replicate]
      have ad := add_ll (s := s'') (xs := (rowsL n r a ++ rowL n r a b).map t3D) (ys := (List.replicate m (tr3 r a b)).map t3D) (by rw [List.length_map, List.length_map, List.length_append, List.length_replicate]; omega)
      have eb : (rowsL n r a ++ rowL n r a b).map t3D ++ (List.replicate m (tr3 r a b)).map t3D = (rowsL n r a ++ rowL n r a (b + 1)).map t3D := by
        rw [rowL, ← hm, ← List.map_append, List.append_assoc]
      rw [er]
      rw [eb] at ad
      generalize (rowsL n r a ++ rowL n r a b).map t3D = X1 at *
      generalize (List.replicate m (tr3 r a b)).map t3D = X2 at *
      generalize (rowsL n r a ++ rowL n r a (b + 1)).map t3D = X3 at *
      simp (implicitDefEqProofs := false) only [ad, ↓w_srtT, ↓w_par2, ↓w_par3, ↓w_setd, ↓w_dict1, ↓w_maxDf, ↓w_slT, ↓w_addT, ↓w_dictT, ↓w_dictI, ↓w_get, ↓w_lrg1T, ↓w_lrg2T, ↓w_lrg1, ↓w_lrg2, ↓w_pop0, ↓w_lcT, ↓w_mth, ↓w_calm, ↓w_tryM, ↓w_tm0, ↓w_tmN, ↓w_tmS, ↓w_seq, ↓w_next, ↓w_break, ↓w_cont, ↓w_retN, ↓w_asg, ↓w_expr, ↓w_ret, ↓w_if, ↓w_asgG, ↓w_for, ↓w_put, ↓w_aug, ↓w_augS, ↓w_raise0, ↓w_raise1, ↓w_raise2, ↓w_try, ↓w_tryAs, ↓w_var, ↓w_c, ↓w_op, ↓w_chain, ↓w_notV, ↓w_andV, ↓w_orV, ↓w_ifE, ↓w_tst, ↓w_not, ↓w_and, ↓w_or, ↓w_yes, ↓w_nil, ↓w_cons, ↓w_tup, ↓w_lst, ↓w_lstT, ↓w_cb, ↓w_call, ↓w_callK, ↓w_neg, ↓w_no, ↓w_pt, ↓w_sl, ↓w_fld, ↓w_src, ↓w_rng, ↓w_enu, ↓w_listT, ↓w_app, ↓w_lc, ↓w_xf, ↓w_fldT, ↓w_make, ↓w_makeL, ↓w_run, ↓w_cut, ↓w_pure, ↓w_drop, nth2_eq, nth3_eq, w_ok, w_ex, w_nx, w_rt, w_bk, w_ct, w_exS, w_some, w_v, w_tr, w_fa, w_tb, w_ti, w_tn, w_L, w_L0, wb_not, cn_f, startD, arr, gN_eq, gTp, gCn, gNl, Option.bind_some, List.filterMap_cons, List.filterMap_nil, List.map_cons, List.map_nil, List.replicate_succ, List.replicate_zero, List.cons_append, List.nil_append, List.getElem?_cons_zero, List.getElem?_cons_succ, List.set_cons_zero, List.set_cons_succ, List.length_cons, List.length_nil, Nat.reduceAdd, Nat.reduceSub, Nat.reduceLeDiff, Nat.reduceEqDiff, Int.reducePow, Int.reduceToNat, Int.reduceNeg, Int.reduceAdd, Int.reduceMul, Int.reduceSub, Int.reduceLT, Int.reduceLE, Int.reduceEq, Nat.zero_add, Int.zero_add, big_eq, true_and, and_true, and_self, dSub_int, dAdd_int, dAddI_int, dLt_int, dLe_int, dGt_int, dGe_int, dEqD_int, bInt_int, bLen_lst, bLen_tup, bMin_int, bMax_int, bAbs_int, dIs_non, dIs_int, dIs_nn, Bool.not_true, Bool.not_false, decide_true, decide_false, reduceIte, Bool.false_eq_true, if_false, if_true, iSeq_lst, iSeq_tup, iSeq_rdl, iEnu_lst, iEnu_tup]
      exact ⟨_, _, _, rfl⟩
    · rintro L s'' ⟨y4, y5, y6, rfl, rfl⟩
      exact ⟨_, _, _, _, rfl, rfl⟩
  · rintro L s' ⟨y3, y4, y5, y6, rfl, rfl⟩
    have so : bSortD s' [.lst ((rowsL n r n).map t3D)] = some (.lst (((rowsL n r n).mergeSort le3).map t3D)) := sortD_ints (k := k361) (bs := rowsL n r n) rfl fun z _ q => by cases q
    generalize (rowsL n r n).mergeSort le3 = zs at *
    have ix : dIx s' (.lst (zs.map t3D)) (.int ((n : Int) - 1)) = some (t3D (tr3 r (pairN n r.1 r.2).1 (pairN n r.1 r.2).2)) := by
      rw [show (n : Int) - 1 = ((n - 1 : Nat) : Int) by omega]
      show L2.atI (zs.map t3D) ((n - 1 : Nat) : Int) = _
      exact atI_map at1
    have cu : dSl s' (t3D (tr3 r (pairN n r.1 r.2).1 (pairN n r.1 r.2).2)) (some 1) none = some (rtD (pairN n r.1 r.2)) := cut1 ..
    generalize (rowsL n r n).map t3D = X1 at *
    simp (implicitDefEqProofs := false) only [so, ix, cu, ↓w_srtT, ↓w_par2, ↓w_par3, ↓w_setd, ↓w_dict1, ↓w_maxDf, ↓w_slT, ↓w_addT, ↓w_dictT, ↓w_dictI, ↓w_get, ↓w_lrg1T, ↓w_lrg2T, ↓w_lrg1, ↓w_lrg2, ↓w_pop0, ↓w_lcT, ↓w_mth, ↓w_calm, ↓w_tryM, ↓w_tm0, ↓w_tmN, ↓w_tmS, ↓w_seq, ↓w_next, ↓w_break, ↓w_cont, ↓w_retN, ↓w_asg, ↓w_expr, ↓w_ret, ↓w_if, ↓w_asgG, ↓w_for, ↓w_put, ↓w_aug, ↓w_augS, ↓w_raise0, ↓w_raise1, ↓w_raise2, ↓w_try, ↓w_tryAs, ↓w_var, ↓w_c, ↓w_op, ↓w_chain, ↓w_notV, ↓w_andV, ↓w_orV, ↓w_ifE, ↓w_tst, ↓w_not, ↓w_and, ↓w_or, ↓w_yes, ↓w_nil, ↓w_cons, ↓w_tup, ↓w_lst, ↓w_lstT, ↓w_cb, ↓w_call, ↓w_callK, ↓w_neg, ↓w_no, ↓w_pt, ↓w_sl, ↓w_fld, ↓w_src, ↓w_rng, ↓w_enu, ↓w_listT, ↓w_app, ↓w_lc, ↓w_xf, ↓w_fldT, ↓w_make, ↓w_makeL, ↓w_run, ↓w_cut, ↓w_pure, ↓w_drop, nth2_eq, nth3_eq, w_ok, w_ex, w_nx, w_rt, w_bk, w_ct, w_exS, w_some, w_v, w_tr, w_fa, w_tb, w_ti, w_tn, w_L, w_L0, wb_not, cn_f, startD, arr, gN_eq, gTp, gCn, gNl, Option.bind_some, List.filterMap_cons, List.filterMap_nil, List.map_cons, List.map_nil, List.replicate_succ, List.replicate_zero, List.cons_append, List.nil_append, List.getElem?_cons_zero, List.getElem?_cons_succ, List.set_cons_zero, List.set_cons_succ, List.length_cons, List.length_nil, Nat.reduceAdd, Nat.reduceSub, Nat.reduceLeDiff, Nat.reduceEqDiff, Int.reducePow, Int.reduceToNat, Int.reduceNeg, Int.reduceAdd, Int.reduceMul, Int.reduceSub, Int.reduceLT, Int.reduceLE, Int.reduceEq, Nat.zero_add, Int.zero_add, big_eq, true_and, and_true, and_self, dSub_int, dAdd_int, dAddI_int, dLt_int, dLe_int, dGt_int, dGe_int, dEqD_int, bInt_int, bLen_lst, bLen_tup, bMin_int, bMax_int, bAbs_int, dIs_non, dIs_int, dIs_nn, Bool.not_true, Bool.not_false, decide_true, decide_false, reduceIte, Bool.false_eq_true, if_false, if_true, iSeq_lst, iSeq_tup, iSeq_rdl, iEnu_lst, iEnu_tup]
theorem chk_2 {s : S} {xs on : List D} (acc : List D) : chk ⟨on, some (s.length, xs)⟩ (s ++ [.lst xs] ++ [.lst acc]) = true := by
  unfold chk
  simp
theorem insL_len (F : List Rt) (u d : Nat) : (insL F u d).length = F.length + 1 := by
  unfold insL
  have : (F.filter fun r => Nat.blt (r.1 * d) (u * r.2)).length ≤ F.length := List.length_filter_le ..
  simp only [List.length_append, List.length_take, List.length_drop, List.length_cons, List.length_nil]
  omega
theorem rowE_len (F : List Rt) (u : Nat) : ∀ i, (rowE F u i).length ≤ F.length + i
  | 0 => Nat.le_refl _
  | i + 1 => by
    have := rowE_len F u i
    unfold rowE
    split
    · rw [insL_len]
      omega
    · omega
theorem endsE_len (m : Nat) : ∀ k, (endsE m k).length ≤ k * m
  | 0 => Nat.zero_le _
  | k + 1 => by
    have := endsE_len m k
    have := rowE_len (endsE m k) (k + 1) m
    rw [endsE, Nat.add_mul, Nat.one_mul]
    omega
def SmR (F : List Rt) : Prop := ∀ r ∈ F, r.1 ≤ 20 ∧ r.2 ≤ 20
theorem insL_sm {F : List Rt} (h : SmR F) {u d : Nat} (hu : u ≤ 20) (hd : d ≤ 20) : SmR (insL F u d) := fun r hr => by
  unfold insL at hr
  rcases List.mem_append.mp hr with hr | hr
  · rcases List.mem_append.mp hr with hr | hr
    · exact h r (List.mem_of_mem_take hr)
    · rw [List.mem_singleton.mp hr]
      exact ⟨hu, hd⟩
  · exact h r (List.mem_of_mem_drop hr)
theorem ends_ok {n : Nat} (n0 : 2 ≤ n) (n1 : n ≤ 8) (s : S) (hs : ∀ o ∈ s, PurO o) : G__law_ends c [.int n] s = .ok (.lst ((endsE (n - 2) (n - 2)).map rtD)) s := by
  apply eq_ok
  unfold G__law_ends
  have hgc : ∀ (u d : Nat) (s : S), u ≤ 20 → d ≤ 20 → G__law_divisor c [.int u, .int d] s = .ok (.int (Nat.gcd u d)) s := fun u d s h1 h2 => by
    have := div_ok (c := c) (a := (u : Int)) (b := (d : Int)) (by
      have h3 : u * d ≤ 20 * 20 := Nat.mul_le_mul h1 h2
      have h4 : (2 : Nat) * 400 + 1 < 2 ^ 199 := by decide +kernel
      simp only [Int.natAbs_natCast]
      omega) s
    simpa only [Int.natAbs_natCast] using this
  generalize G__law_divisor c = gG at *
  have r2 : dRng2 [.int 1, .int ((n : Int) - 1)] = some ⟨rgItems 1 (n - 2), none⟩ := by
    rw [rng2 (by omega) (by omega) (by omega) (by omega), show ((n : Int) - 1 - 1).toNat = n - 2 by omega]
  simp (implicitDefEqProofs := false) only [r2, ↓w_srtT, ↓w_par2, ↓w_par3, ↓w_setd, ↓w_dict1, ↓w_maxDf, ↓w_slT, ↓w_addT, ↓w_dictT, ↓w_dictI, ↓w_get, ↓w_lrg1T, ↓w_lrg2T, ↓w_lrg1, ↓w_lrg2, ↓w_pop0, ↓w_lcT, ↓w_mth, ↓w_calm, ↓w_tryM, ↓w_tm0, ↓w_tmN, ↓w_tmS, ↓w_seq, ↓w_next, ↓w_break, ↓w_cont, ↓w_retN, ↓w_asg, ↓w_expr, ↓w_ret, ↓w_if, ↓w_asgG, ↓w_for, ↓w_put, ↓w_aug, ↓w_augS, ↓w_raise0, ↓w_raise1, ↓w_raise2, ↓w_try, ↓w_tryAs, ↓w_var, ↓w_c, ↓w_op, ↓w_chain, ↓w_notV, ↓w_andV, ↓w_orV, ↓w_ifE, ↓w_tst, ↓w_not, ↓w_and, ↓w_or, ↓w_yes, ↓w_nil, ↓w_cons, ↓w_tup, ↓w_lst, ↓w_lstT, ↓w_cb, ↓w_call, ↓w_callK, ↓w_neg, ↓w_no, ↓w_pt, ↓w_sl, ↓w_fld, ↓w_src, ↓w_rng, ↓w_enu, ↓w_listT, ↓w_app, ↓w_lc, ↓w_xf, ↓w_fldT, ↓w_make, ↓w_makeL, ↓w_run, ↓w_cut, ↓w_pure, ↓w_drop, nth2_eq, nth3_eq, w_ok, w_ex, w_nx, w_rt, w_bk, w_ct, w_exS, w_some, w_v, w_tr, w_fa, w_tb, w_ti, w_tn, w_L, w_L0, wb_not, cn_f, startD, arr, gN_eq, gTp, gCn, gNl, Option.bind_some, List.filterMap_cons, List.filterMap_nil, List.map_cons, List.map_nil, List.replicate_succ, List.replicate_zero, List.cons_append, List.nil_append, List.getElem?_cons_zero, List.getElem?_cons_succ, List.set_cons_zero, List.set_cons_succ, List.length_cons, List.length_nil, Nat.reduceAdd, Nat.reduceSub, Nat.reduceLeDiff, Nat.reduceEqDiff, Int.reducePow, Int.reduceToNat, Int.reduceNeg, Int.reduceAdd, Int.reduceMul, Int.reduceSub, Int.reduceLT, Int.reduceLE, Int.reduceEq, Nat.zero_add, Int.zero_add, big_eq, true_and, and_true, and_self, dSub_int, dAdd_int, dAddI_int, dLt_int, dLe_int, dGt_int, dGe_int, dEqD_int, bInt_int, bLen_lst, bLen_tup, bMin_int, bMax_int, bAbs_int, dIs_non, dIs_int, dIs_nn, Bool.not_true, Bool.not_false, decide_true, decide_false, reduceIte, Bool.false_eq_true, if_false, if_true, iSeq_lst, iSeq_tup, iSeq_rdl, iEnu_lst, iEnu_tup]
  refine ws_rng (fun k L s' => ∃ y2 y3 y4 y5 : Option D, L = [some (.int n), some (.ref s.length), y2, y3, y4, y5] ∧ s' = s ++ [.lst ((endsE (n - 2) k).map rtD)] ∧ SmR (endsE (n - 2) k)) ⟨none, none, none, none, rfl, rfl, fun _ h => nomatch h⟩ ?_ ?_
  · rintro k L s' hk ⟨y2, y3, y4, y5, rfl, rfl, hsm⟩
    rw [show (1 : Int) + k = ((k + 1 : Nat) : Int) by omega]
    simp (implicitDefEqProofs := false) only [r2, ↓w_srtT, ↓w_par2, ↓w_par3, ↓w_setd, ↓w_dict1, ↓w_maxDf, ↓w_slT, ↓w_addT, ↓w_dictT, ↓w_dictI, ↓w_get, ↓w_lrg1T, ↓w_lrg2T, ↓w_lrg1, ↓w_lrg2, ↓w_pop0, ↓w_lcT, ↓w_mth, ↓w_calm, ↓w_tryM, ↓w_tm0, ↓w_tmN, ↓w_tmS, ↓w_seq, ↓w_next, ↓w_break, ↓w_cont, ↓w_retN, ↓w_asg, ↓w_expr, ↓w_ret, ↓w_if, ↓w_asgG, ↓w_for, ↓w_put, ↓w_aug, ↓w_augS, ↓w_raise0, ↓w_raise1, ↓w_raise2, ↓w_try, ↓w_tryAs, ↓w_var, ↓w_c, ↓w_op, ↓w_chain, ↓w_notV, ↓w_andV, ↓w_orV, ↓w_ifE, ↓w_tst, ↓w_not, ↓w_and, ↓w_or, ↓w_yes, ↓w_nil, ↓w_cons, ↓w_tup, ↓w_lst, ↓w_lstT, ↓w_cb, ↓w_call, ↓w_callK, ↓w_neg, ↓w_no, ↓w_pt, ↓w_sl, ↓w_fld, ↓w_src, ↓w_rng, ↓w_enu, ↓w_listT, ↓w_app, ↓w_lc, ↓w_xf, ↓w_fldT, ↓w_make, ↓w_makeL, ↓w_run, ↓w_cut, ↓w_pure, ↓w_drop, nth2_eq, nth3_eq, w_ok, w_ex, w_nx, w_rt, w_bk, w_ct, w_exS, w_some, w_v, w_tr, w_fa, w_tb, w_ti, w_tn, w_L, w_L0, wb_not, cn_f, startD, arr, gN_eq, gTp, gCn, gNl, Option.bind_some, List.filterMap_cons, List.filterMap_nil, List.map_cons, List.map_nil, List.replicate_succ, List.replicate_zero, List.cons_append, List.nil_append, List.getElem?_cons_zero, List.getElem?_cons_succ, List.set_cons_zero, List.set_cons_succ, List.length_cons, List.length_nil, Nat.reduceAdd, Nat.reduceSub, Nat.reduceLeDiff, Nat.reduceEqDiff, Int.reducePow, Int.reduceToNat, Int.reduceNeg, Int.reduceAdd, Int.reduceMul, Int.reduceSub, Int.reduceLT, Int.reduceLE, Int.reduceEq, Nat.zero_add, Int.zero_add, big_eq, true_and, and_true, and_self, dSub_int, dAdd_int, dAddI_int, dLt_int, dLe_int, dGt_int, dGe_int, dEqD_int, bInt_int, bLen_lst, bLen_tup, bMin_int, bMax_int, bAbs_int, dIs_non, dIs_int, dIs_nn, Bool.not_true, Bool.not_false, decide_true, decide_false, reduceIte, Bool.false_eq_true, if_false, if_true, iSeq_lst, iSeq_tup, iSeq_rdl, iEnu_lst, iEnu_tup]
    refine ws_rng (fun i L s' => ∃ y3 y4 y5 : Option D, L = [some (.int n), some (.ref s.length), some (.int (k + 1 : Nat)), y3, y4, y5] ∧ s' = s ++ [.lst ((rowE (endsE (n - 2) k) (k + 1) i).map rtD)] ∧ SmR (rowE (endsE (n - 2) k) (k + 1) i)) ⟨y3, y4, y5, rfl, rfl, hsm⟩ ?_ ?_
    · rintro i L s' hi ⟨y3, y4, y5, rfl, rfl, hsm⟩
      rw [show (1 : Int) + i = ((i + 1 : Nat) : Int) by omega]
      have l1 := endsE_len (n - 2) k
      have l2 := rowE_len (endsE (n - 2) k) (k + 1) i
      have l3 : k * (n - 2) ≤ 8 * 8 := Nat.mul_le_mul (by omega) (by omega)
      have eR : rowE (endsE (n - 2) k) (k + 1) (i + 1) = if Nat.gcd (k + 1) (i + 1) = 1 then insL (rowE (endsE (n - 2) k) (k + 1) i) (k + 1) (i + 1) else rowE (endsE (n - 2) k) (k + 1) i := rfl
      rw [eR]
      generalize rowE (endsE (n - 2) k) (k + 1) i = F at *
      generalize hu : k + 1 = u at *
      generalize hd : i + 1 = d at *
      simp (implicitDefEqProofs := false) only [hgc u d _ (by omega) (by omega), ↓w_srtT, ↓w_par2, ↓w_par3, ↓w_setd, ↓w_dict1, ↓w_maxDf, ↓w_slT, ↓w_addT, ↓w_dictT, ↓w_dictI, ↓w_get, ↓w_lrg1T, ↓w_lrg2T, ↓w_lrg1, ↓w_lrg2, ↓w_pop0, ↓w_lcT, ↓w_mth, ↓w_calm, ↓w_tryM, ↓w_tm0, ↓w_tmN, ↓w_tmS, ↓w_seq, ↓w_next, ↓w_break, ↓w_cont, ↓w_retN, ↓w_asg, ↓w_expr, ↓w_ret, ↓w_if, ↓w_asgG, ↓w_for, ↓w_put, ↓w_aug, ↓w_augS, ↓w_raise0, ↓w_raise1, ↓w_raise2, ↓w_try, ↓w_tryAs, ↓w_var, ↓w_c, ↓w_op, ↓w_chain, ↓w_notV, ↓w_andV, ↓w_orV, ↓w_ifE, ↓w_tst, ↓w_not, ↓w_and, ↓w_or, ↓w_yes, ↓w_nil, ↓w_cons, ↓w_tup, ↓w_lst, ↓w_lstT, ↓w_cb, ↓w_call, ↓w_callK, ↓w_neg, ↓w_no, ↓w_pt, ↓w_sl, ↓w_fld, ↓w_src, ↓w_rng, ↓w_enu, ↓w_listT, ↓w_app, ↓w_lc, ↓w_xf, ↓w_fldT, ↓w_make, ↓w_makeL, ↓w_run, ↓w_cut, ↓w_pure, ↓w_drop, nth2_eq, nth3_eq, w_ok, w_ex, w_nx, w_rt, w_bk, w_ct, w_exS, w_some, w_v, w_tr, w_fa, w_tb, w_ti, w_tn, w_L, w_L0, wb_not, cn_f, startD, arr, gN_eq, gTp, gCn, gNl, Option.bind_some, List.filterMap_cons, List.filterMap_nil, List.map_cons, List.map_nil, List.replicate_succ, List.replicate_zero, List.cons_append, List.nil_append, List.getElem?_cons_zero, List.getElem?_cons_succ, List.set_cons_zero, List.set_cons_succ, List.length_cons, List.length_nil, Nat.reduceAdd, Nat.reduceSub, Nat.reduceLeDiff, Nat.reduceEqDiff, Int.reducePow, Int.reduceToNat, Int.reduceNeg, Int.reduceAdd, Int.reduceMul, Int.reduceSub, Int.reduceLT, Int.reduceLE, Int.reduceEq, Nat.zero_add, Int.zero_add, big_eq, true_and, and_true, and_self, dSub_int, dAdd_int, dAddI_int, dLt_int, dLe_int, dGt_int, dGe_int, dEqD_int, bInt_int, bLen_lst, bLen_tup, bMin_int, bMax_int, bAbs_int, dIs_non, dIs_int, dIs_nn, Bool.not_true, Bool.not_false, decide_true, decide_false, reduceIte, Bool.false_eq_true, if_false, if_true, iSeq_lst, iSeq_tup, iSeq_rdl, iEnu_lst, iEnu_tup]
      refine wb_dec (fun h => ?_) (fun h => ?_)
      · have ps : ∀ o ∈ s ++ [O.lst (F.map rtD)], PurO o := fun o ho => by
          rcases List.mem_append.mp ho with ho | ho
          · exact hs o ho
          · rw [List.mem_singleton.mp ho]
            exact purO_lst fun x hx => by
              obtain ⟨r, _, rfl⟩ := List.mem_map.mp hx
              exact rtD_pur r
        have ise := ap_iseq (r := s) (xs := F.map rtD)
        simp (implicitDefEqProofs := false) only [ise, ↓w_srtT, ↓w_par2, ↓w_par3, ↓w_setd, ↓w_dict1, ↓w_maxDf, ↓w_slT, ↓w_addT, ↓w_dictT, ↓w_dictI, ↓w_get, ↓w_lrg1T, ↓w_lrg2T, ↓w_lrg1, ↓w_lrg2, ↓w_pop0, ↓w_lcT, ↓w_mth, ↓w_calm, ↓w_tryM, ↓w_tm0, ↓w_tmN, ↓w_tmS, ↓w_seq, ↓w_next, ↓w_break, ↓w_cont, ↓w_retN, ↓w_asg, ↓w_expr, ↓w_ret, ↓w_if, ↓w_asgG, ↓w_for, ↓w_put, ↓w_aug, ↓w_augS, ↓w_raise0, ↓w_raise1, ↓w_raise2, ↓w_try, ↓w_tryAs, ↓w_var, ↓w_c, ↓w_op, ↓w_chain, ↓w_notV, ↓w_andV, ↓w_orV, ↓w_ifE, ↓w_tst, ↓w_not, ↓w_and, ↓w_or, ↓w_yes, ↓w_nil, ↓w_cons, ↓w_tup, ↓w_lst, ↓w_lstT, ↓w_cb, ↓w_call, ↓w_callK, ↓w_neg, ↓w_no, ↓w_pt, ↓w_sl, ↓w_fld, ↓w_src, ↓w_rng, ↓w_enu, ↓w_listT, ↓w_app, ↓w_lc, ↓w_xf, ↓w_fldT, ↓w_make, ↓w_makeL, ↓w_run, ↓w_cut, ↓w_pure, ↓w_drop, nth2_eq, nth3_eq, w_ok, w_ex, w_nx, w_rt, w_bk, w_ct, w_exS, w_some, w_v, w_tr, w_fa, w_tb, w_ti, w_tn, w_L, w_L0, wb_not, cn_f, startD, arr, gN_eq, gTp, gCn, gNl, Option.bind_some, List.filterMap_cons, List.filterMap_nil, List.map_cons, List.map_nil, List.replicate_succ, List.replicate_zero, List.cons_append, List.nil_append, List.getElem?_cons_zero, List.getElem?_cons_succ, List.set_cons_zero, List.set_cons_succ, List.length_cons, List.length_nil, Nat.reduceAdd, Nat.reduceSub, Nat.reduceLeDiff, Nat.reduceEqDiff, Int.reducePow, Int.reduceToNat, Int.reduceNeg, Int.reduceAdd, Int.reduceMul, Int.reduceSub, Int.reduceLT, Int.reduceLE, Int.reduceEq, Nat.zero_add, Int.zero_add, big_eq, true_and, and_true, and_self, dSub_int, dAdd_int, dAddI_int, dLt_int, dLe_int, dGt_int, dGe_int, dEqD_int, bInt_int, bLen_lst, bLen_tup, bMin_int, bMax_int, bAbs_int, dIs_non, dIs_int, dIs_nn, Bool.not_true, Bool.not_false, decide_true, decide_false, reduceIte, Bool.false_eq_true, if_false, if_true, iSeq_lst, iSeq_tup, iSeq_rdl, iEnu_lst, iEnu_tup]
        refine lcp_wp F rtD (fun r => Nat.blt (r.1 * d) (u * r.2)) rtD rfl (fun acc => chk_2 acc) (by omega) ps (fun r _ => rtD_pur r) (fun r hr acc _ => ?_) ?_
        · have hr' := hsm r hr
          have m1 : ∀ s, dMul s (.int r.1) (.int d) = some (.int (r.1 * d)) := fun s => dMul_small (by omega) (by omega) (by omega) (by omega)
          have m2 : ∀ s, dMul s (.int u) (.int r.2) = some (.int (u * r.2)) := fun s => dMul_small (by omega) (by omega) (by omega) (by omega)
          simp (implicitDefEqProofs := false) only [wipeD, rt_0, rt_1, m1, m2, ↓w_srtT, ↓w_par2, ↓w_par3, ↓w_setd, ↓w_dict1, ↓w_maxDf, ↓w_slT, ↓w_addT, ↓w_dictT, ↓w_dictI, ↓w_get, ↓w_lrg1T, ↓w_lrg2T, ↓w_lrg1, ↓w_lrg2, ↓w_pop0, ↓w_lcT, ↓w_mth, ↓w_calm, ↓w_tryM, ↓w_tm0, ↓w_tmN, ↓w_tmS, ↓w_seq, ↓w_next, ↓w_break, ↓w_cont, ↓w_retN, ↓w_asg, ↓w_expr, ↓w_ret, ↓w_if, ↓w_asgG, ↓w_for, ↓w_put, ↓w_aug, ↓w_augS, ↓w_raise0, ↓w_raise1, ↓w_raise2, ↓w_try, ↓w_tryAs, ↓w_var, ↓w_c, ↓w_op, ↓w_chain, ↓w_notV, ↓w_andV, ↓w_orV, ↓w_ifE, ↓w_tst, ↓w_not, ↓w_and, ↓w_or, ↓w_yes, ↓w_nil, ↓w_cons, ↓w_tup, ↓w_lst, ↓w_lstT, ↓w_cb, ↓w_call, ↓w_callK, ↓w_neg, ↓w_no, ↓w_pt, ↓w_sl, ↓w_fld, ↓w_src, ↓w_rng, ↓w_enu, ↓w_listT, ↓w_app, ↓w_lc, ↓w_xf, ↓w_fldT, ↓w_make, ↓w_makeL, ↓w_run, ↓w_cut, ↓w_pure, ↓w_drop, nth2_eq, nth3_eq, w_ok, w_ex, w_nx, w_rt, w_bk, w_ct, w_exS, w_some, w_v, w_tr, w_fa, w_tb, w_ti, w_tn, w_L, w_L0, wb_not, cn_f, startD, arr, gN_eq, gTp, gCn, gNl, Option.bind_some, List.filterMap_cons, List.filterMap_nil, List.map_cons, List.map_nil, List.replicate_succ, List.replicate_zero, List.cons_append, List.nil_append, List.getElem?_cons_zero, List.getElem?_cons_succ, List.set_cons_zero, List.set_cons_succ, List.length_cons, List.length_nil, Nat.reduceAdd, Nat.reduceSub, Nat.reduceLeDiff, Nat.reduceEqDiff, Int.reducePow, Int.reduceToNat, Int.reduceNeg, Int.reduceAdd, Int.reduceMul, Int.reduceSub, Int.reduceLT, Int.reduceLE, Int.reduceEq, Nat.zero_add, Int.zero_add, big_eq, true_and, and_true, and_self, dSub_int, dAdd_int, dAddI_int, dLt_int, dLe_int, dGt_int, dGe_int, dEqD_int, bInt_int, bLen_lst, bLen_tup, bMin_int, bMax_int, bAbs_int, dIs_non, dIs_int, dIs_nn, Bool.not_true, Bool.not_false, decide_true, decide_false, reduceIte, Bool.false_eq_true, if_false, if_true, iSeq_lst, iSeq_tup, iSeq_rdl, iEnu_lst, iEnu_tup]
          refine ⟨?_, fun _ => trivial⟩
          rw [Bool.eq_iff_iff, decide_eq_true_eq, Nat.blt_eq]
          constructor <;> intro h <;> exact_mod_cast h
        have fl : (F.filter fun r => Nat.blt (r.1 * d) (u * r.2)).length ≤ F.length := List.length_filter_le ..
        have lm : ((F.filter fun r => Nat.blt (r.1 * d) (u * r.2)).map rtD).length = (F.filter fun r => Nat.blt (r.1 * d) (u * r.2)).length := List.length_map ..
        have ins : mInsert (s ++ [.lst (F.map rtD)]) (.ref s.length) [.int (F.filter fun r => Nat.blt (r.1 * d) (u * r.2)).length, .tup [.int u, .int d]] = some (.non, s ++ [.lst ((insL F u d).map rtD)]) := by
          unfold mInsert
          dsimp only
          rw [show (s ++ [O.lst (F.map rtD)])[s.length]? = some (.lst (F.map rtD)) by simp]
          dsimp only
          rw [if_pos ⟨by rw [List.length_map]; unfold big; omega, by omega, by omega⟩, Int.toNat_natCast, set_app]
          unfold insL
          simp only [List.map_append, List.map_take, List.map_drop, List.map_cons, List.map_nil]
          rfl
        have lf : lstOf (s ++ [.lst (F.map rtD)]) (.ref s.length) = some (F.map rtD) := by
          unfold lstOf
          simp only [get_app]
        simp (implicitDefEqProofs := false) only [lm, ins, lf, ↓w_srtT, ↓w_par2, ↓w_par3, ↓w_setd, ↓w_dict1, ↓w_maxDf, ↓w_slT, ↓w_addT, ↓w_dictT, ↓w_dictI, ↓w_get, ↓w_lrg1T, ↓w_lrg2T, ↓w_lrg1, ↓w_lrg2, ↓w_pop0, ↓w_lcT, ↓w_mth, ↓w_calm, ↓w_tryM, ↓w_tm0, ↓w_tmN, ↓w_tmS, ↓w_seq, ↓w_next, ↓w_break, ↓w_cont, ↓w_retN, ↓w_asg, ↓w_expr, ↓w_ret, ↓w_if, ↓w_asgG, ↓w_for, ↓w_put, ↓w_aug, ↓w_augS, ↓w_raise0, ↓w_raise1, ↓w_raise2, ↓w_try, ↓w_tryAs, ↓w_var, ↓w_c, ↓w_op, ↓w_chain, ↓w_notV, ↓w_andV, ↓w_orV, ↓w_ifE, ↓w_tst, ↓w_not, ↓w_and, ↓w_or, ↓w_yes, ↓w_nil, ↓w_cons, ↓w_tup, ↓w_lst, ↓w_lstT, ↓w_cb, ↓w_call, ↓w_callK, ↓w_neg, ↓w_no, ↓w_pt, ↓w_sl, ↓w_fld, ↓w_src, ↓w_rng, ↓w_enu, ↓w_listT, ↓w_app, ↓w_lc, ↓w_xf, ↓w_fldT, ↓w_make, ↓w_makeL, ↓w_run, ↓w_cut, ↓w_pure, ↓w_drop, nth2_eq, nth3_eq, w_ok, w_ex, w_nx, w_rt, w_bk, w_ct, w_exS, w_some, w_v, w_tr, w_fa, w_tb, w_ti, w_tn, w_L, w_L0, wb_not, cn_f, startD, arr, gN_eq, gTp, gCn, gNl, Option.bind_some, List.filterMap_cons, List.filterMap_nil, List.map_cons, List.map_nil, List.replicate_succ, List.replicate_zero, List.cons_append, List.nil_append, List.getElem?_cons_zero, List.getElem?_cons_succ, List.set_cons_zero, List.set_cons_succ, List.length_cons, List.length_nil, Nat.reduceAdd, Nat.reduceSub, Nat.reduceLeDiff, Nat.reduceEqDiff, Int.reducePow, Int.reduceToNat, Int.reduceNeg, Int.reduceAdd, Int.reduceMul, Int.reduceSub, Int.reduceLT, Int.reduceLE, Int.reduceEq, Nat.zero_add, Int.zero_add, big_eq, true_and, and_true, and_self, dSub_int, dAdd_int, dAddI_int, dLt_int, dLe_int, dGt_int, dGe_int, dEqD_int, bInt_int, bLen_lst, bLen_tup, bMin_int, bMax_int, bAbs_int, dIs_non, dIs_int, dIs_nn, Bool.not_true, Bool.not_false, decide_true, decide_false, reduceIte, Bool.false_eq_true, if_false, if_true, iSeq_lst, iSeq_tup, iSeq_rdl, iEnu_lst, iEnu_tup]
        rw [if_pos (by omega)]
        exact ⟨_, _, _, rfl, rfl, insL_sm hsm (by omega) (by omega)⟩
      · simp (implicitDefEqProofs := false) only [↓w_srtT, ↓w_par2, ↓w_par3, ↓w_setd, ↓w_dict1, ↓w_maxDf, ↓w_slT, ↓w_addT, ↓w_dictT, ↓w_dictI, ↓w_get, ↓w_lrg1T, ↓w_lrg2T, ↓w_lrg1, ↓w_lrg2, ↓w_pop0, ↓w_lcT, ↓w_mth, ↓w_calm, ↓w_tryM, ↓w_tm0, ↓w_tmN, ↓w_tmS, ↓w_seq, ↓w_next, ↓w_break, ↓w_cont, ↓w_retN, ↓w_asg, ↓w_expr, ↓w_ret, ↓w_if, ↓w_asgG, ↓w_for, ↓w_put, ↓w_aug, ↓w_augS, ↓w_raise0, ↓w_raise1, ↓w_raise2, ↓w_try, ↓w_tryAs, ↓w_var, ↓w_c, ↓w_op, ↓w_chain, ↓w_notV, ↓w_andV, ↓w_orV, ↓w_ifE, ↓w_tst, ↓w_not, ↓w_and, ↓w_or, ↓w_yes, ↓w_nil, ↓w_cons, ↓w_tup, ↓w_lst, ↓w_lstT, ↓w_cb, ↓w_call, ↓w_callK, ↓w_neg, ↓w_no, ↓w_pt, ↓w_sl, ↓w_fld, ↓w_src, ↓w_rng, ↓w_enu, ↓w_listT, ↓w_app, ↓w_lc, ↓w_xf, ↓w_fldT, ↓w_make, ↓w_makeL, ↓w_run, ↓w_cut, ↓w_pure, ↓w_drop, nth2_eq, nth3_eq, w_ok, w_ex, w_nx, w_rt, w_bk, w_ct, w_exS, w_some, w_v, w_tr, w_fa, w_tb, w_ti, w_tn, w_L, w_L0, wb_not, cn_f, startD, arr, gN_eq, gTp, gCn, gNl, Option.bind_some, List.filterMap_cons, List.filterMap_nil, List.map_cons, List.map_nil, List.replicate_succ, List.replicate_zero, List.cons_append, List.nil_append, List.getElem?_cons_zero, List.getElem?_cons_succ, List.set_cons_zero, List.set_cons_succ, List.length_cons, List.length_nil, Nat.reduceAdd, Nat.reduceSub, Nat.reduceLeDiff, Nat.reduceEqDiff, Int.reducePow, Int.reduceToNat, Int.reduceNeg, Int.reduceAdd, Int.reduceMul, Int.reduceSub, Int.reduceLT, Int.reduceLE, Int.reduceEq, Nat.zero_add, Int.zero_add, big_eq, true_and, and_true, and_self, dSub_int, dAdd_int, dAddI_int, dLt_int, dLe_int, dGt_int, dGe_int, dEqD_int, bInt_int, bLen_lst, bLen_tup, bMin_int, bMax_int, bAbs_int, dIs_non, dIs_int, dIs_nn, Bool.not_true, Bool.not_false, decide_true, decide_false, reduceIte, Bool.false_eq_true, if_false, if_true, iSeq_lst, iSeq_tup, iSeq_rdl, iEnu_lst, iEnu_tup]
        rw [if_neg (by omega)]
        exact ⟨_, _, _, rfl, rfl, hsm⟩
    · rintro L s' ⟨y3, y4, y5, rfl, rfl, hsm⟩
      exact ⟨_, _, _, _, rfl, rfl, hsm⟩
  · rintro L s' ⟨y2, y3, y4, y5, rfl, rfl, hsm⟩
    simp (implicitDefEqProofs := false) only [↓w_srtT, ↓w_par2, ↓w_par3, ↓w_setd, ↓w_dict1, ↓w_maxDf, ↓w_slT, ↓w_addT, ↓w_dictT, ↓w_dictI, ↓w_get, ↓w_lrg1T, ↓w_lrg2T, ↓w_lrg1, ↓w_lrg2, ↓w_pop0, ↓w_lcT, ↓w_mth, ↓w_calm, ↓w_tryM, ↓w_tm0, ↓w_tmN, ↓w_tmS, ↓w_seq, ↓w_next, ↓w_break, ↓w_cont, ↓w_retN, ↓w_asg, ↓w_expr, ↓w_ret, ↓w_if, ↓w_asgG, ↓w_for, ↓w_put, ↓w_aug, ↓w_augS, ↓w_raise0, ↓w_raise1, ↓w_raise2, ↓w_try, ↓w_tryAs, ↓w_var, ↓w_c, ↓w_op, ↓w_chain, ↓w_notV, ↓w_andV, ↓w_orV, ↓w_ifE, ↓w_tst, ↓w_not, ↓w_and, ↓w_or, ↓w_yes, ↓w_nil, ↓w_cons, ↓w_tup, ↓w_lst, ↓w_lstT, ↓w_cb, ↓w_call, ↓w_callK, ↓w_neg, ↓w_no, ↓w_pt, ↓w_sl, ↓w_fld, ↓w_src, ↓w_rng, ↓w_enu, ↓w_listT, ↓w_app, ↓w_lc, ↓w_xf, ↓w_fldT, ↓w_make, ↓w_makeL, ↓w_run, ↓w_cut, ↓w_pure, ↓w_drop, nth2_eq, nth3_eq, w_ok, w_ex, w_nx, w_rt, w_bk, w_ct, w_exS, w_some, w_v, w_tr, w_fa, w_tb, w_ti, w_tn, w_L, w_L0, wb_not, cn_f, startD, arr, gN_eq, gTp, gCn, gNl, Option.bind_some, List.filterMap_cons, List.filterMap_nil, List.map_cons, List.map_nil, List.replicate_succ, List.replicate_zero, List.cons_append, List.nil_append, List.getElem?_cons_zero, List.getElem?_cons_succ, List.set_cons_zero, List.set_cons_succ, List.length_cons, List.length_nil, Nat.reduceAdd, Nat.reduceSub, Nat.reduceLeDiff, Nat.reduceEqDiff, Int.reducePow, Int.reduceToNat, Int.reduceNeg, Int.reduceAdd, Int.reduceMul, Int.reduceSub, Int.reduceLT, Int.reduceLE, Int.reduceEq, Nat.zero_add, Int.zero_add, big_eq, true_and, and_true, and_self, dSub_int, dAdd_int, dAddI_int, dLt_int, dLe_int, dGt_int, dGe_int, dEqD_int, bInt_int, bLen_lst, bLen_tup, bMin_int, bMax_int, bAbs_int, dIs_non, dIs_int, dIs_nn, Bool.not_true, Bool.not_false, decide_true, decide_false, reduceIte, Bool.false_eq_true, if_false, if_true, iSeq_lst, iSeq_tup, iSeq_rdl, iEnu_lst, iEnu_tup]
    refine ⟨by simp, ?_⟩
    rw [fin2_ref (Nat.le_refl _) (xs := (endsE (n - 2) (n - 2)).map rtD) (by simp) (fun x hx => by
      obtain ⟨r, _, rfl⟩ := List.mem_map.mp hx
      exact rtD_pur r)]
    exact ⟨rfl, rfl⟩
theorem eq_rt (neg : Bool) (s : S) (a b : Rt) : dEqD neg s (rtD a) (rtD b) = some (.bl (if neg = true then !decide (b = a) else decide (b = a))) := by
  have h := eq_pr s a (some b)
  unfold dEqD at h ⊢
  have e : ∀ r : Rt, toPyT s (rtD r) = some (.tuple [.int r.1, .int r.2]) := fun r => rfl
  rw [show prD (some b) = rtD b from rfl, e, e] at h
  rw [e, e]
  dsimp only at h ⊢
  split at h
  · rename_i hc
    rw [if_pos hc]
    simp only [Bool.false_eq_true, if_false, Option.some.injEq, D.bl.injEq] at h
    rw [h]
  · cases h
theorem sl2 (s : S) (b : Bd) : dSl s (bdD b) (some 2) none = some (rtD b.2.2) := rfl
theorem bstL_len (n : Nat) (E : List Rt) (F : List Bd) (i : Nat) : (bstL n E F i).length ≤ F.length + 1 := by
  unfold bstL
  generalize pairN n (btw (lowAt E i) E[i]?).1 (btw (lowAt E i) E[i]?).2 = q
  obtain ⟨T, S'⟩ := q
  dsimp only
  split
  · simp
  · split
    · rw [List.length_set]
      omega
    · simp
theorem lbands_ok {n : Nat} (n0 : 2 ≤ n) (n1 : n ≤ 8) (s : S) (hs : ∀ o ∈ s, PurO o) : G__law_bands c [.int n] s = .ok (.lst ((bandsN n).map bdD)) s := by
  have hk := chk61_all n0 n1
  unfold chk61 at hk
  simp only [Bool.and_eq_true, decide_eq_true_eq, List.all_eq_true] at hk
  obtain ⟨⟨k1, k2⟩, k3⟩ := hk
  have hE := ends_ok (c := c) n0 n1 (s := s) hs
  rw [k1] at hE
  rw [← k2]
  have lE : (crossN n).length ≤ 64 := by
    rw [← k1]
    have := endsE_len (n - 2) (n - 2)
    have : (n - 2) * (n - 2) ≤ 8 * 8 := Nat.mul_le_mul (by omega) (by omega)
    omega
  have hm := fun r h => crossN_mem (n := n) (by omega) (r := r) h
  clear k1 k2
  generalize crossN n = E at *
  apply eq_ok
  unfold G__law_bands
  have hP := fun {r : Rt} x1 y1 hc s hs => lpair_ok (c := c) n0 n1 (r := r) x1 y1 hc s hs
  generalize G__law_pair c = pG at *
  generalize G__law_ends c = eG at *
  have hlow : ∀ i, (lowAt E i).1 ≤ 18 ∧ (lowAt E i).2 ≤ 18 := fun i => by
    unfold lowAt
    split
    · exact ⟨by decide, by decide⟩
    · split
      · rename_i h
        have h2 : min (i - 1) (E.length - 1) < E.length := by omega
        rw [List.getD_eq_getElem?_getD, List.getElem?_eq_getElem h2]
        have := hm _ (List.getElem_mem h2)
        exact ⟨this.2.2.1, this.2.2.2.2⟩
      · exact ⟨by decide, by decide⟩
  have hE' : ∀ s', s' = s → eG [.int n] s' = .ok (.lst (E.map rtD)) s' := fun s' e => e ▸ hE
  have lm : (E.map rtD).length = E.length := List.length_map ..
  simp (implicitDefEqProofs := false) only [hE, ↓w_srtT, ↓w_par2, ↓w_par3, ↓w_setd, ↓w_dict1, ↓w_maxDf, ↓w_slT, ↓w_addT, ↓w_dictT, ↓w_dictI, ↓w_get, ↓w_lrg1T, ↓w_lrg2T, ↓w_lrg1, ↓w_lrg2, ↓w_pop0, ↓w_lcT, ↓w_mth, ↓w_calm, ↓w_tryM, ↓w_tm0, ↓w_tmN, ↓w_tmS, ↓w_seq, ↓w_next, ↓w_break, ↓w_cont, ↓w_retN, ↓w_asg, ↓w_expr, ↓w_ret, ↓w_if, ↓w_asgG, ↓w_for, ↓w_put, ↓w_aug, ↓w_augS, ↓w_raise0, ↓w_raise1, ↓w_raise2, ↓w_try, ↓w_tryAs, ↓w_var, ↓w_c, ↓w_op, ↓w_chain, ↓w_notV, ↓w_andV, ↓w_orV, ↓w_ifE, ↓w_tst, ↓w_not, ↓w_and, ↓w_or, ↓w_yes, ↓w_nil, ↓w_cons, ↓w_tup, ↓w_lst, ↓w_lstT, ↓w_cb, ↓w_call, ↓w_callK, ↓w_neg, ↓w_no, ↓w_pt, ↓w_sl, ↓w_fld, ↓w_src, ↓w_rng, ↓w_enu, ↓w_listT, ↓w_app, ↓w_lc, ↓w_xf, ↓w_fldT, ↓w_make, ↓w_makeL, ↓w_run, ↓w_cut, ↓w_pure, ↓w_drop, nth2_eq, nth3_eq, w_ok, w_ex, w_nx, w_rt, w_bk, w_ct, w_exS, w_some, w_v, w_tr, w_fa, w_tb, w_ti, w_tn, w_L, w_L0, wb_not, cn_f, startD, arr, gN_eq, gTp, gCn, gNl, Option.bind_some, List.filterMap_cons, List.filterMap_nil, List.map_cons, List.map_nil, List.replicate_succ, List.replicate_zero, List.cons_append, List.nil_append, List.getElem?_cons_zero, List.getElem?_cons_succ, List.set_cons_zero, List.set_cons_succ, List.length_cons, List.length_nil, Nat.reduceAdd, Nat.reduceSub, Nat.reduceLeDiff, Nat.reduceEqDiff, Int.reducePow, Int.reduceToNat, Int.reduceNeg, Int.reduceAdd, Int.reduceMul, Int.reduceSub, Int.reduceLT, Int.reduceLE, Int.reduceEq, Nat.zero_add, Int.zero_add, big_eq, true_and, and_true, and_self, dSub_int, dAdd_int, dAddI_int, dLt_int, dLe_int, dGt_int, dGe_int, dEqD_int, bInt_int, bLen_lst, bLen_tup, bMin_int, bMax_int, bAbs_int, dIs_non, dIs_int, dIs_nn, Bool.not_true, Bool.not_false, decide_true, decide_false, reduceIte, Bool.false_eq_true, if_false, if_true, iSeq_lst, iSeq_tup, iSeq_rdl, iEnu_lst, iEnu_tup]
  rw [lm, rng1 (by omega) (by omega), w_some, show ((E.length : Int) + 1).toNat = E.length + 1 by omega]
  refine ws_rng (fun i L s' => ∃ (F : List Bd) (y4 y5 y6 y7 : Option D), L = [some (.int n), some (.lst (E.map rtD)), some (.ref s.length), some (rtD (lowAt E i)), y4, y5, y6, y7] ∧ s' = s ++ [.lst (F.map bdD)] ∧ F = (List.range i).foldl (bstL n E) [] ∧ F.length ≤ i) ⟨[], none, none, none, none, rfl, rfl, rfl, Nat.le_refl _⟩ ?_ ?_
  · rintro i L s' hi ⟨F, y4, y5, y6, y7, rfl, rfl, eF, lF⟩
    have e0 : (0 : Int) + (i : Int) = (i : Int) := by omega
    have ef : (List.range (i + 1)).foldl (bstL n E) [] = bstL n E F i := by
      rw [List.range_succ, List.foldl_append, ← eF]
      rfl
    rw [ef]
    have hb := bstL_len n E F i
    have hl := hlow i
    have ck := k3 i (List.mem_range.mpr hi)
    clear eF ef
    have low1 : (if 0 < E.length then E.getD (min i (E.length - 1)) (0, 1) else lowAt E i) = lowAt E (i + 1) := by
      unfold lowAt
      rw [if_neg (by omega : ¬ i + 1 = 0), Nat.add_sub_cancel]
      split
      · rfl
      · split
        · rfl
        · rfl
    have ps : ∀ o ∈ s ++ [O.lst (F.map bdD)], PurO o := fun o ho => by
      rcases List.mem_append.mp ho with ho | ho
      · exact hs o ho
      · rw [List.mem_singleton.mp ho]
        exact purO_lst fun x hx => by
          obtain ⟨r, _, rfl⟩ := List.mem_map.mp hx
          exact bdD_pur r
    have ll : ∀ s, bLen s [.lst (E.map rtD)] = some (.int E.length) := fun s => by
      show some (D.int (E.map rtD).length) = _
      rw [lm]
    simp (implicitDefEqProofs := false) only [e0, rt_0, rt_1, ↓w_srtT, ↓w_par2, ↓w_par3, ↓w_setd, ↓w_dict1, ↓w_maxDf, ↓w_slT, ↓w_addT, ↓w_dictT, ↓w_dictI, ↓w_get, ↓w_lrg1T, ↓w_lrg2T, ↓w_lrg1, ↓w_lrg2, ↓w_pop0, ↓w_lcT, ↓w_mth, ↓w_calm, ↓w_tryM, ↓w_tm0, ↓w_tmN, ↓w_tmS, ↓w_next, ↓w_break, ↓w_cont, ↓w_retN, ↓w_asg, ↓w_expr, ↓w_ret, ↓w_if, ↓w_asgG, ↓w_for, ↓w_put, ↓w_aug, ↓w_augS, ↓w_raise0, ↓w_raise1, ↓w_raise2, ↓w_try, ↓w_tryAs, ↓w_var, ↓w_c, ↓w_op, ↓w_chain, ↓w_notV, ↓w_andV, ↓w_orV, ↓w_ifE, ↓w_tst, ↓w_not, ↓w_and, ↓w_or, ↓w_yes, ↓w_nil, ↓w_cons, ↓w_tup, ↓w_lst, ↓w_lstT, ↓w_cb, ↓w_call, ↓w_callK, ↓w_neg, ↓w_no, ↓w_pt, ↓w_sl, ↓w_fld, ↓w_src, ↓w_rng, ↓w_enu, ↓w_listT, ↓w_app, ↓w_lc, ↓w_xf, ↓w_fldT, ↓w_make, ↓w_makeL, ↓w_run, ↓w_cut, ↓w_pure, ↓w_drop, ↓wq_asg, ↓wq_asgG, ↓wq_expr, ↓wq_put, ↓wq_aug, ↓wq_augS, ↓wq_for, nth2_eq, nth3_eq, w_ok, w_ex, w_nx, w_rt, w_bk, w_ct, w_exS, w_some, w_v, w_tr, w_fa, w_tb, w_ti, w_tn, w_L, w_L0, wb_not, cn_f, startD, arr, gN_eq, gTp, gCn, gNl, Option.bind_some, List.filterMap_cons, List.filterMap_nil, List.map_cons, List.map_nil, List.replicate_succ, List.replicate_zero, List.cons_append, List.nil_append, List.getElem?_cons_zero, List.getElem?_cons_succ, List.set_cons_zero, List.set_cons_succ, List.length_cons, List.length_nil, Nat.reduceAdd, Nat.reduceSub, Nat.reduceLeDiff, Nat.reduceEqDiff, Int.reducePow, Int.reduceToNat, Int.reduceNeg, Int.reduceAdd, Int.reduceMul, Int.reduceSub, Int.reduceLT, Int.reduceLE, Int.reduceEq, Nat.zero_add, Int.zero_add, big_eq, true_and, and_true, and_self, dSub_int, dAdd_int, dAddI_int, dLt_int, dLe_int, dGt_int, dGe_int, dEqD_int, bInt_int, bLen_lst, bLen_tup, bMin_int, bMax_int, bAbs_int, dIs_non, dIs_int, dIs_nn, Bool.not_true, Bool.not_false, decide_true, decide_false, reduceIte, Bool.false_eq_true, if_false, if_true, iSeq_lst, iSeq_tup, iSeq_rdl, iEnu_lst, iEnu_tup]
    obtain ⟨low, elow⟩ : ∃ low, low = lowAt E i := ⟨_, rfl⟩
    obtain ⟨high, ehigh⟩ : ∃ high, high = E[i]? := ⟨_, rfl⟩
    obtain ⟨q, eq⟩ : ∃ q, q = pairN n (btw low high).1 (btw low high).2 := ⟨_, rfl⟩
    have eB : bstL n E F i = match F.getLast? with
        | none => F ++ [(low, high, q)]
        | some b => if b.2.2 = q then F.set (F.length - 1) (b.1, high, q) else F ++ [(low, high, q)] := by
      unfold bstL
      rw [← elow, ← ehigh, ← eq]
      all_goals
        obtain ⟨T, S'⟩ := q
        rfl
    rw [← elow] at low1 hl ck ⊢
    rw [← ehigh] at ck
    refine ws_cut (fun L s' => L = [some (.int n), some (.lst (E.map rtD)), some (.ref s.length), some (rtD low), some (.int i), some (orD high), some (rtD (btw low high)), y7] ∧ s' = s ++ [.lst (F.map bdD)]) ?_ ?_
    · simp (implicitDefEqProofs := false) only [lm, ↓w_srtT, ↓w_par2, ↓w_par3, ↓w_setd, ↓w_dict1, ↓w_maxDf, ↓w_slT, ↓w_addT, ↓w_dictT, ↓w_dictI, ↓w_get, ↓w_lrg1T, ↓w_lrg2T, ↓w_lrg1, ↓w_lrg2, ↓w_pop0, ↓w_lcT, ↓w_mth, ↓w_calm, ↓w_tryM, ↓w_tm0, ↓w_tmN, ↓w_tmS, ↓w_seq, ↓w_next, ↓w_break, ↓w_cont, ↓w_retN, ↓w_asg, ↓w_expr, ↓w_ret, ↓w_if, ↓w_asgG, ↓w_for, ↓w_put, ↓w_aug, ↓w_augS, ↓w_raise0, ↓w_raise1, ↓w_raise2, ↓w_try, ↓w_tryAs, ↓w_var, ↓w_c, ↓w_op, ↓w_chain, ↓w_notV, ↓w_andV, ↓w_orV, ↓w_ifE, ↓w_tst, ↓w_not, ↓w_and, ↓w_or, ↓w_yes, ↓w_nil, ↓w_cons, ↓w_tup, ↓w_lst, ↓w_lstT, ↓w_cb, ↓w_call, ↓w_callK, ↓w_neg, ↓w_no, ↓w_pt, ↓w_sl, ↓w_fld, ↓w_src, ↓w_rng, ↓w_enu, ↓w_listT, ↓w_app, ↓w_lc, ↓w_xf, ↓w_fldT, ↓w_make, ↓w_makeL, ↓w_run, ↓w_cut, ↓w_pure, ↓w_drop, nth2_eq, nth3_eq, w_ok, w_ex, w_nx, w_rt, w_bk, w_ct, w_exS, w_some, w_v, w_tr, w_fa, w_tb, w_ti, w_tn, w_L, w_L0, wb_not, cn_f, startD, arr, gN_eq, gTp, gCn, gNl, Option.bind_some, List.filterMap_cons, List.filterMap_nil, List.map_cons, List.map_nil, List.replicate_succ, List.replicate_zero, List.cons_append, List.nil_append, List.getElem?_cons_zero, List.getElem?_cons_succ, List.set_cons_zero, List.set_cons_succ, List.length_cons, List.length_nil, Nat.reduceAdd, Nat.reduceSub, Nat.reduceLeDiff, Nat.reduceEqDiff, Int.reducePow, Int.reduceToNat, Int.reduceNeg, Int.reduceAdd, Int.reduceMul, Int.reduceSub, Int.reduceLT, Int.reduceLE, Int.reduceEq, Nat.zero_add, Int.zero_add, big_eq, true_and, and_true, and_self, dSub_int, dAdd_int, dAddI_int, dLt_int, dLe_int, dGt_int, dGe_int, dEqD_int, bInt_int, bLen_lst, bLen_tup, bMin_int, bMax_int, bAbs_int, dIs_non, dIs_int, dIs_nn, Bool.not_true, Bool.not_false, decide_true, decide_false, reduceIte, Bool.false_eq_true, if_false, if_true, iSeq_lst, iSeq_tup, iSeq_rdl, iEnu_lst, iEnu_tup]
      refine wb_dec (fun h => ?_) (fun h => ?_)
      · have hiE : i < E.length := by omega
        have ix : ∀ s, dIx s (.lst (E.map rtD)) (.int i) = some (rtD E[i]) := fun s => by
          show L2.atI (E.map rtD) (i : Int) = _
          exact atI_map (List.getElem?_eq_getElem hiE)
        rw [List.getElem?_eq_getElem hiE] at ehigh
        subst ehigh
        simp (implicitDefEqProofs := false) only [ix, rt_0, rt_1, ↓w_srtT, ↓w_par2, ↓w_par3, ↓w_setd, ↓w_dict1, ↓w_maxDf, ↓w_slT, ↓w_addT, ↓w_dictT, ↓w_dictI, ↓w_get, ↓w_lrg1T, ↓w_lrg2T, ↓w_lrg1, ↓w_lrg2, ↓w_pop0, ↓w_lcT, ↓w_mth, ↓w_calm, ↓w_tryM, ↓w_tm0, ↓w_tmN, ↓w_tmS, ↓w_seq, ↓w_next, ↓w_break, ↓w_cont, ↓w_retN, ↓w_asg, ↓w_expr, ↓w_ret, ↓w_if, ↓w_asgG, ↓w_for, ↓w_put, ↓w_aug, ↓w_augS, ↓w_raise0, ↓w_raise1, ↓w_raise2, ↓w_try, ↓w_tryAs, ↓w_var, ↓w_c, ↓w_op, ↓w_chain, ↓w_notV, ↓w_andV, ↓w_orV, ↓w_ifE, ↓w_tst, ↓w_not, ↓w_and, ↓w_or, ↓w_yes, ↓w_nil, ↓w_cons, ↓w_tup, ↓w_lst, ↓w_lstT, ↓w_cb, ↓w_call, ↓w_callK, ↓w_neg, ↓w_no, ↓w_pt, ↓w_sl, ↓w_fld, ↓w_src, ↓w_rng, ↓w_enu, ↓w_listT, ↓w_app, ↓w_lc, ↓w_xf, ↓w_fldT, ↓w_make, ↓w_makeL, ↓w_run, ↓w_cut, ↓w_pure, ↓w_drop, nth2_eq, nth3_eq, w_ok, w_ex, w_nx, w_rt, w_bk, w_ct, w_exS, w_some, w_v, w_tr, w_fa, w_tb, w_ti, w_tn, w_L, w_L0, wb_not, cn_f, startD, arr, gN_eq, gTp, gCn, gNl, Option.bind_some, List.filterMap_cons, List.filterMap_nil, List.map_cons, List.map_nil, List.replicate_succ, List.replicate_zero, List.cons_append, List.nil_append, List.getElem?_cons_zero, List.getElem?_cons_succ, List.set_cons_zero, List.set_cons_succ, List.length_cons, List.length_nil, Nat.reduceAdd, Nat.reduceSub, Nat.reduceLeDiff, Nat.reduceEqDiff, Int.reducePow, Int.reduceToNat, Int.reduceNeg, Int.reduceAdd, Int.reduceMul, Int.reduceSub, Int.reduceLT, Int.reduceLE, Int.reduceEq, Nat.zero_add, Int.zero_add, big_eq, true_and, and_true, and_self, dSub_int, dAdd_int, dAddI_int, dLt_int, dLe_int, dGt_int, dGe_int, dEqD_int, bInt_int, bLen_lst, bLen_tup, bMin_int, bMax_int, bAbs_int, dIs_non, dIs_int, dIs_nn, Bool.not_true, Bool.not_false, decide_true, decide_false, reduceIte, Bool.false_eq_true, if_false, if_true, iSeq_lst, iSeq_tup, iSeq_rdl, iEnu_lst, iEnu_tup]
        rfl
      · rw [List.getElem?_eq_none (by omega)] at ehigh
        subst ehigh
        simp (implicitDefEqProofs := false) only [↓w_srtT, ↓w_par2, ↓w_par3, ↓w_setd, ↓w_dict1, ↓w_maxDf, ↓w_slT, ↓w_addT, ↓w_dictT, ↓w_dictI, ↓w_get, ↓w_lrg1T, ↓w_lrg2T, ↓w_lrg1, ↓w_lrg2, ↓w_pop0, ↓w_lcT, ↓w_mth, ↓w_calm, ↓w_tryM, ↓w_tm0, ↓w_tmN, ↓w_tmS, ↓w_seq, ↓w_next, ↓w_break, ↓w_cont, ↓w_retN, ↓w_asg, ↓w_expr, ↓w_ret, ↓w_if, ↓w_asgG, ↓w_for, ↓w_put, ↓w_aug, ↓w_augS, ↓w_raise0, ↓w_raise1, ↓w_raise2, ↓w_try, ↓w_tryAs, ↓w_var, ↓w_c, ↓w_op, ↓w_chain, ↓w_notV, ↓w_andV, ↓w_orV, ↓w_ifE, ↓w_tst, ↓w_not, ↓w_and, ↓w_or, ↓w_yes, ↓w_nil, ↓w_cons, ↓w_tup, ↓w_lst, ↓w_lstT, ↓w_cb, ↓w_call, ↓w_callK, ↓w_neg, ↓w_no, ↓w_pt, ↓w_sl, ↓w_fld, ↓w_src, ↓w_rng, ↓w_enu, ↓w_listT, ↓w_app, ↓w_lc, ↓w_xf, ↓w_fldT, ↓w_make, ↓w_makeL, ↓w_run, ↓w_cut, ↓w_pure, ↓w_drop, nth2_eq, nth3_eq, w_ok, w_ex, w_nx, w_rt, w_bk, w_ct, w_exS, w_some, w_v, w_tr, w_fa, w_tb, w_ti, w_tn, w_L, w_L0, wb_not, cn_f, startD, arr, gN_eq, gTp, gCn, gNl, Option.bind_some, List.filterMap_cons, List.filterMap_nil, List.map_cons, List.map_nil, List.replicate_succ, List.replicate_zero, List.cons_append, List.nil_append, List.getElem?_cons_zero, List.getElem?_cons_succ, List.set_cons_zero, List.set_cons_succ, List.length_cons, List.length_nil, Nat.reduceAdd, Nat.reduceSub, Nat.reduceLeDiff, Nat.reduceEqDiff, Int.reducePow, Int.reduceToNat, Int.reduceNeg, Int.reduceAdd, Int.reduceMul, Int.reduceSub, Int.reduceLT, Int.reduceLE, Int.reduceEq, Nat.zero_add, Int.zero_add, big_eq, true_and, and_true, and_self, dSub_int, dAdd_int, dAddI_int, dLt_int, dLe_int, dGt_int, dGe_int, dEqD_int, bInt_int, bLen_lst, bLen_tup, bMin_int, bMax_int, bAbs_int, dIs_non, dIs_int, dIs_nn, Bool.not_true, Bool.not_false, decide_true, decide_false, reduceIte, Bool.false_eq_true, if_false, if_true, iSeq_lst, iSeq_tup, iSeq_rdl, iEnu_lst, iEnu_tup]
        rfl
    rintro L s' ⟨rfl, rfl⟩
    have hb1 : (btw low high).1 ≤ 1000 ∧ (btw low high).2 ≤ 1000 := by
      rcases Nat.lt_or_ge i E.length with hiE | hiE
      · rw [List.getElem?_eq_getElem hiE] at ehigh
        have := hm _ (List.getElem_mem hiE)
        subst ehigh
        exact ⟨by show low.1 + E[i].1 ≤ 1000; omega, by show low.2 + E[i].2 ≤ 1000; omega⟩
      · rw [List.getElem?_eq_none hiE] at ehigh
        subst ehigh
        exact ⟨by show low.1 + low.2 ≤ 1000; omega, by show low.2 ≤ 1000; omega⟩
    have hp := hP hb1.1 hb1.2 ck _ ps
    rw [← eq] at hp
    have is := ap_isl (r := s) (xs := F.map bdD)
    have le := ap_len (r := s) (xs := F.map bdD)
    have at' : ∀ (a : Rt) (h : Option Rt) s, dAdd s (.tup [rtD a, orD h]) (rtD q) = some (bdD (a, h, q)) := fun a h s => rfl
    have lF' : (F.map bdD).length = F.length := List.length_map ..
    have ap := ap_app (r := s) (xs := F.map bdD) (bdD (low, high, q)) (by rw [lF']; omega)
    have em : F.map bdD ++ [bdD (low, high, q)] = (F ++ [(low, high, q)]).map bdD := by rw [List.map_append]; rfl
    rw [em] at ap
    simp (implicitDefEqProofs := false) only [hp, ↓w_srtT, ↓w_par2, ↓w_par3, ↓w_setd, ↓w_dict1, ↓w_maxDf, ↓w_slT, ↓w_addT, ↓w_dictT, ↓w_dictI, ↓w_get, ↓w_lrg1T, ↓w_lrg2T, ↓w_lrg1, ↓w_lrg2, ↓w_pop0, ↓w_lcT, ↓w_mth, ↓w_calm, ↓w_tryM, ↓w_tm0, ↓w_tmN, ↓w_tmS, ↓w_next, ↓w_break, ↓w_cont, ↓w_retN, ↓w_asg, ↓w_expr, ↓w_ret, ↓w_if, ↓w_asgG, ↓w_for, ↓w_put, ↓w_aug, ↓w_augS, ↓w_raise0, ↓w_raise1, ↓w_raise2, ↓w_try, ↓w_tryAs, ↓w_var, ↓w_c, ↓w_op, ↓w_chain, ↓w_notV, ↓w_andV, ↓w_orV, ↓w_ifE, ↓w_tst, ↓w_not, ↓w_and, ↓w_or, ↓w_yes, ↓w_nil, ↓w_cons, ↓w_tup, ↓w_lst, ↓w_lstT, ↓w_cb, ↓w_call, ↓w_callK, ↓w_neg, ↓w_no, ↓w_pt, ↓w_sl, ↓w_fld, ↓w_src, ↓w_rng, ↓w_enu, ↓w_listT, ↓w_app, ↓w_lc, ↓w_xf, ↓w_fldT, ↓w_make, ↓w_makeL, ↓w_run, ↓w_cut, ↓w_pure, ↓w_drop, ↓wq_asg, ↓wq_asgG, ↓wq_expr, ↓wq_put, ↓wq_aug, ↓wq_augS, ↓wq_for, nth2_eq, nth3_eq, w_ok, w_ex, w_nx, w_rt, w_bk, w_ct, w_exS, w_some, w_v, w_tr, w_fa, w_tb, w_ti, w_tn, w_L, w_L0, wb_not, cn_f, startD, arr, gN_eq, gTp, gCn, gNl, Option.bind_some, List.filterMap_cons, List.filterMap_nil, List.map_cons, List.map_nil, List.replicate_succ, List.replicate_zero, List.cons_append, List.nil_append, List.getElem?_cons_zero, List.getElem?_cons_succ, List.set_cons_zero, List.set_cons_succ, List.length_cons, List.length_nil, Nat.reduceAdd, Nat.reduceSub, Nat.reduceLeDiff, Nat.reduceEqDiff, Int.reducePow, Int.reduceToNat, Int.reduceNeg, Int.reduceAdd, Int.reduceMul, Int.reduceSub, Int.reduceLT, Int.reduceLE, Int.reduceEq, Nat.zero_add, Int.zero_add, big_eq, true_and, and_true, and_self, dSub_int, dAdd_int, dAddI_int, dLt_int, dLe_int, dGt_int, dGe_int, dEqD_int, bInt_int, bLen_lst, bLen_tup, bMin_int, bMax_int, bAbs_int, dIs_non, dIs_int, dIs_nn, Bool.not_true, Bool.not_false, decide_true, decide_false, reduceIte, Bool.false_eq_true, if_false, if_true, iSeq_lst, iSeq_tup, iSeq_rdl, iEnu_lst, iEnu_tup]
    refine ws_cut (fun L s' => L = [some (.int n), some (.lst (E.map rtD)), some (.ref s.length), some (rtD low), some (.int i), some (orD high), some (rtD (btw low high)), some (rtD q)] ∧ s' = s ++ [.lst ((bstL n E F i).map bdD)]) ?_ ?_
    · clear hb
      rcases List.eq_nil_or_concat F with hF | ⟨pre, b, rfl⟩
      · have gn : F.getLast? = none := by rw [hF]; rfl
        have l0 : F.length = 0 := by rw [hF]; rfl
        rw [eB, gn]
        simp (implicitDefEqProofs := false) only [le, lF', ↓w_srtT, ↓w_par2, ↓w_par3, ↓w_setd, ↓w_dict1, ↓w_maxDf, ↓w_slT, ↓w_addT, ↓w_dictT, ↓w_dictI, ↓w_get, ↓w_lrg1T, ↓w_lrg2T, ↓w_lrg1, ↓w_lrg2, ↓w_pop0, ↓w_lcT, ↓w_mth, ↓w_calm, ↓w_tryM, ↓w_tm0, ↓w_tmN, ↓w_tmS, ↓w_seq, ↓w_next, ↓w_break, ↓w_cont, ↓w_retN, ↓w_asg, ↓w_expr, ↓w_ret, ↓w_if, ↓w_asgG, ↓w_for, ↓w_put, ↓w_aug, ↓w_augS, ↓w_raise0, ↓w_raise1, ↓w_raise2, ↓w_try, ↓w_tryAs, ↓w_var, ↓w_c, ↓w_op, ↓w_chain, ↓w_notV, ↓w_andV, ↓w_orV, ↓w_ifE, ↓w_tst, ↓w_not, ↓w_and, ↓w_or, ↓w_yes, ↓w_nil, ↓w_cons, ↓w_tup, ↓w_lst, ↓w_lstT, ↓w_cb, ↓w_call, ↓w_callK, ↓w_neg, ↓w_no, ↓w_pt, ↓w_sl, ↓w_fld, ↓w_src, ↓w_rng, ↓w_enu, ↓w_listT, ↓w_app, ↓w_lc, ↓w_xf, ↓w_fldT, ↓w_make, ↓w_makeL, ↓w_run, ↓w_cut, ↓w_pure, ↓w_drop, nth2_eq, nth3_eq, w_ok, w_ex, w_nx, w_rt, w_bk, w_ct, w_exS, w_some, w_v, w_tr, w_fa, w_tb, w_ti, w_tn, w_L, w_L0, wb_not, cn_f, startD, arr, gN_eq, gTp, gCn, gNl, Option.bind_some, List.filterMap_cons, List.filterMap_nil, List.map_cons, List.map_nil, List.replicate_succ, List.replicate_zero, List.cons_append, List.nil_append, List.getElem?_cons_zero, List.getElem?_cons_succ, List.set_cons_zero, List.set_cons_succ, List.length_cons, List.length_nil, Nat.reduceAdd, Nat.reduceSub, Nat.reduceLeDiff, Nat.reduceEqDiff, Int.reducePow, Int.reduceToNat, Int.reduceNeg, Int.reduceAdd, Int.reduceMul, Int.reduceSub, Int.reduceLT, Int.reduceLE, Int.reduceEq, Nat.zero_add, Int.zero_add, big_eq, true_and, and_true, and_self, dSub_int, dAdd_int, dAddI_int, dLt_int, dLe_int, dGt_int, dGe_int, dEqD_int, bInt_int, bLen_lst, bLen_tup, bMin_int, bMax_int, bAbs_int, dIs_non, dIs_int, dIs_nn, Bool.not_true, Bool.not_false, decide_true, decide_false, reduceIte, Bool.false_eq_true, if_false, if_true, iSeq_lst, iSeq_tup, iSeq_rdl, iEnu_lst, iEnu_tup]
        refine wb_dec (fun h => absurd h (by omega)) (fun _ => ?_)
        simp (implicitDefEqProofs := false) only [at', ap, is, ↓w_srtT, ↓w_par2, ↓w_par3, ↓w_setd, ↓w_dict1, ↓w_maxDf, ↓w_slT, ↓w_addT, ↓w_dictT, ↓w_dictI, ↓w_get, ↓w_lrg1T, ↓w_lrg2T, ↓w_lrg1, ↓w_lrg2, ↓w_pop0, ↓w_lcT, ↓w_mth, ↓w_calm, ↓w_tryM, ↓w_tm0, ↓w_tmN, ↓w_tmS, ↓w_seq, ↓w_next, ↓w_break, ↓w_cont, ↓w_retN, ↓w_asg, ↓w_expr, ↓w_ret, ↓w_if, ↓w_asgG, ↓w_for, ↓w_put, ↓w_aug, ↓w_augS, ↓w_raise0, ↓w_raise1, ↓w_raise2, ↓w_try, ↓w_tryAs, ↓w_var, ↓w_c, ↓w_op, ↓w_chain, ↓w_notV, ↓w_andV, ↓w_orV, ↓w_ifE, ↓w_tst, ↓w_not, ↓w_and, ↓w_or, ↓w_yes, ↓w_nil, ↓w_cons, ↓w_tup, ↓w_lst, ↓w_lstT, ↓w_cb, ↓w_call, ↓w_callK, ↓w_neg, ↓w_no, ↓w_pt, ↓w_sl, ↓w_fld, ↓w_src, ↓w_rng, ↓w_enu, ↓w_listT, ↓w_app, ↓w_lc, ↓w_xf, ↓w_fldT, ↓w_make, ↓w_makeL, ↓w_run, ↓w_cut, ↓w_pure, ↓w_drop, nth2_eq, nth3_eq, w_ok, w_ex, w_nx, w_rt, w_bk, w_ct, w_exS, w_some, w_v, w_tr, w_fa, w_tb, w_ti, w_tn, w_L, w_L0, wb_not, cn_f, startD, arr, gN_eq, gTp, gCn, gNl, Option.bind_some, List.filterMap_cons, List.filterMap_nil, List.map_cons, List.map_nil, List.replicate_succ, List.replicate_zero, List.cons_append, List.nil_append, List.getElem?_cons_zero, List.getElem?_cons_succ, List.set_cons_zero, List.set_cons_succ, List.length_cons, List.length_nil, Nat.reduceAdd, Nat.reduceSub, Nat.reduceLeDiff, Nat.reduceEqDiff, Int.reducePow, Int.reduceToNat, Int.reduceNeg, Int.reduceAdd, Int.reduceMul, Int.reduceSub, Int.reduceLT, Int.reduceLE, Int.reduceEq, Nat.zero_add, Int.zero_add, big_eq, true_and, and_true, and_self, dSub_int, dAdd_int, dAddI_int, dLt_int, dLe_int, dGt_int, dGe_int, dEqD_int, bInt_int, bLen_lst, bLen_tup, bMin_int, bMax_int, bAbs_int, dIs_non, dIs_int, dIs_nn, Bool.not_true, Bool.not_false, decide_true, decide_false, reduceIte, Bool.false_eq_true, if_false, if_true, iSeq_lst, iSeq_tup, iSeq_rdl, iEnu_lst, iEnu_tup]
      · have gl : (pre.concat b).getLast? = some b := by simp
        have gL : (pre.concat b).length = pre.length + 1 := by simp
        have ix : dIx (s ++ [.lst ((pre.concat b).map bdD)]) (.ref s.length) (.int (-1)) = some (bdD b) := by
          rw [ap_ix, Pg.atI_last (by rw [List.length_map]; omega), List.length_map, gL, List.getElem?_map]
          simp
        have pt := put_last (r := s) (xs := (pre.concat b).map bdD) (by rw [List.length_map]; omega) (bdD (b.1, high, q))
        have pe : ((pre.concat b).map bdD).set (((pre.concat b).map bdD).length - 1) (bdD (b.1, high, q)) = ((pre.concat b).set ((pre.concat b).length - 1) (b.1, high, q)).map bdD := by rw [List.map_set, List.length_map]
        rw [pe] at pt
        have eB1 : b.2.2 = q → bstL n E (pre.concat b) i = (pre.concat b).set ((pre.concat b).length - 1) (b.1, high, q) := fun h => by rw [eB, gl]; exact if_pos h
        have eB2 : ¬ b.2.2 = q → bstL n E (pre.concat b) i = pre.concat b ++ [(low, high, q)] := fun h => by rw [eB, gl]; exact if_neg h
        clear eB
        have eqq : ∀ s, dEqD false s (rtD b.2.2) (rtD q) = some (.bl (decide (b.2.2 = q))) := fun s => by
          rw [eq_rt, if_neg (by decide)]
          congr 2
          rw [decide_eq_decide]
          exact eq_comm
        generalize pre.concat b = G at *
        simp (implicitDefEqProofs := false) only [le, lF', ↓w_srtT, ↓w_par2, ↓w_par3, ↓w_setd, ↓w_dict1, ↓w_maxDf, ↓w_slT, ↓w_addT, ↓w_dictT, ↓w_dictI, ↓w_get, ↓w_lrg1T, ↓w_lrg2T, ↓w_lrg1, ↓w_lrg2, ↓w_pop0, ↓w_lcT, ↓w_mth, ↓w_calm, ↓w_tryM, ↓w_tm0, ↓w_tmN, ↓w_tmS, ↓w_seq, ↓w_next, ↓w_break, ↓w_cont, ↓w_retN, ↓w_asg, ↓w_expr, ↓w_ret, ↓w_if, ↓w_asgG, ↓w_for, ↓w_put, ↓w_aug, ↓w_augS, ↓w_raise0, ↓w_raise1, ↓w_raise2, ↓w_try, ↓w_tryAs, ↓w_var, ↓w_c, ↓w_op, ↓w_chain, ↓w_notV, ↓w_andV, ↓w_orV, ↓w_ifE, ↓w_tst, ↓w_not, ↓w_and, ↓w_or, ↓w_yes, ↓w_nil, ↓w_cons, ↓w_tup, ↓w_lst, ↓w_lstT, ↓w_cb, ↓w_call, ↓w_callK, ↓w_neg, ↓w_no, ↓w_pt, ↓w_sl, ↓w_fld, ↓w_src, ↓w_rng, ↓w_enu, ↓w_listT, ↓w_app, ↓w_lc, ↓w_xf, ↓w_fldT, ↓w_make, ↓w_makeL, ↓w_run, ↓w_cut, ↓w_pure, ↓w_drop, nth2_eq, nth3_eq, w_ok, w_ex, w_nx, w_rt, w_bk, w_ct, w_exS, w_some, w_v, w_tr, w_fa, w_tb, w_ti, w_tn, w_L, w_L0, wb_not, cn_f, startD, arr, gN_eq, gTp, gCn, gNl, Option.bind_some, List.filterMap_cons, List.filterMap_nil, List.map_cons, List.map_nil, List.replicate_succ, List.replicate_zero, List.cons_append, List.nil_append, List.getElem?_cons_zero, List.getElem?_cons_succ, List.set_cons_zero, List.set_cons_succ, List.length_cons, List.length_nil, Nat.reduceAdd, Nat.reduceSub, Nat.reduceLeDiff, Nat.reduceEqDiff, Int.reducePow, Int.reduceToNat, Int.reduceNeg, Int.reduceAdd, Int.reduceMul, Int.reduceSub, Int.reduceLT, Int.reduceLE, Int.reduceEq, Nat.zero_add, Int.zero_add, big_eq, true_and, and_true, and_self, dSub_int, dAdd_int, dAddI_int, dLt_int, dLe_int, dGt_int, dGe_int, dEqD_int, bInt_int, bLen_lst, bLen_tup, bMin_int, bMax_int, bAbs_int, dIs_non, dIs_int, dIs_nn, Bool.not_true, Bool.not_false, decide_true, decide_false, reduceIte, Bool.false_eq_true, if_false, if_true, iSeq_lst, iSeq_tup, iSeq_rdl, iEnu_lst, iEnu_tup]
        refine wb_dec (fun _ => ?_) (fun h => absurd (by omega) h)
        simp (implicitDefEqProofs := false) only [ix, sl2, eqq, ↓w_srtT, ↓w_par2, ↓w_par3, ↓w_setd, ↓w_dict1, ↓w_maxDf, ↓w_slT, ↓w_addT, ↓w_dictT, ↓w_dictI, ↓w_get, ↓w_lrg1T, ↓w_lrg2T, ↓w_lrg1, ↓w_lrg2, ↓w_pop0, ↓w_lcT, ↓w_mth, ↓w_calm, ↓w_tryM, ↓w_tm0, ↓w_tmN, ↓w_tmS, ↓w_seq, ↓w_next, ↓w_break, ↓w_cont, ↓w_retN, ↓w_asg, ↓w_expr, ↓w_ret, ↓w_if, ↓w_asgG, ↓w_for, ↓w_put, ↓w_aug, ↓w_augS, ↓w_raise0, ↓w_raise1, ↓w_raise2, ↓w_try, ↓w_tryAs, ↓w_var, ↓w_c, ↓w_op, ↓w_chain, ↓w_notV, ↓w_andV, ↓w_orV, ↓w_ifE, ↓w_tst, ↓w_not, ↓w_and, ↓w_or, ↓w_yes, ↓w_nil, ↓w_cons, ↓w_tup, ↓w_lst, ↓w_lstT, ↓w_cb, ↓w_call, ↓w_callK, ↓w_neg, ↓w_no, ↓w_pt, ↓w_sl, ↓w_fld, ↓w_src, ↓w_rng, ↓w_enu, ↓w_listT, ↓w_app, ↓w_lc, ↓w_xf, ↓w_fldT, ↓w_make, ↓w_makeL, ↓w_run, ↓w_cut, ↓w_pure, ↓w_drop, nth2_eq, nth3_eq, w_ok, w_ex, w_nx, w_rt, w_bk, w_ct, w_exS, w_some, w_v, w_tr, w_fa, w_tb, w_ti, w_tn, w_L, w_L0, wb_not, cn_f, startD, arr, gN_eq, gTp, gCn, gNl, Option.bind_some, List.filterMap_cons, List.filterMap_nil, List.map_cons, List.map_nil, List.replicate_succ, List.replicate_zero, List.cons_append, List.nil_append, List.getElem?_cons_zero, List.getElem?_cons_succ, List.set_cons_zero, List.set_cons_succ, List.length_cons, List.length_nil, Nat.reduceAdd, Nat.reduceSub, Nat.reduceLeDiff, Nat.reduceEqDiff, Int.reducePow, Int.reduceToNat, Int.reduceNeg, Int.reduceAdd, Int.reduceMul, Int.reduceSub, Int.reduceLT, Int.reduceLE, Int.reduceEq, Nat.zero_add, Int.zero_add, big_eq, true_and, and_true, and_self, dSub_int, dAdd_int, dAddI_int, dLt_int, dLe_int, dGt_int, dGe_int, dEqD_int, bInt_int, bLen_lst, bLen_tup, bMin_int, bMax_int, bAbs_int, dIs_non, dIs_int, dIs_nn, Bool.not_true, Bool.not_false, decide_true, decide_false, reduceIte, Bool.false_eq_true, if_false, if_true, iSeq_lst, iSeq_tup, iSeq_rdl, iEnu_lst, iEnu_tup]
        refine wb_dec (fun h => ?_) (fun h => ?_)
        · rw [eB1 h]
          simp (implicitDefEqProofs := false) only [ix, bd_0, at', pt, ↓w_srtT, ↓w_par2, ↓w_par3, ↓w_setd, ↓w_dict1, ↓w_maxDf, ↓w_slT, ↓w_addT, ↓w_dictT, ↓w_dictI, ↓w_get, ↓w_lrg1T, ↓w_lrg2T, ↓w_lrg1, ↓w_lrg2, ↓w_pop0, ↓w_lcT, ↓w_mth, ↓w_calm, ↓w_tryM, ↓w_tm0, ↓w_tmN, ↓w_tmS, ↓w_seq, ↓w_next, ↓w_break, ↓w_cont, ↓w_retN, ↓w_asg, ↓w_expr, ↓w_ret, ↓w_if, ↓w_asgG, ↓w_for, ↓w_put, ↓w_aug, ↓w_augS, ↓w_raise0, ↓w_raise1, ↓w_raise2, ↓w_try, ↓w_tryAs, ↓w_var, ↓w_c, ↓w_op, ↓w_chain, ↓w_notV, ↓w_andV, ↓w_orV, ↓w_ifE, ↓w_tst, ↓w_not, ↓w_and, ↓w_or, ↓w_yes, ↓w_nil, ↓w_cons, ↓w_tup, ↓w_lst, ↓w_lstT, ↓w_cb, ↓w_call, ↓w_callK, ↓w_neg, ↓w_no, ↓w_pt, ↓w_sl, ↓w_fld, ↓w_src, ↓w_rng, ↓w_enu, ↓w_listT, ↓w_app, ↓w_lc, ↓w_xf, ↓w_fldT, ↓w_make, ↓w_makeL, ↓w_run, ↓w_cut, ↓w_pure, ↓w_drop, nth2_eq, nth3_eq, w_ok, w_ex, w_nx, w_rt, w_bk, w_ct, w_exS, w_some, w_v, w_tr, w_fa, w_tb, w_ti, w_tn, w_L, w_L0, wb_not, cn_f, startD, arr, gN_eq, gTp, gCn, gNl, Option.bind_some, List.filterMap_cons, List.filterMap_nil, List.map_cons, List.map_nil, List.replicate_succ, List.replicate_zero, List.cons_append, List.nil_append, List.getElem?_cons_zero, List.getElem?_cons_succ, List.set_cons_zero, List.set_cons_succ, List.length_cons, List.length_nil, Nat.reduceAdd, Nat.reduceSub, Nat.reduceLeDiff, Nat.reduceEqDiff, Int.reducePow, Int.reduceToNat, Int.reduceNeg, Int.reduceAdd, Int.reduceMul, Int.reduceSub, Int.reduceLT, Int.reduceLE, Int.reduceEq, Nat.zero_add, Int.zero_add, big_eq, true_and, and_true, and_self, dSub_int, dAdd_int, dAddI_int, dLt_int, dLe_int, dGt_int, dGe_int, dEqD_int, bInt_int, bLen_lst, bLen_tup, bMin_int, bMax_int, bAbs_int, dIs_non, dIs_int, dIs_nn, Bool.not_true, Bool.not_false, decide_true, decide_false, reduceIte, Bool.false_eq_true, if_false, if_true, iSeq_lst, iSeq_tup, iSeq_rdl, iEnu_lst, iEnu_tup]
        · rw [eB2 h]
          simp (implicitDefEqProofs := false) only [at', ap, is, ↓w_srtT, ↓w_par2, ↓w_par3, ↓w_setd, ↓w_dict1, ↓w_maxDf, ↓w_slT, ↓w_addT, ↓w_dictT, ↓w_dictI, ↓w_get, ↓w_lrg1T, ↓w_lrg2T, ↓w_lrg1, ↓w_lrg2, ↓w_pop0, ↓w_lcT, ↓w_mth, ↓w_calm, ↓w_tryM, ↓w_tm0, ↓w_tmN, ↓w_tmS, ↓w_seq, ↓w_next, ↓w_break, ↓w_cont, ↓w_retN, ↓w_asg, ↓w_expr, ↓w_ret, ↓w_if, ↓w_asgG, ↓w_for, ↓w_put, ↓w_aug, ↓w_augS, ↓w_raise0, ↓w_raise1, ↓w_raise2, ↓w_try, ↓w_tryAs, ↓w_var, ↓w_c, ↓w_op, ↓w_chain, ↓w_notV, ↓w_andV, ↓w_orV, ↓w_ifE, ↓w_tst, ↓w_not, ↓w_and, ↓w_or, ↓w_yes, ↓w_nil, ↓w_cons, ↓w_tup, ↓w_lst, ↓w_lstT, ↓w_cb, ↓w_call, ↓w_callK, ↓w_neg, ↓w_no, ↓w_pt, ↓w_sl, ↓w_fld, ↓w_src, ↓w_rng, ↓w_enu, ↓w_listT, ↓w_app, ↓w_lc, ↓w_xf, ↓w_fldT, ↓w_make, ↓w_makeL, ↓w_run, ↓w_cut, ↓w_pure, ↓w_drop, nth2_eq, nth3_eq, w_ok, w_ex, w_nx, w_rt, w_bk, w_ct, w_exS, w_some, w_v, w_tr, w_fa, w_tb, w_ti, w_tn, w_L, w_L0, wb_not, cn_f, startD, arr, gN_eq, gTp, gCn, gNl, Option.bind_some, List.filterMap_cons, List.filterMap_nil, List.map_cons, List.map_nil, List.replicate_succ, List.replicate_zero, List.cons_append, List.nil_append, List.getElem?_cons_zero, List.getElem?_cons_succ, List.set_cons_zero, List.set_cons_succ, List.length_cons, List.length_nil, Nat.reduceAdd, Nat.reduceSub, Nat.reduceLeDiff, Nat.reduceEqDiff, Int.reducePow, Int.reduceToNat, Int.reduceNeg, Int.reduceAdd, Int.reduceMul, Int.reduceSub, Int.reduceLT, Int.reduceLE, Int.reduceEq, Nat.zero_add, Int.zero_add, big_eq, true_and, and_true, and_self, dSub_int, dAdd_int, dAddI_int, dLt_int, dLe_int, dGt_int, dGe_int, dEqD_int, bInt_int, bLen_lst, bLen_tup, bMin_int, bMax_int, bAbs_int, dIs_non, dIs_int, dIs_nn, Bool.not_true, Bool.not_false, decide_true, decide_false, reduceIte, Bool.false_eq_true, if_false, if_true, iSeq_lst, iSeq_tup, iSeq_rdl, iEnu_lst, iEnu_tup]
    rintro L s' ⟨rfl, rfl⟩
    have el : (E.length : Int) - 1 = ((E.length - 1 : Nat) : Int) ∨ E.length = 0 := by omega
    simp (implicitDefEqProofs := false) only [lm, ↓w_srtT, ↓w_par2, ↓w_par3, ↓w_setd, ↓w_dict1, ↓w_maxDf, ↓w_slT, ↓w_addT, ↓w_dictT, ↓w_dictI, ↓w_get, ↓w_lrg1T, ↓w_lrg2T, ↓w_lrg1, ↓w_lrg2, ↓w_pop0, ↓w_lcT, ↓w_mth, ↓w_calm, ↓w_tryM, ↓w_tm0, ↓w_tmN, ↓w_tmS, ↓w_seq, ↓w_next, ↓w_break, ↓w_cont, ↓w_retN, ↓w_asg, ↓w_expr, ↓w_ret, ↓w_if, ↓w_asgG, ↓w_for, ↓w_put, ↓w_aug, ↓w_augS, ↓w_raise0, ↓w_raise1, ↓w_raise2, ↓w_try, ↓w_tryAs, ↓w_var, ↓w_c, ↓w_op, ↓w_chain, ↓w_notV, ↓w_andV, ↓w_orV, ↓w_ifE, ↓w_tst, ↓w_not, ↓w_and, ↓w_or, ↓w_yes, ↓w_nil, ↓w_cons, ↓w_tup, ↓w_lst, ↓w_lstT, ↓w_cb, ↓w_call, ↓w_callK, ↓w_neg, ↓w_no, ↓w_pt, ↓w_sl, ↓w_fld, ↓w_src, ↓w_rng, ↓w_enu, ↓w_listT, ↓w_app, ↓w_lc, ↓w_xf, ↓w_fldT, ↓w_make, ↓w_makeL, ↓w_run, ↓w_cut, ↓w_pure, ↓w_drop, nth2_eq, nth3_eq, w_ok, w_ex, w_nx, w_rt, w_bk, w_ct, w_exS, w_some, w_v, w_tr, w_fa, w_tb, w_ti, w_tn, w_L, w_L0, wb_not, cn_f, startD, arr, gN_eq, gTp, gCn, gNl, Option.bind_some, List.filterMap_cons, List.filterMap_nil, List.map_cons, List.map_nil, List.replicate_succ, List.replicate_zero, List.cons_append, List.nil_append, List.getElem?_cons_zero, List.getElem?_cons_succ, List.set_cons_zero, List.set_cons_succ, List.length_cons, List.length_nil, Nat.reduceAdd, Nat.reduceSub, Nat.reduceLeDiff, Nat.reduceEqDiff, Int.reducePow, Int.reduceToNat, Int.reduceNeg, Int.reduceAdd, Int.reduceMul, Int.reduceSub, Int.reduceLT, Int.reduceLE, Int.reduceEq, Nat.zero_add, Int.zero_add, big_eq, true_and, and_true, and_self, dSub_int, dAdd_int, dAddI_int, dLt_int, dLe_int, dGt_int, dGe_int, dEqD_int, bInt_int, bLen_lst, bLen_tup, bMin_int, bMax_int, bAbs_int, dIs_non, dIs_int, dIs_nn, Bool.not_true, Bool.not_false, decide_true, decide_false, reduceIte, Bool.false_eq_true, if_false, if_true, iSeq_lst, iSeq_tup, iSeq_rdl, iEnu_lst, iEnu_tup]
    refine wb_dec (fun h => ?_) (fun h => ?_)
    · have h2 : min i (E.length - 1) < E.length := by omega
      have ix : ∀ s, dIx s (.lst (E.map rtD)) (.int (min (i : Int) ((E.length : Int) - 1))) = some (rtD (lowAt E (i + 1))) := fun s => by
        rw [← low1, if_pos (by omega), show min (i : Int) ((E.length : Int) - 1) = ((min i (E.length - 1) : Nat) : Int) by omega]
        show L2.atI (E.map rtD) _ = _
        exact atI_map (by rw [List.getD_eq_getElem?_getD, List.getElem?_eq_getElem h2]; rfl)
      simp (implicitDefEqProofs := false) only [lm, ix, ↓w_srtT, ↓w_par2, ↓w_par3, ↓w_setd, ↓w_dict1, ↓w_maxDf, ↓w_slT, ↓w_addT, ↓w_dictT, ↓w_dictI, ↓w_get, ↓w_lrg1T, ↓w_lrg2T, ↓w_lrg1, ↓w_lrg2, ↓w_pop0, ↓w_lcT, ↓w_mth, ↓w_calm, ↓w_tryM, ↓w_tm0, ↓w_tmN, ↓w_tmS, ↓w_seq, ↓w_next, ↓w_break, ↓w_cont, ↓w_retN, ↓w_asg, ↓w_expr, ↓w_ret, ↓w_if, ↓w_asgG, ↓w_for, ↓w_put, ↓w_aug, ↓w_augS, ↓w_raise0, ↓w_raise1, ↓w_raise2, ↓w_try, ↓w_tryAs, ↓w_var, ↓w_c, ↓w_op, ↓w_chain, ↓w_notV, ↓w_andV, ↓w_orV, ↓w_ifE, ↓w_tst, ↓w_not, ↓w_and, ↓w_or, ↓w_yes, ↓w_nil, ↓w_cons, ↓w_tup, ↓w_lst, ↓w_lstT, ↓w_cb, ↓w_call, ↓w_callK, ↓w_neg, ↓w_no, ↓w_pt, ↓w_sl, ↓w_fld, ↓w_src, ↓w_rng, ↓w_enu, ↓w_listT, ↓w_app, ↓w_lc, ↓w_xf, ↓w_fldT, ↓w_make, ↓w_makeL, ↓w_run, ↓w_cut, ↓w_pure, ↓w_drop, nth2_eq, nth3_eq, w_ok, w_ex, w_nx, w_rt, w_bk, w_ct, w_exS, w_some, w_v, w_tr, w_fa, w_tb, w_ti, w_tn, w_L, w_L0, wb_not, cn_f, startD, arr, gN_eq, gTp, gCn, gNl, Option.bind_some, List.filterMap_cons, List.filterMap_nil, List.map_cons, List.map_nil, List.replicate_succ, List.replicate_zero, List.cons_append, List.nil_append, List.getElem?_cons_zero, List.getElem?_cons_succ, List.set_cons_zero, List.set_cons_succ, List.length_cons, List.length_nil, Nat.reduceAdd, Nat.reduceSub, Nat.reduceLeDiff, Nat.reduceEqDiff, Int.reducePow, Int.reduceToNat, Int.reduceNeg, Int.reduceAdd, Int.reduceMul, Int.reduceSub, Int.reduceLT, Int.reduceLE, Int.reduceEq, Nat.zero_add, Int.zero_add, big_eq, true_and, and_true, and_self, dSub_int, dAdd_int, dAddI_int, dLt_int, dLe_int, dGt_int, dGe_int, dEqD_int, bInt_int, bLen_lst, bLen_tup, bMin_int, bMax_int, bAbs_int, dIs_non, dIs_int, dIs_nn, Bool.not_true, Bool.not_false, decide_true, decide_false, reduceIte, Bool.false_eq_true, if_false, if_true, iSeq_lst, iSeq_tup, iSeq_rdl, iEnu_lst, iEnu_tup]
      exact ⟨_, _, _, _, _, rfl, rfl, rfl, by omega⟩
    · rw [if_neg (by omega)] at low1
      rw [← low1]
      simp (implicitDefEqProofs := false) only [↓w_srtT, ↓w_par2, ↓w_par3, ↓w_setd, ↓w_dict1, ↓w_maxDf, ↓w_slT, ↓w_addT, ↓w_dictT, ↓w_dictI, ↓w_get, ↓w_lrg1T, ↓w_lrg2T, ↓w_lrg1, ↓w_lrg2, ↓w_pop0, ↓w_lcT, ↓w_mth, ↓w_calm, ↓w_tryM, ↓w_tm0, ↓w_tmN, ↓w_tmS, ↓w_seq, ↓w_next, ↓w_break, ↓w_cont, ↓w_retN, ↓w_asg, ↓w_expr, ↓w_ret, ↓w_if, ↓w_asgG, ↓w_for, ↓w_put, ↓w_aug, ↓w_augS, ↓w_raise0, ↓w_raise1, ↓w_raise2, ↓w_try, ↓w_tryAs, ↓w_var, ↓w_c, ↓w_op, ↓w_chain, ↓w_notV, ↓w_andV, ↓w_orV, ↓w_ifE, ↓w_tst, ↓w_not, ↓w_and, ↓w_or, ↓w_yes, ↓w_nil, ↓w_cons, ↓w_tup, ↓w_lst, ↓w_lstT, ↓w_cb, ↓w_call, ↓w_callK, ↓w_neg, ↓w_no, ↓w_pt, ↓w_sl, ↓w_fld, ↓w_src, ↓w_rng, ↓w_enu, ↓w_listT, ↓w_app, ↓w_lc, ↓w_xf, ↓w_fldT, ↓w_make, ↓w_makeL, ↓w_run, ↓w_cut, ↓w_pure, ↓w_drop, nth2_eq, nth3_eq, w_ok, w_ex, w_nx, w_rt, w_bk, w_ct, w_exS, w_some, w_v, w_tr, w_fa, w_tb, w_ti, w_tn, w_L, w_L0, wb_not, cn_f, startD, arr, gN_eq, gTp, gCn, gNl, Option.bind_some, List.filterMap_cons, List.filterMap_nil, List.map_cons, List.map_nil, List.replicate_succ, List.replicate_zero, List.cons_append, List.nil_append, List.getElem?_cons_zero, List.getElem?_cons_succ, List.set_cons_zero, List.set_cons_succ, List.length_cons, List.length_nil, Nat.reduceAdd, Nat.reduceSub, Nat.reduceLeDiff, Nat.reduceEqDiff, Int.reducePow, Int.reduceToNat, Int.reduceNeg, Int.reduceAdd, Int.reduceMul, Int.reduceSub, Int.reduceLT, Int.reduceLE, Int.reduceEq, Nat.zero_add, Int.zero_add, big_eq, true_and, and_true, and_self, dSub_int, dAdd_int, dAddI_int, dLt_int, dLe_int, dGt_int, dGe_int, dEqD_int, bInt_int, bLen_lst, bLen_tup, bMin_int, bMax_int, bAbs_int, dIs_non, dIs_int, dIs_nn, Bool.not_true, Bool.not_false, decide_true, decide_false, reduceIte, Bool.false_eq_true, if_false, if_true, iSeq_lst, iSeq_tup, iSeq_rdl, iEnu_lst, iEnu_tup]
      exact ⟨_, _, _, _, _, rfl, rfl, rfl, by omega⟩
  · rintro L s' ⟨F, y4, y5, y6, y7, rfl, rfl, eF, lF⟩
    rw [← eF]
    simp (implicitDefEqProofs := false) only [↓w_srtT, ↓w_par2, ↓w_par3, ↓w_setd, ↓w_dict1, ↓w_maxDf, ↓w_slT, ↓w_addT, ↓w_dictT, ↓w_dictI, ↓w_get, ↓w_lrg1T, ↓w_lrg2T, ↓w_lrg1, ↓w_lrg2, ↓w_pop0, ↓w_lcT, ↓w_mth, ↓w_calm, ↓w_tryM, ↓w_tm0, ↓w_tmN, ↓w_tmS, ↓w_seq, ↓w_next, ↓w_break, ↓w_cont, ↓w_retN, ↓w_asg, ↓w_expr, ↓w_ret, ↓w_if, ↓w_asgG, ↓w_for, ↓w_put, ↓w_aug, ↓w_augS, ↓w_raise0, ↓w_raise1, ↓w_raise2, ↓w_try, ↓w_tryAs, ↓w_var, ↓w_c, ↓w_op, ↓w_chain, ↓w_notV, ↓w_andV, ↓w_orV, ↓w_ifE, ↓w_tst, ↓w_not, ↓w_and, ↓w_or, ↓w_yes, ↓w_nil, ↓w_cons, ↓w_tup, ↓w_lst, ↓w_lstT, ↓w_cb, ↓w_call, ↓w_callK, ↓w_neg, ↓w_no, ↓w_pt, ↓w_sl, ↓w_fld, ↓w_src, ↓w_rng, ↓w_enu, ↓w_listT, ↓w_app, ↓w_lc, ↓w_xf, ↓w_fldT, ↓w_make, ↓w_makeL, ↓w_run, ↓w_cut, ↓w_pure, ↓w_drop, nth2_eq, nth3_eq, w_ok, w_ex, w_nx, w_rt, w_bk, w_ct, w_exS, w_some, w_v, w_tr, w_fa, w_tb, w_ti, w_tn, w_L, w_L0, wb_not, cn_f, startD, arr, gN_eq, gTp, gCn, gNl, Option.bind_some, List.filterMap_cons, List.filterMap_nil, List.map_cons, List.map_nil, List.replicate_succ, List.replicate_zero, List.cons_append, List.nil_append, List.getElem?_cons_zero, List.getElem?_cons_succ, List.set_cons_zero, List.set_cons_succ, List.length_cons, List.length_nil, Nat.reduceAdd, Nat.reduceSub, Nat.reduceLeDiff, Nat.reduceEqDiff, Int.reducePow, Int.reduceToNat, Int.reduceNeg, Int.reduceAdd, Int.reduceMul, Int.reduceSub, Int.reduceLT, Int.reduceLE, Int.reduceEq, Nat.zero_add, Int.zero_add, big_eq, true_and, and_true, and_self, dSub_int, dAdd_int, dAddI_int, dLt_int, dLe_int, dGt_int, dGe_int, dEqD_int, bInt_int, bLen_lst, bLen_tup, bMin_int, bMax_int, bAbs_int, dIs_non, dIs_int, dIs_nn, Bool.not_true, Bool.not_false, decide_true, decide_false, reduceIte, Bool.false_eq_true, if_false, if_true, iSeq_lst, iSeq_tup, iSeq_rdl, iEnu_lst, iEnu_tup]
    refine ⟨by simp, ?_⟩
    rw [fin2_ref (Nat.le_refl _) (xs := F.map bdD) (by simp) (fun x hx => by
      obtain ⟨r, _, rfl⟩ := List.mem_map.mp hx
      exact bdD_pur r)]
    exact ⟨rfl, rfl⟩
def revOf (s : S) (d : D) : Option S := match d with
  | .ref n => match s[n]? with
    | some (.lst xs) => some (s.set n (.lst xs.reverse))
    | _ => none
  | _ => none
theorem w_rev {L : Lc} {s : S} {Q : Cn (D → S → Prop)} {E : Cn (Addr → List Str → List D → S → Prop)} (fo : F D) : @WR _ (fRev fo L s) Q E = @WR _ (fo L s) ⟨fun d s1 => @WO _ (revOf s1 d) ⟨fun s2 => Q .non s2⟩⟩ E := by
  refine (w_bind ..).trans (congrArg (fun z => @WR _ (fo L s) ⟨z⟩ _) ?_)
  funext d s1
  cases d <;> try rfl
  rename_i n
  unfold revOf
  dsimp only
  cases s1[n]? with
  | none => rfl
  | some o => cases o <;> rfl
theorem smo_bd (k : Nat) (b : Bd) : smOk (k + 3) (bdD b) = true := by
  obtain ⟨lo, hi, T, S'⟩ := b
  cases hi <;> rfl
theorem smo_bs {bs : List Bd} (h : bs.length ≤ 1000) : smOk 24 (.lst (bs.map bdD)) = true := by
  show (decide ((bs.map bdD).length ≤ 1000000) && (bs.map bdD).all (smOk 23)) = true
  rw [List.length_map, decide_eq_true (by omega), Bool.true_and, List.all_map, List.all_eq_true]
  exact fun b _ => smo_bd 20 b
theorem law_true (c : Cl) (hc : OkC c) (ns : List Int) (hl : ns.length ≤ 63) (hb : ∀ z ∈ ns, Builtin.Int.intBits z ≤ 1048576) : ∃ s', G_law c [.rdl (ns.map D.int)] [] = .ok (.bl true) s' := by
  suffices h : @WR _ (G_law c [.rdl (ns.map D.int)] []) ⟨fun d s' => d = .bl true⟩ ⟨nE⟩ by
    revert h
    generalize G_law c [.rdl (ns.map D.int)] [] = z
    intro h
    obtain ⟨a, s', h1, rfl⟩ := ex_ok h
    exact ⟨s', h1⟩
  have hB := fun {n : Nat} n0 n1 s => bands_q (c := c) (n := n) n0 n1 s
  have hR := fun {n : Nat} n0 n1 s => bands_r (c := c) (n := n) n0 n1 s
  have hW := fun {n : Nat} n0 n1 s hs => lbands_ok (c := c) (n := n) n0 n1 s hs
  unfold G_law
  generalize G_bands c = bsG at *
  generalize Gr_bands c = brG at *
  generalize G__law_bands c = lbG at *
  simp (implicitDefEqProofs := false) only [eSrc, ↓w_srtT, ↓w_par2, ↓w_par3, ↓w_setd, ↓w_dict1, ↓w_maxDf, ↓w_slT, ↓w_addT, ↓w_dictT, ↓w_dictI, ↓w_get, ↓w_lrg1T, ↓w_lrg2T, ↓w_lrg1, ↓w_lrg2, ↓w_pop0, ↓w_lcT, ↓w_mth, ↓w_calm, ↓w_tryM, ↓w_tm0, ↓w_tmN, ↓w_tmS, ↓w_seq, ↓w_next, ↓w_break, ↓w_cont, ↓w_retN, ↓w_asg, ↓w_expr, ↓w_ret, ↓w_if, ↓w_asgG, ↓w_for, ↓w_put, ↓w_aug, ↓w_augS, ↓w_raise0, ↓w_raise1, ↓w_raise2, ↓w_try, ↓w_tryAs, ↓w_var, ↓w_c, ↓w_op, ↓w_chain, ↓w_notV, ↓w_andV, ↓w_orV, ↓w_ifE, ↓w_tst, ↓w_not, ↓w_and, ↓w_or, ↓w_yes, ↓w_nil, ↓w_cons, ↓w_tup, ↓w_lst, ↓w_lstT, ↓w_cb, ↓w_call, ↓w_callK, ↓w_neg, ↓w_no, ↓w_pt, ↓w_sl, ↓w_fld, ↓w_src, ↓w_rng, ↓w_enu, ↓w_listT, ↓w_app, ↓w_lc, ↓w_xf, ↓w_fldT, ↓w_make, ↓w_makeL, ↓w_run, ↓w_cut, ↓w_pure, ↓w_drop, nth2_eq, nth3_eq, w_ok, w_ex, w_nx, w_rt, w_bk, w_ct, w_exS, w_some, w_v, w_tr, w_fa, w_tb, w_ti, w_tn, w_L, w_L0, wb_not, cn_f, startD, arr, gN_eq, gTp, gCn, gNl, Option.bind_some, List.filterMap_cons, List.filterMap_nil, List.map_cons, List.map_nil, List.replicate_succ, List.replicate_zero, List.cons_append, List.nil_append, List.getElem?_cons_zero, List.getElem?_cons_succ, List.set_cons_zero, List.set_cons_succ, List.length_cons, List.length_nil, Nat.reduceAdd, Nat.reduceSub, Nat.reduceLeDiff, Nat.reduceEqDiff, Int.reducePow, Int.reduceToNat, Int.reduceNeg, Int.reduceAdd, Int.reduceMul, Int.reduceSub, Int.reduceLT, Int.reduceLE, Int.reduceEq, Nat.zero_add, Int.zero_add, big_eq, true_and, and_true, and_self, dSub_int, dAdd_int, dAddI_int, dLt_int, dLe_int, dGt_int, dGe_int, dEqD_int, bInt_int, bLen_lst, bLen_tup, bMin_int, bMax_int, bAbs_int, dIs_non, dIs_int, dIs_nn, Bool.not_true, Bool.not_false, decide_true, decide_false, reduceIte, Bool.false_eq_true, if_false, if_true, iSeq_lst, iSeq_tup, iSeq_rdl, iEnu_lst, iEnu_tup]
  refine src_wp hl hb fun v ok => ?_
  simp (implicitDefEqProofs := false) only [eDraw, ↓w_srtT, ↓w_par2, ↓w_par3, ↓w_setd, ↓w_dict1, ↓w_maxDf, ↓w_slT, ↓w_addT, ↓w_dictT, ↓w_dictI, ↓w_get, ↓w_lrg1T, ↓w_lrg2T, ↓w_lrg1, ↓w_lrg2, ↓w_pop0, ↓w_lcT, ↓w_mth, ↓w_calm, ↓w_tryM, ↓w_tm0, ↓w_tmN, ↓w_tmS, ↓w_seq, ↓w_next, ↓w_break, ↓w_cont, ↓w_retN, ↓w_asg, ↓w_expr, ↓w_ret, ↓w_if, ↓w_asgG, ↓w_for, ↓w_put, ↓w_aug, ↓w_augS, ↓w_raise0, ↓w_raise1, ↓w_raise2, ↓w_try, ↓w_tryAs, ↓w_var, ↓w_c, ↓w_op, ↓w_chain, ↓w_notV, ↓w_andV, ↓w_orV, ↓w_ifE, ↓w_tst, ↓w_not, ↓w_and, ↓w_or, ↓w_yes, ↓w_nil, ↓w_cons, ↓w_tup, ↓w_lst, ↓w_lstT, ↓w_cb, ↓w_call, ↓w_callK, ↓w_neg, ↓w_no, ↓w_pt, ↓w_sl, ↓w_fld, ↓w_src, ↓w_rng, ↓w_enu, ↓w_listT, ↓w_app, ↓w_lc, ↓w_xf, ↓w_fldT, ↓w_make, ↓w_makeL, ↓w_run, ↓w_cut, ↓w_pure, ↓w_drop, nth2_eq, nth3_eq, w_ok, w_ex, w_nx, w_rt, w_bk, w_ct, w_exS, w_some, w_v, w_tr, w_fa, w_tb, w_ti, w_tn, w_L, w_L0, wb_not, cn_f, startD, arr, gN_eq, gTp, gCn, gNl, Option.bind_some, List.filterMap_cons, List.filterMap_nil, List.map_cons, List.map_nil, List.replicate_succ, List.replicate_zero, List.cons_append, List.nil_append, List.getElem?_cons_zero, List.getElem?_cons_succ, List.set_cons_zero, List.set_cons_succ, List.length_cons, List.length_nil, Nat.reduceAdd, Nat.reduceSub, Nat.reduceLeDiff, Nat.reduceEqDiff, Int.reducePow, Int.reduceToNat, Int.reduceNeg, Int.reduceAdd, Int.reduceMul, Int.reduceSub, Int.reduceLT, Int.reduceLE, Int.reduceEq, Nat.zero_add, Int.zero_add, big_eq, true_and, and_true, and_self, dSub_int, dAdd_int, dAddI_int, dLt_int, dLe_int, dGt_int, dGe_int, dEqD_int, bInt_int, bLen_lst, bLen_tup, bMin_int, bMax_int, bAbs_int, dIs_non, dIs_int, dIs_nn, Bool.not_true, Bool.not_false, decide_true, decide_false, reduceIte, Bool.false_eq_true, if_false, if_true, iSeq_lst, iSeq_tup, iSeq_rdl, iEnu_lst, iEnu_tup]
  refine drawB_wp (r := []) ok (by omega) (by decide) (by decide +kernel) fun a v1 a0 a1 ok1 => ?_
  obtain ⟨n, en⟩ : ∃ n : Nat, (n : Int) = 2 + a := ⟨(2 + a).toNat, by omega⟩
  have n0 : 2 ≤ n := by omega
  have n1 : n ≤ 8 := by omega
  have P := bands_p n0 (.inl (by omega))
  have h1 := fun s => hB n0 (by omega) s
  have h2 : brG [.int n] [v1.o] = .ok (.ref 1) [v1.o, .lst ((bandsN n).map bdD)] := hR n0 (by omega) [v1.o]
  have h3 := hW n0 n1 [v1.o] (pur_src1 v1)
  have sm := smo_bs (bs := bandsN n) (by have := P.len; omega)
  have hS := fun s => same_ok (c := c) sm s
  have hS2 := same_t (c := c) (s := [v1.o, .lst ((bandsN n).map bdD)]) (k := 1) rfl sm
  have en' : 2 + a = (n : Int) := en.symm
  generalize bandsN n = bs at *
  have lb := P.len
  have rv : revOf [v1.o, .lst (bs.map bdD)] (.ref 1) = some [v1.o, .lst (bs.map bdD).reverse] := rfl
  have ap : appOf 1 (.int 0) [v1.o, .lst (bs.map bdD).reverse] = some [v1.o, .lst ((bs.map bdD).reverse ++ [.int 0])] := ap_app (r := [v1.o]) (xs := (bs.map bdD).reverse) (.int 0) (by rw [List.length_reverse, List.length_map]; omega)
  have il : isLst 1 [v1.o, .lst (bs.map bdD).reverse] = true := rfl
  generalize G__law_same c = saG at *
  generalize bs.map bdD = X at *
  generalize X.reverse = Y at *
  simp (implicitDefEqProofs := false) only [en', h3, h2, hS2, ↓w_rev, rv, ap, il, h1, hS, ↓w_srtT, ↓w_par2, ↓w_par3, ↓w_setd, ↓w_dict1, ↓w_maxDf, ↓w_slT, ↓w_addT, ↓w_dictT, ↓w_dictI, ↓w_get, ↓w_lrg1T, ↓w_lrg2T, ↓w_lrg1, ↓w_lrg2, ↓w_pop0, ↓w_lcT, ↓w_mth, ↓w_calm, ↓w_tryM, ↓w_tm0, ↓w_tmN, ↓w_tmS, ↓w_seq, ↓w_next, ↓w_break, ↓w_cont, ↓w_retN, ↓w_asg, ↓w_expr, ↓w_ret, ↓w_if, ↓w_asgG, ↓w_for, ↓w_put, ↓w_aug, ↓w_augS, ↓w_raise0, ↓w_raise1, ↓w_raise2, ↓w_try, ↓w_tryAs, ↓w_var, ↓w_c, ↓w_op, ↓w_chain, ↓w_notV, ↓w_andV, ↓w_orV, ↓w_ifE, ↓w_tst, ↓w_not, ↓w_and, ↓w_or, ↓w_yes, ↓w_nil, ↓w_cons, ↓w_tup, ↓w_lst, ↓w_lstT, ↓w_cb, ↓w_call, ↓w_callK, ↓w_neg, ↓w_no, ↓w_pt, ↓w_sl, ↓w_fld, ↓w_src, ↓w_rng, ↓w_enu, ↓w_listT, ↓w_app, ↓w_lc, ↓w_xf, ↓w_fldT, ↓w_make, ↓w_makeL, ↓w_run, ↓w_cut, ↓w_pure, ↓w_drop, nth2_eq, nth3_eq, w_ok, w_ex, w_nx, w_rt, w_bk, w_ct, w_exS, w_some, w_v, w_tr, w_fa, w_tb, w_ti, w_tn, w_L, w_L0, wb_not, cn_f, startD, arr, gN_eq, gTp, gCn, gNl, Option.bind_some, List.filterMap_cons, List.filterMap_nil, List.map_cons, List.map_nil, List.replicate_succ, List.replicate_zero, List.cons_append, List.nil_append, List.getElem?_cons_zero, List.getElem?_cons_succ, List.set_cons_zero, List.set_cons_succ, List.length_cons, List.length_nil, Nat.reduceAdd, Nat.reduceSub, Nat.reduceLeDiff, Nat.reduceEqDiff, Int.reducePow, Int.reduceToNat, Int.reduceNeg, Int.reduceAdd, Int.reduceMul, Int.reduceSub, Int.reduceLT, Int.reduceLE, Int.reduceEq, Nat.zero_add, Int.zero_add, big_eq, true_and, and_true, and_self, dSub_int, dAdd_int, dAddI_int, dLt_int, dLe_int, dGt_int, dGe_int, dEqD_int, bInt_int, bLen_lst, bLen_tup, bMin_int, bMax_int, bAbs_int, dIs_non, dIs_int, dIs_nn, Bool.not_true, Bool.not_false, decide_true, decide_false, reduceIte, Bool.false_eq_true, if_false, if_true, iSeq_lst, iSeq_tup, iSeq_rdl, iEnu_lst, iEnu_tup]
end Lw

namespace Lw
open PySem PySem.Spec PyProof.Rows L2 SI Pg
theorem sc_is_integer : FnScope ["thing"] ["thing"] (defScope s_is_integer) := ⟨rfl, rfl, rfl, by decide +kernel, rfl, by decide +kernel, by decide +kernel⟩
theorem sc_between : FnScope ["thing", "low", "high"] ["thing", "low", "high"] (defScope s_between) := ⟨rfl, rfl, rfl, by decide +kernel, rfl, by decide +kernel, by decide +kernel⟩
theorem sc_checked_count : FnScope ["n", "low", "high"] ["n", "low", "high"] (defScope s_checked_count) := ⟨rfl, rfl, rfl, by decide +kernel, rfl, by decide +kernel, by decide +kernel⟩
theorem sc_names_of_pair : FnScope ["turns", "total", "ways", "step"] ["turns", "total"] (defScope s_names_of_pair) := ⟨rfl, rfl, rfl, by decide +kernel, rfl, by decide +kernel, by decide +kernel⟩
theorem sc_pair_at : FnScope ["n", "letter", "gap", "sums", "left", "pair", "time", "turns", "found"] ["n", "letter", "gap"] (defScope s_pair_at) := ⟨rfl, rfl, rfl, by decide +kernel, rfl, by decide +kernel, by decide +kernel⟩
theorem sc_common_divisor : FnScope ["a", "b"] ["a", "b"] (defScope s_common_divisor) := ⟨rfl, rfl, rfl, by decide +kernel, rfl, by decide +kernel, by decide +kernel⟩
theorem sc_crossings : FnScope ["n", "found", "up", "down"] ["n"] (defScope s_crossings) := ⟨rfl, rfl, rfl, by decide +kernel, rfl, by decide +kernel, by decide +kernel⟩
theorem sc_between_ratios : FnScope ["low", "high"] ["low", "high"] (defScope s_between_ratios) := ⟨rfl, rfl, rfl, by decide +kernel, rfl, by decide +kernel, by decide +kernel⟩
theorem sc_checked_bands : FnScope ["n", "found", "low", "pair", "high", "inner", "told"] ["n"] (defScope s_checked_bands) := ⟨rfl, rfl, rfl, by decide +kernel, rfl, by decide +kernel, by decide +kernel⟩
theorem sc_bands : FnScope ["n"] ["n"] (defScope s_bands) := ⟨rfl, rfl, rfl, by decide +kernel, rfl, by decide +kernel, by decide +kernel⟩
theorem sc__law_source : FnScope ["_law_script", "_law_cell"] ["_law_script"] (defScope s__law_source) := ⟨rfl, rfl, rfl, by decide +kernel, rfl, by decide +kernel, by decide +kernel⟩
theorem sc__law_draw : FnScope ["_law_source_here", "_law_limit", "_law_cell", "_law_digit", "_law_one", "_law_two", "_law_three"] ["_law_source_here", "_law_limit"] (defScope s__law_draw) := ⟨rfl, rfl, rfl, by decide +kernel, rfl, by decide +kernel, by decide +kernel⟩
theorem sc__law_integer : FnScope ["_law_thing"] ["_law_thing"] (defScope s__law_integer) := ⟨rfl, rfl, rfl, by decide +kernel, rfl, by decide +kernel, by decide +kernel⟩
theorem sc__law_same : FnScope ["_law_told", "_law_due", "_law_at"] ["_law_told", "_law_due"] (defScope s__law_same) := ⟨rfl, rfl, rfl, by decide +kernel, rfl, by decide +kernel, by decide +kernel⟩
theorem sc__law_divisor : FnScope ["_law_a", "_law_b", "_law_k", "_law_rest"] ["_law_a", "_law_b"] (defScope s__law_divisor) := ⟨rfl, rfl, rfl, by decide +kernel, rfl, by decide +kernel, by decide +kernel⟩
theorem sc__law_ways : FnScope ["_law_turns", "_law_total", "_law_ways_here", "_law_turn", "_law_k"] ["_law_turns", "_law_total"] (defScope s__law_ways) := ⟨rfl, rfl, rfl, by decide +kernel, rfl, by decide +kernel, by decide +kernel⟩
theorem sc__law_pair : FnScope ["_law_n", "_law_ratio", "_law_rows", "_law_turns", "_law_total", "_law_many", "_law_k"] ["_law_n", "_law_ratio"] (defScope s__law_pair) := ⟨rfl, rfl, rfl, by decide +kernel, rfl, by decide +kernel, by decide +kernel⟩
theorem sc__law_ends : FnScope ["_law_n", "_law_found", "_law_up", "_law_down", "_law_at", "_law_ratio"] ["_law_n"] (defScope s__law_ends) := ⟨rfl, rfl, rfl, by decide +kernel, rfl, by decide +kernel, by decide +kernel⟩
theorem sc__law_bands : FnScope ["_law_n", "_law_ends_here", "_law_found", "_law_low", "_law_at", "_law_high", "_law_inner", "_law_pair_here"] ["_law_n"] (defScope s__law_bands) := ⟨rfl, rfl, rfl, by decide +kernel, rfl, by decide +kernel, by decide +kernel⟩
theorem sc_law : FnScope ["_law_script", "_law_source_here", "_law_n", "_law_due", "_law_told"] ["_law_script"] (defScope s_law) := ⟨rfl, rfl, rfl, by decide +kernel, rfl, by decide +kernel, by decide +kernel⟩
set_option genInjectivity false in
structure Ad where
  a_is_integer : Addr
  fd_is_integer : FuncData
  a_between : Addr
  fd_between : FuncData
  a_checked_count : Addr
  fd_checked_count : FuncData
  a_names_of_pair : Addr
  fd_names_of_pair : FuncData
  a_pair_at : Addr
  fd_pair_at : FuncData
  a_common_divisor : Addr
  fd_common_divisor : FuncData
  a_crossings : Addr
  fd_crossings : FuncData
  a_between_ratios : Addr
  fd_between_ratios : FuncData
  a_checked_bands : Addr
  fd_checked_bands : FuncData
  a_bands : Addr
  fd_bands : FuncData
  a__law_source : Addr
  fd__law_source : FuncData
  a__law_draw : Addr
  fd__law_draw : FuncData
  a__law_integer : Addr
  fd__law_integer : FuncData
  a__law_same : Addr
  fd__law_same : FuncData
  a__law_divisor : Addr
  fd__law_divisor : FuncData
  a__law_ways : Addr
  fd__law_ways : FuncData
  a__law_pair : Addr
  fd__law_pair : FuncData
  a__law_ends : Addr
  fd__law_ends : FuncData
  a__law_bands : Addr
  fd__law_bands : FuncData
  a_law : Addr
  fd_law : FuncData
  t_FINE : Tok
  t_MOST_HANDS : Tok
  lc_crossings : Addr
  lp_crossings : Addr
structure Txt (K : PySem.W.Frag) (base : Heap) (mg : Str → Option Value) (c : Cl) (z : Ad) : Prop where
  F_is_integer : Fun K "is_integer" "is_integer" s_is_integer z.a_is_integer z.fd_is_integer
  b_is_integer : Binds K z.fd_is_integer ["thing"] []
  g_is_integer : mg "is_integer" = some (.ref z.a_is_integer)
  F_between : Fun K "between" "between" s_between z.a_between z.fd_between
  b_between : Binds K z.fd_between ["thing", "low", "high"] []
  g_between : mg "between" = some (.ref z.a_between)
  F_checked_count : Fun K "checked_count" "checked_count" s_checked_count z.a_checked_count z.fd_checked_count
  b_checked_count : Binds K z.fd_checked_count ["n", "low", "high"] []
  g_checked_count : mg "checked_count" = some (.ref z.a_checked_count)
  F_names_of_pair : Fun K "names_of_pair" "names_of_pair" s_names_of_pair z.a_names_of_pair z.fd_names_of_pair
  b_names_of_pair : Binds K z.fd_names_of_pair ["turns", "total"] []
  g_names_of_pair : mg "names_of_pair" = some (.ref z.a_names_of_pair)
  F_pair_at : Fun K "pair_at" "pair_at" s_pair_at z.a_pair_at z.fd_pair_at
  b_pair_at : Binds K z.fd_pair_at ["n", "letter", "gap"] []
  g_pair_at : mg "pair_at" = some (.ref z.a_pair_at)
  F_common_divisor : Fun K "common_divisor" "common_divisor" s_common_divisor z.a_common_divisor z.fd_common_divisor
  b_common_divisor : Binds K z.fd_common_divisor ["a", "b"] []
  g_common_divisor : mg "common_divisor" = some (.ref z.a_common_divisor)
  F_crossings : Fun K "crossings" "crossings" s_crossings z.a_crossings z.fd_crossings
  b_crossings : Binds K z.fd_crossings ["n"] []
  g_crossings : mg "crossings" = some (.ref z.a_crossings)
  F_between_ratios : Fun K "between_ratios" "between_ratios" s_between_ratios z.a_between_ratios z.fd_between_ratios
  b_between_ratios : Binds K z.fd_between_ratios ["low", "high"] []
  g_between_ratios : mg "between_ratios" = some (.ref z.a_between_ratios)
  F_checked_bands : Fun K "checked_bands" "checked_bands" s_checked_bands z.a_checked_bands z.fd_checked_bands
  b_checked_bands : Binds K z.fd_checked_bands ["n"] []
  g_checked_bands : mg "checked_bands" = some (.ref z.a_checked_bands)
  F_bands : Fun K "bands" "bands" s_bands z.a_bands z.fd_bands
  b_bands : Binds K z.fd_bands ["n"] []
  g_bands : mg "bands" = some (.ref z.a_bands)
  F__law_source : Fun K "_law_source" "_law_source" s__law_source z.a__law_source z.fd__law_source
  b__law_source : Binds K z.fd__law_source ["_law_script"] []
  g__law_source : mg "_law_source" = some (.ref z.a__law_source)
  F__law_draw : Fun K "_law_draw" "_law_draw" s__law_draw z.a__law_draw z.fd__law_draw
  b__law_draw : Binds K z.fd__law_draw ["_law_source_here", "_law_limit"] []
  g__law_draw : mg "_law_draw" = some (.ref z.a__law_draw)
  F__law_integer : Fun K "_law_integer" "_law_integer" s__law_integer z.a__law_integer z.fd__law_integer
  b__law_integer : Binds K z.fd__law_integer ["_law_thing"] []
  g__law_integer : mg "_law_integer" = some (.ref z.a__law_integer)
  F__law_same : Fun K "_law_same" "_law_same" s__law_same z.a__law_same z.fd__law_same
  b__law_same : Binds K z.fd__law_same ["_law_told", "_law_due"] []
  g__law_same : mg "_law_same" = some (.ref z.a__law_same)
  F__law_divisor : Fun K "_law_divisor" "_law_divisor" s__law_divisor z.a__law_divisor z.fd__law_divisor
  b__law_divisor : Binds K z.fd__law_divisor ["_law_a", "_law_b"] []
  g__law_divisor : mg "_law_divisor" = some (.ref z.a__law_divisor)
  F__law_ways : Fun K "_law_ways" "_law_ways" s__law_ways z.a__law_ways z.fd__law_ways
  b__law_ways : Binds K z.fd__law_ways ["_law_turns", "_law_total"] []
  g__law_ways : mg "_law_ways" = some (.ref z.a__law_ways)
  F__law_pair : Fun K "_law_pair" "_law_pair" s__law_pair z.a__law_pair z.fd__law_pair
  b__law_pair : Binds K z.fd__law_pair ["_law_n", "_law_ratio"] []
  g__law_pair : mg "_law_pair" = some (.ref z.a__law_pair)
  F__law_ends : Fun K "_law_ends" "_law_ends" s__law_ends z.a__law_ends z.fd__law_ends
  b__law_ends : Binds K z.fd__law_ends ["_law_n"] []
  g__law_ends : mg "_law_ends" = some (.ref z.a__law_ends)
  F__law_bands : Fun K "_law_bands" "_law_bands" s__law_bands z.a__law_bands z.fd__law_bands
  b__law_bands : Binds K z.fd__law_bands ["_law_n"] []
  g__law_bands : mg "_law_bands" = some (.ref z.a__law_bands)
  F_law : Fun K "law" "law" s_law z.a_law z.fd_law
  b_law : Binds K z.fd_law ["_law_script"] []
  g_law : mg "law" = some (.ref z.a_law)
  n_abs : mg "abs" = none
  n_bool : mg "bool" = none
  n_int : mg "int" = none
  n_isinstance : mg "isinstance" = none
  n_len : mg "len" = none
  n_list : mg "list" = none
  n_min : mg "min" = none
  n_range : mg "range" = none
  n_sorted : mg "sorted" = none
  n_str : mg "str" = none
  n_tuple : mg "tuple" = none
  c_FINE : mg "FINE" = some (.int 10000 z.t_FINE)
  c_MOST_HANDS : mg "MOST_HANDS" = some (.int 20 z.t_MOST_HANDS)
  lam_crossings : LamT K base mg "crossings" z.lc_crossings z.lp_crossings
  cd_crossings : z.fd_crossings.code = .ref z.lc_crossings
  g_InvalidCount : mg "InvalidCount" = some (.ref c.InvalidCount)
  x0_InvalidCount : Ex0 K c.InvalidCount
  its : ∀ C ∈ c.cs, InsTxt K C
section
variable {P : Program} {w : World} {K : PySem.W.Frag} {mg : Str → Option Value} {base : Heap} {c : Cl} {z : Ad}
theorem ok_is_integer (T : Txt K base mg c z) : FnOk P w K mg base (L2.CX P w) 1 z.a_is_integer z.fd_is_integer ["thing"] (spI K 1 (G_is_integer c)) := by
  exact ok_fn T.F_is_integer sc_is_integer fun cdv A outer s H E hr tk po =>
    (pSs_one (pS_ret (pE_and (pE_isi T.its T.n_isinstance (pA_cons (pE_var 0) (pA_cons (pE_ty T.n_int (by decide +kernel)) pA_nil))) (pE_one (pE_not (pE_isi T.its T.n_isinstance (pA_cons (pE_var 0) (pA_cons (pE_ty T.n_bool (by decide +kernel)) pA_nil))))))))
theorem ok_between (T : Txt K base mg c z) : FnOk P w K mg base (L2.CX P w) 2 z.a_between z.fd_between ["thing", "low", "high"] (spI K 3 (G_between c)) := by
  exact ok_fn T.F_between sc_between fun cdv A outer s H E hr tk po =>
    (pSs_one (pS_ret (pE_and (pE_call (ok_is_integer T) (hr.mono (by decide)) T.g_is_integer T.F_is_integer.kp T.b_is_integer tk (pA_cons (pE_var 0) pA_nil)) (pE_one (pE_chainI op_le op_le dc_dLe dc_dLe (pE_var 1) (pE_var 0) (pE_var 2))))))
theorem ok_checked_count (T : Txt K base mg c z) : FnOk P w K mg base (L2.CX P w) 3 z.a_checked_count z.fd_checked_count ["n", "low", "high"] (spI K 3 (G_checked_count c)) := by
  exact ok_fn T.F_checked_count sc_checked_count fun cdv A outer s H E hr tk po =>
    (pSs_cons (pS_if (pT_not (pT_val (pE_call (ok_between T) (hr.mono (by decide)) T.g_between T.F_between.kp T.b_between tk (pA_cons (pE_var 0) (pA_cons (pE_var 1) (pA_cons (pE_var 2) pA_nil)))))) (pSs_one (pS_raise0 rfl tk T.x0_InvalidCount T.g_InvalidCount)) pSs_nil)
      (pSs_one (pS_ret (pE_var 0))))
theorem ok_names_of_pair (T : Txt K base mg c z) : FnOk P w K mg base (L2.CX P w) 1 z.a_names_of_pair z.fd_names_of_pair ["turns", "total"] (spI K 2 (G_names_of_pair c)) := by
  exact ok_fn T.F_names_of_pair sc_names_of_pair fun cdv A outer s H E hr tk po =>
    (pSs_cons (pS_if (pT_eq hr (pE_var 0) pE_int) (pSs_one (pS_ret (pE_int1 T.n_int (pA_cons (pE_eq hr (pE_var 1) pE_int) pA_nil)))) pSs_nil)
      (pSs_cons (pS_set (i := 2) sc_names_of_pair.nd pE_int)
      (pSs_cons (pS_for po rfl (pI_rng2 T.n_range (pA_cons pE_int (pA_cons (pE_add (pE_var 1) pE_int) pA_nil))) (pG_name (i := 3) sc_names_of_pair.nd) (pSs_one (pS_set (i := 2) sc_names_of_pair.nd (pE_div (pE_mul (pE_var 2) (pE_add (pE_sub (pE_var 0) pE_int) (pE_var 3))) (pE_var 3)))))
      (pSs_one (pS_ret (pE_var 2))))))
theorem ok_pair_at (T : Txt K base mg c z) : FnOk P w K mg base (L2.CX P w) 2 z.a_pair_at z.fd_pair_at ["n", "letter", "gap"] (spI K 3 (G_pair_at c)) := by
  exact FnOk.imp (ok_fn T.F_pair_at sc_pair_at fun cdv A outer s H E hr tk po =>
    (pSs_cons (pS_setLcT (i := 3) rfl sc_pair_at.nd (sw_true rfl rfl rfl (by decide +kernel)) (pI_rng1 T.n_range (pA_cons (pE_var 0) pA_nil)) (blkOk_by (N := ["n", "letter", "gap", "sums", "left", "pair", "time", "turns", "found"]) (sc := defScope s_pair_at) (own := [("turns", 7)]) (by decide +kernel)) (kg_name (by decide)) mon_name (fun _ _ _ _ _ => (pg_name (i := 7) sc_pair_at.nd rfl (by first | exact Or.inl rfl | exact Or.inr rfl))) (fun _ _ _ _ _ => pTs_nil) (fun _ _ _ _ _ => pE_int))
      (pSs_cons (pS_set (i := 4) sc_pair_at.nd (pE_var 0))
      (pSs_cons (pS_set (i := 5) sc_pair_at.nd (pE_tup (pA_cons pE_int (pA_cons pE_int pA_nil))))
      (pSs_cons (pS_while 100000 po (pT_gt (pE_var 4) pE_int) (pSs_cons (pS_set (i := 6) sc_pair_at.nd pE_non)
      (pSs_cons (pS_for po rfl (pI_rng1 T.n_range (pA_cons (pE_var 0) pA_nil)) (pG_name (i := 7) sc_pair_at.nd) (pSs_one (pS_if (PW.pt (pW_or (pT_gt (pE_var 7) pE_int) (pW_or1 (pT_eq hr (pE_sub2 (pE_var 3) pE_int) pE_int)))) (pSs_cons (pS_set (i := 8) sc_pair_at.nd (pE_add (pE_mul (pE_var 7) (pE_var 1)) (pE_mul (pE_sub2 (pE_var 3) (pE_var 7)) (pE_var 2))))
      (pSs_one (pS_if (PW.pt (pW_or (pT_is (pE_var 6) pE_non) (pW_or1 (pT_lt (pE_var 8) (pE_var 6))))) (pSs_cons (pS_set (i := 6) sc_pair_at.nd (pE_var 8))
      (pSs_one (pS_set (i := 5) sc_pair_at.nd (pE_tup (pA_cons (pE_var 7) (pA_cons (pE_sub2 (pE_var 3) (pE_var 7)) pA_nil)))))) pSs_nil))) pSs_nil)))
      (pSs_cons (pS_subI (i := 4) sc_pair_at.nd (pE_call (ok_names_of_pair T) (hr.mono (by decide)) T.g_names_of_pair T.F_names_of_pair.kp T.b_names_of_pair tk (pA_cons (pE_sub2 (pE_var 5) pE_int) (pA_cons (pE_sub2 (pE_var 5) pE_int) pA_nil))))
      (pSs_one (pS_augSL (pE_var 3) (pE_sub2 (pE_var 5) pE_int) pE_int))))))
      (pSs_one (pS_ret (pE_var 5)))))))) spI_pure
theorem ok_common_divisor (T : Txt K base mg c z) : FnOk P w K mg base (L2.CX P w) 1 z.a_common_divisor z.fd_common_divisor ["a", "b"] (spI K 2 (G_common_divisor c)) := by
  exact ok_fn T.F_common_divisor sc_common_divisor fun cdv A outer s H E hr tk po =>
    (pSs_cons (pS_while 100000 po (pT_gt (pE_var 1) pE_int) (pSs_one (pS_par2 (i := 0) (j := 1) rfl sc_common_divisor.nd (pA_cons (pE_var 1) (pA_cons (pE_mod (pE_int1 T.n_int (pA_cons (pE_var 0) pA_nil)) (pE_var 1)) pA_nil)))))
      (pSs_one (pS_ret (pE_var 0))))
theorem ok_crossings (T : Txt K base mg c z) : FnOk P w K mg base (L2.CX P w) 3 z.a_crossings z.fd_crossings ["n"] (spI K 1 (G_crossings c)) := by
  exact FnOk.imp (ok_fnC T.F_crossings T.cd_crossings sc_crossings fun A outer s H E hr tk po =>
    (pSs_cons (pS_set (i := 1) sc_crossings.nd (pE_lstT pA_nil))
      (pSs_cons (pS_for po rfl (pI_rng2 T.n_range (pA_cons pE_int (pA_cons (pE_sub (pE_var 0) pE_int) pA_nil))) (pG_name (i := 2) sc_crossings.nd) (pSs_one (pS_for po rfl (pI_rng2 T.n_range (pA_cons pE_int (pA_cons (pE_sub (pE_var 0) pE_int) pA_nil))) (pG_name (i := 3) sc_crossings.nd) (pSs_one (pS_if (pT_eq hr (pE_call (ok_common_divisor T) (hr.mono (by decide)) T.g_common_divisor T.F_common_divisor.kp T.b_common_divisor tk (pA_cons (pE_var 2) (pA_cons (pE_var 3) pA_nil))) pE_int) (pSs_one (pS_expr (pE_append (pE_var 1) (pA_cons (pE_tup (pA_cons (pE_var 2) (pA_cons (pE_var 3) pA_nil))) pA_nil)))) pSs_nil)))))
      (pSs_one (pS_ret (pE_sortR (k := 0) T.lam_crossings rfl (hr.mono (by decide)) T.n_sorted T.c_FINE (by decide) (pA_cons (pE_var 1) pA_nil) (lamS1_by (sc := defScope s_crossings) (by decide +kernel)) rfl (fun _ _ _ _ _ _ => rfl))))))) spI_pure
theorem ok_between_ratios (T : Txt K base mg c z) : FnOk P w K mg base (L2.CX P w) 1 z.a_between_ratios z.fd_between_ratios ["low", "high"] (spI K 2 (G_between_ratios c)) := by
  exact ok_fn T.F_between_ratios sc_between_ratios fun cdv A outer s H E hr tk po =>
    (pSs_cons (pS_if (pT_is (pE_var 1) pE_non) (pSs_one (pS_ret (pE_tup (pA_cons (pE_add (pE_sub2 (pE_var 0) pE_int) (pE_sub2 (pE_var 0) pE_int)) (pA_cons (pE_sub2 (pE_var 0) pE_int) pA_nil))))) pSs_nil)
      (pSs_one (pS_ret (pE_tup (pA_cons (pE_add (pE_sub2 (pE_var 0) pE_int) (pE_sub2 (pE_var 1) pE_int)) (pA_cons (pE_add (pE_sub2 (pE_var 0) pE_int) (pE_sub2 (pE_var 1) pE_int)) pA_nil))))))
theorem okr_checked_bands (T : Txt K base mg c z) : FnOk P w K mg base (L2.CX P w) 4 z.a_checked_bands z.fd_checked_bands ["n"] (spI K 1 (Gr_checked_bands c)) := by
  exact ok_fn T.F_checked_bands sc_checked_bands fun cdv A outer s H E hr tk po =>
    (pSs_cons (pS_set (i := 1) sc_checked_bands.nd (pE_lstT pA_nil))
      (pSs_cons (pS_set (i := 2) sc_checked_bands.nd (pE_tup (pA_cons pE_int (pA_cons pE_int pA_nil))))
      (pSs_cons (pS_set (i := 3) sc_checked_bands.nd pE_non)
      (pSs_cons (pS_for po rfl (pI_seq (pE_lst (pA_star (pE_call (ok_crossings T) (hr.mono (by decide)) T.g_crossings T.F_crossings.kp T.b_crossings tk (pA_cons (pE_var 0) pA_nil)) (pA_cons pE_non pA_nil)))) (pG_name (i := 4) sc_checked_bands.nd) (pSs_cons (pS_set (i := 5) sc_checked_bands.nd (pE_call (ok_between_ratios T) (hr.mono (by decide)) T.g_between_ratios T.F_between_ratios.kp T.b_between_ratios tk (pA_cons (pE_var 2) (pA_cons (pE_var 4) pA_nil))))
      (pSs_cons (pS_set (i := 6) sc_checked_bands.nd (pE_call (ok_pair_at T) (hr.mono (by decide)) T.g_pair_at T.F_pair_at.kp T.b_pair_at tk (pA_cons (pE_var 0) (pA_cons (pE_sub2 (pE_var 5) pE_int) (pA_cons (pE_sub2 (pE_var 5) pE_int) pA_nil)))))
      (pSs_cons (pS_if (pT_eq hr (pE_var 6) (pE_var 3)) (pSs_one (pS_put putl_list (ps_asg (pE_tup (pA_cons (pE_sub2 (pE_sub2 (pE_var 1) (pE_neg pE_int)) pE_int) (pA_cons (pE_var 4) (pA_cons (pE_sub2 (pE_var 6) pE_int) (pA_cons (pE_sub2 (pE_var 6) pE_int) pA_nil))))) (pg_sub (pE_var 1) (pE_neg pE_int) set_list)))) (pSs_one (pS_expr (pE_append (pE_var 1) (pA_cons (pE_tup (pA_cons (pE_var 2) (pA_cons (pE_var 4) (pA_cons (pE_sub2 (pE_var 6) pE_int) (pA_cons (pE_sub2 (pE_var 6) pE_int) pA_nil))))) pA_nil)))))
      (pSs_cons (pS_set (i := 3) sc_checked_bands.nd (pE_var 6))
      (pSs_one (pS_if (pT_isnot (pE_var 4) pE_non) (pSs_one (pS_set (i := 2) sc_checked_bands.nd (pE_var 4))) pSs_nil)))))))
      (pSs_one (pS_ret (pE_var 1)))))))
theorem ok_checked_bands (T : Txt K base mg c z) : FnOk P w K mg base (L2.CX P w) 4 z.a_checked_bands z.fd_checked_bands ["n"] (spI K 1 (G_checked_bands c)) := by
  exact FnOk.imp (ok_fn T.F_checked_bands sc_checked_bands fun cdv A outer s H E hr tk po =>
    (pSs_cons (pS_set (i := 1) sc_checked_bands.nd (pE_lstT pA_nil))
      (pSs_cons (pS_set (i := 2) sc_checked_bands.nd (pE_tup (pA_cons pE_int (pA_cons pE_int pA_nil))))
      (pSs_cons (pS_set (i := 3) sc_checked_bands.nd pE_non)
      (pSs_cons (pS_for po rfl (pI_seq (pE_lst (pA_star (pE_call (ok_crossings T) (hr.mono (by decide)) T.g_crossings T.F_crossings.kp T.b_crossings tk (pA_cons (pE_var 0) pA_nil)) (pA_cons pE_non pA_nil)))) (pG_name (i := 4) sc_checked_bands.nd) (pSs_cons (pS_set (i := 5) sc_checked_bands.nd (pE_call (ok_between_ratios T) (hr.mono (by decide)) T.g_between_ratios T.F_between_ratios.kp T.b_between_ratios tk (pA_cons (pE_var 2) (pA_cons (pE_var 4) pA_nil))))
      (pSs_cons (pS_set (i := 6) sc_checked_bands.nd (pE_call (ok_pair_at T) (hr.mono (by decide)) T.g_pair_at T.F_pair_at.kp T.b_pair_at tk (pA_cons (pE_var 0) (pA_cons (pE_sub2 (pE_var 5) pE_int) (pA_cons (pE_sub2 (pE_var 5) pE_int) pA_nil)))))
      (pSs_cons (pS_if (pT_eq hr (pE_var 6) (pE_var 3)) (pSs_one (pS_put putl_list (ps_asg (pE_tup (pA_cons (pE_sub2 (pE_sub2 (pE_var 1) (pE_neg pE_int)) pE_int) (pA_cons (pE_var 4) (pA_cons (pE_sub2 (pE_var 6) pE_int) (pA_cons (pE_sub2 (pE_var 6) pE_int) pA_nil))))) (pg_sub (pE_var 1) (pE_neg pE_int) set_list)))) (pSs_one (pS_expr (pE_append (pE_var 1) (pA_cons (pE_tup (pA_cons (pE_var 2) (pA_cons (pE_var 4) (pA_cons (pE_sub2 (pE_var 6) pE_int) (pA_cons (pE_sub2 (pE_var 6) pE_int) pA_nil))))) pA_nil)))))
      (pSs_cons (pS_set (i := 3) sc_checked_bands.nd (pE_var 6))
      (pSs_one (pS_if (pT_isnot (pE_var 4) pE_non) (pSs_one (pS_set (i := 2) sc_checked_bands.nd (pE_var 4))) pSs_nil)))))))
      (pSs_one (pS_ret (pE_var 1)))))))) spI_pure
theorem okr_bands (T : Txt K base mg c z) : FnOk P w K mg base (L2.CX P w) 5 z.a_bands z.fd_bands ["n"] (spI K 1 (Gr_bands c)) := by
  exact ok_fn T.F_bands sc_bands fun cdv A outer s H E hr tk po =>
    (pSs_cons (pS_expr (pE_call (ok_checked_count T) (hr.mono (by decide)) T.g_checked_count T.F_checked_count.kp T.b_checked_count tk (pA_cons (pE_var 0) (pA_cons pE_int (pA_cons (pE_gint T.c_MOST_HANDS) pA_nil)))))
      (pSs_one (pS_ret (pE_call (okr_checked_bands T) (hr.mono (by decide)) T.g_checked_bands T.F_checked_bands.kp T.b_checked_bands tk (pA_cons (pE_var 0) pA_nil)))))
theorem ok_bands (T : Txt K base mg c z) : FnOk P w K mg base (L2.CX P w) 5 z.a_bands z.fd_bands ["n"] (spI K 1 (G_bands c)) := by
  exact ok_fn T.F_bands sc_bands fun cdv A outer s H E hr tk po =>
    (pSs_cons (pS_expr (pE_call (ok_checked_count T) (hr.mono (by decide)) T.g_checked_count T.F_checked_count.kp T.b_checked_count tk (pA_cons (pE_var 0) (pA_cons pE_int (pA_cons (pE_gint T.c_MOST_HANDS) pA_nil)))))
      (pSs_one (pS_ret (pE_call (ok_checked_bands T) (hr.mono (by decide)) T.g_checked_bands T.F_checked_bands.kp T.b_checked_bands tk (pA_cons (pE_var 0) pA_nil)))))
theorem ok__law_source (T : Txt K base mg c z) : FnOk P w K mg base (L2.CX P w) 1 z.a__law_source z.fd__law_source ["_law_script"] (spI K 1 (G__law_source c)) := by
  exact ok_fn T.F__law_source sc__law_source fun cdv A outer s H E hr tk po =>
    (pSs_one (pS_ret (pE_lstT (pA_cons (pE_lc rfl sc__law_source.nd (pI_seq (weak_sl (pE_var 0) pO_none (pO_some pE_int))) (blkOk_by (N := ["_law_script", "_law_cell"]) (sc := defScope s__law_source) (own := [("_law_cell", 1)]) (by decide +kernel)) (kg_name (by decide)) mon_name (fun _ _ _ _ _ => (pg_name (i := 1) sc__law_source.nd rfl (by first | exact Or.inl rfl | exact Or.inr rfl))) (fun _ _ _ _ _ => pTs_nil) (fun _ _ _ _ _ => (pE_int1 T.n_int (pA_cons (pE_var 1) pA_nil)))) (pA_cons pE_int (pA_cons pE_int (pA_cons pE_int (pA_cons pE_int pA_nil))))))))
theorem ok__law_draw (T : Txt K base mg c z) : FnOk P w K mg base (L2.CX P w) 1 z.a__law_draw z.fd__law_draw ["_law_source_here", "_law_limit"] (spI K 2 (G__law_draw c)) := by
  exact ok_fn T.F__law_draw sc__law_draw fun cdv A outer s H E hr tk po =>
    (pSs_cons (pS_augSL (pE_var 0) pE_int pE_int)
      (pSs_cons (pS_if (PW.pt (pW_and (pT_eq hr (pE_sub2 (pE_var 0) pE_int) pE_int) (pW_and1 (pT_lt (pE_sub2 (pE_var 0) pE_int) (pE_len T.n_len (pA_cons (pE_sub2 (pE_var 0) pE_int) pA_nil)))))) (pSs_cons (pS_set (i := 2) sc__law_draw.nd (pE_sub2 (pE_sub2 (pE_var 0) pE_int) (pE_sub2 (pE_var 0) pE_int)))
      (pSs_cons (pS_augSL (pE_var 0) pE_int pE_int)
      (pSs_one (pS_if (pT_ge (pE_var 2) (pE_pow pE_int pE_int)) (pSs_one (pS_put putl_list (ps_asg (pE_var 2) (pg_sub (pE_var 0) pE_int set_list)))) (pSs_one (pS_put putl_list (ps_asg (pE_mod (pE_int1 T.n_int (pA_cons (pE_add (pE_add (pE_mul (pE_sub2 (pE_var 0) pE_int) pE_int) (pE_mul (pE_var 2) pE_int)) pE_int) pA_nil)) pE_int) (pg_sub (pE_var 0) pE_int set_list)))))))) pSs_nil)
      (pSs_cons (pS_if (pT_gt (pE_sub2 (pE_var 0) pE_int) pE_int) (pSs_cons (pS_set (i := 3) sc__law_draw.nd (pE_mod (pE_int1 T.n_int (pA_cons (pE_sub2 (pE_var 0) pE_int) pA_nil)) (pE_var 1)))
      (pSs_cons (pS_put putl_list (ps_asg (pE_div (pE_sub2 (pE_var 0) pE_int) (pE_var 1)) (pg_sub (pE_var 0) pE_int set_list)))
      (pSs_one (pS_ret (pE_var 3))))) pSs_nil)
      (pSs_cons (pS_set (i := 4) sc__law_draw.nd (pE_mod (pE_int1 T.n_int (pA_cons (pE_mul (pE_add (pE_add (pE_sub2 (pE_var 0) pE_int) (pE_mul pE_int (pE_sub2 (pE_var 0) pE_int))) pE_int) pE_int) pA_nil)) pE_int))
      (pSs_cons (pS_set (i := 5) sc__law_draw.nd (pE_mod (pE_int1 T.n_int (pA_cons (pE_mul (pE_var 4) (pE_add (pE_div (pE_var 4) pE_int) pE_int)) pA_nil)) pE_int))
      (pSs_cons (pS_set (i := 6) sc__law_draw.nd (pE_mod (pE_int1 T.n_int (pA_cons (pE_mul (pE_var 5) (pE_add (pE_div (pE_var 5) pE_int) pE_int)) pA_nil)) pE_int))
      (pSs_one (pS_ret (pE_mod (pE_int1 T.n_int (pA_cons (pE_div (pE_var 6) pE_int) pA_nil)) (pE_var 1))))))))))
theorem ok__law_integer (T : Txt K base mg c z) : FnOk P w K mg base (L2.CX P w) 1 z.a__law_integer z.fd__law_integer ["_law_thing"] (spI K 1 (G__law_integer c)) := by
  exact ok_fn T.F__law_integer sc__law_integer fun cdv A outer s H E hr tk po =>
    (pSs_one (pS_ret (pE_and (pE_isi T.its T.n_isinstance (pA_cons (pE_var 0) (pA_cons (pE_ty T.n_int (by decide +kernel)) pA_nil))) (pE_one (pE_not (pE_isi T.its T.n_isinstance (pA_cons (pE_var 0) (pA_cons (pE_ty T.n_bool (by decide +kernel)) pA_nil))))))))
theorem okn__law_same (T : Txt K base mg c z) : ∀ n : Nat, FnOk P w K mg base (L2.CX P w) (2 + n) z.a__law_same z.fd__law_same ["_law_told", "_law_due"] (spI K 2 (Gn__law_same c n))
  | 0 => ok_fn T.F__law_same sc__law_same fun cdv A outer s H E hr tk po => pSs_bad
  | n + 1 => have ih := okn__law_same T n
    ok_fn T.F__law_same sc__law_same fun cdv A outer s H E hr tk po =>
    (pSs_cons (pS_if (pT_is (pE_var 1) pE_non) (pSs_one (pS_ret (pE_is (pE_var 0) pE_non))) pSs_nil)
      (pSs_cons (pS_if (pT_val (pE_isi T.its T.n_isinstance (pA_cons (pE_var 1) (pA_cons (pE_ty T.n_bool (by decide +kernel)) pA_nil)))) (pSs_one (pS_ret (pE_and (pE_isi T.its T.n_isinstance (pA_cons (pE_var 0) (pA_cons (pE_ty T.n_bool (by decide +kernel)) pA_nil))) (pE_one (pE_eq hr (pE_var 0) (pE_var 1)))))) pSs_nil)
      (pSs_cons (pS_if (pT_val (pE_isi T.its T.n_isinstance (pA_cons (pE_var 1) (pA_cons (pE_ty T.n_int (by decide +kernel)) pA_nil)))) (pSs_one (pS_ret (pE_and (pE_call (ok__law_integer T) (hr.mono (Nat.le_trans (by decide) (Nat.le_add_right _ n))) T.g__law_integer T.F__law_integer.kp T.b__law_integer tk (pA_cons (pE_var 0) pA_nil)) (pE_one (pE_eq hr (pE_var 0) (pE_var 1)))))) pSs_nil)
      (pSs_cons (pS_if (pT_val (pE_isi T.its T.n_isinstance (pA_cons (pE_var 1) (pA_cons (pE_ty T.n_str (by decide +kernel)) pA_nil)))) (pSs_one (pS_ret (pE_and (pE_isi T.its T.n_isinstance (pA_cons (pE_var 0) (pA_cons (pE_ty T.n_str (by decide +kernel)) pA_nil))) (pE_one (pE_eq hr (pE_var 0) (pE_var 1)))))) pSs_nil)
      (pSs_cons (pS_if (PW.pt (pW_and (pT_val (pE_isi T.its T.n_isinstance (pA_cons (pE_var 1) (pA_cons (pE_ty T.n_list (by decide +kernel)) pA_nil)))) (pW_and1 (pT_not (pT_val (pE_isi T.its T.n_isinstance (pA_cons (pE_var 0) (pA_cons (pE_ty T.n_list (by decide +kernel)) pA_nil)))))))) (pSs_one (pS_ret pE_bl)) pSs_nil)
      (pSs_cons (pS_if (PW.pt (pW_and (pT_val (pE_isi T.its T.n_isinstance (pA_cons (pE_var 1) (pA_cons (pE_ty T.n_tuple (by decide +kernel)) pA_nil)))) (pW_and1 (pT_not (pT_val (pE_isi T.its T.n_isinstance (pA_cons (pE_var 0) (pA_cons (pE_ty T.n_tuple (by decide +kernel)) pA_nil)))))))) (pSs_one (pS_ret pE_bl)) pSs_nil)
      (pSs_cons (pS_if (pT_ne hr (pE_len T.n_len (pA_cons (pE_var 0) pA_nil)) (pE_len T.n_len (pA_cons (pE_var 1) pA_nil))) (pSs_one (pS_ret pE_bl)) pSs_nil)
      (pSs_cons (pS_for po rfl (pI_rng1 T.n_range (pA_cons (pE_len T.n_len (pA_cons (pE_var 1) pA_nil)) pA_nil)) (pG_name (i := 2) sc__law_same.nd) (pSs_one (pS_if (pT_not (pT_val (pE_call ih (hr.mono (Nat.le_refl _)) T.g__law_same T.F__law_same.kp T.b__law_same tk (pA_cons (pE_sub2 (pE_var 0) (pE_var 2)) (pA_cons (pE_sub2 (pE_var 1) (pE_var 2)) pA_nil))))) (pSs_one (pS_ret pE_bl)) pSs_nil)))
      (pSs_one (pS_ret pE_bl))))))))))
theorem ok__law_same (T : Txt K base mg c z) : FnOk P w K mg base (L2.CX P w) 26 z.a__law_same z.fd__law_same ["_law_told", "_law_due"] (spI K 2 (G__law_same c)) := okn__law_same T 24
theorem ok__law_divisor (T : Txt K base mg c z) : FnOk P w K mg base (L2.CX P w) 1 z.a__law_divisor z.fd__law_divisor ["_law_a", "_law_b"] (spI K 2 (G__law_divisor c)) := by
  exact ok_fn T.F__law_divisor sc__law_divisor fun cdv A outer s H E hr tk po =>
    (pSs_cons (pS_set (i := 0) sc__law_divisor.nd (pE_abs T.n_abs (pA_cons (pE_var 0) pA_nil)))
      (pSs_cons (pS_set (i := 1) sc__law_divisor.nd (pE_abs T.n_abs (pA_cons (pE_var 1) pA_nil)))
      (pSs_cons (pS_for po rfl (pI_rng1 T.n_range (pA_cons pE_int pA_nil)) (pG_name (i := 2) sc__law_divisor.nd) (pSs_one (pS_if (pT_gt (pE_var 1) pE_int) (pSs_cons (pS_set (i := 3) sc__law_divisor.nd (pE_mod (pE_int1 T.n_int (pA_cons (pE_var 0) pA_nil)) (pE_var 1)))
      (pSs_cons (pS_set (i := 0) sc__law_divisor.nd (pE_var 1))
      (pSs_one (pS_set (i := 1) sc__law_divisor.nd (pE_var 3))))) pSs_nil)))
      (pSs_one (pS_ret (pE_var 0))))))
theorem ok__law_ways (T : Txt K base mg c z) : FnOk P w K mg base (L2.CX P w) 1 z.a__law_ways z.fd__law_ways ["_law_turns", "_law_total"] (spI K 2 (G__law_ways c)) := by
  exact FnOk.imp (ok_fn T.F__law_ways sc__law_ways fun cdv A outer s H E hr tk po =>
    (pSs_cons (pS_if (pT_eq hr (pE_var 0) pE_int) (pSs_one (pS_ret (pE_int1 T.n_int (pA_cons (pE_eq hr (pE_var 1) pE_int) pA_nil)))) pSs_nil)
      (pSs_cons (pS_setLcT (i := 2) rfl sc__law_ways.nd (sw_true rfl rfl rfl (by decide +kernel)) (pI_rng1 T.n_range (pA_cons (pE_add (pE_var 1) pE_int) pA_nil)) (blkOk_by (N := ["_law_turns", "_law_total", "_law_ways_here", "_law_turn", "_law_k"]) (sc := defScope s__law_ways) (own := [("_law_k", 4)]) (by decide +kernel)) (kg_name (by decide)) mon_name (fun _ _ _ _ _ => (pg_name (i := 4) sc__law_ways.nd rfl (by first | exact Or.inl rfl | exact Or.inr rfl))) (fun _ _ _ _ _ => pTs_nil) (fun _ _ _ _ _ => pE_int))
      (pSs_cons (pS_for po rfl (pI_rng1 T.n_range (pA_cons (pE_sub (pE_var 0) pE_int) pA_nil)) (pG_name (i := 3) sc__law_ways.nd) (pSs_one (pS_for po rfl (pI_rng1 T.n_range (pA_cons (pE_var 1) pA_nil)) (pG_name (i := 4) sc__law_ways.nd) (pSs_one (pS_put putl_list (ps_asg (pE_add (pE_sub2 (pE_var 2) (pE_add (pE_var 4) pE_int)) (pE_sub2 (pE_var 2) (pE_var 4))) (pg_sub (pE_var 2) (pE_add (pE_var 4) pE_int) set_list)))))))
      (pSs_one (pS_ret (pE_sub2 (pE_var 2) (pE_var 1)))))))) spI_pure
theorem ok__law_pair (T : Txt K base mg c z) : FnOk P w K mg base (L2.CX P w) 2 z.a__law_pair z.fd__law_pair ["_law_n", "_law_ratio"] (spI K 2 (G__law_pair c)) := by
  exact ok_fn T.F__law_pair sc__law_pair fun cdv A outer s H E hr tk po =>
    (pSs_cons (pS_set (i := 2) sc__law_pair.nd (pE_lst pA_nil))
      (pSs_cons (pS_for po rfl (pI_rng1 T.n_range (pA_cons (pE_var 0) pA_nil)) (pG_name (i := 3) sc__law_pair.nd) (pSs_one (pS_for po rfl (pI_rng1 T.n_range (pA_cons (pE_var 0) pA_nil)) (pG_name (i := 4) sc__law_pair.nd) (pSs_cons (pS_set (i := 5) sc__law_pair.nd (pE_min rfl T.n_min (pA_cons (pE_var 0) (pA_cons (pE_call (ok__law_ways T) (hr.mono (by decide)) T.g__law_ways T.F__law_ways.kp T.b__law_ways tk (pA_cons (pE_var 3) (pA_cons (pE_var 4) pA_nil))) pA_nil))))
      (pSs_one (pS_set (i := 2) sc__law_pair.nd (pE_add (pE_var 2) (pE_lc rfl sc__law_pair.nd (pI_rng1 T.n_range (pA_cons (pE_var 5) pA_nil)) (blkOk_by (N := ["_law_n", "_law_ratio", "_law_rows", "_law_turns", "_law_total", "_law_many", "_law_k"]) (sc := defScope s__law_pair) (own := [("_law_k", 6)]) (by decide +kernel)) (kg_name (by decide)) mon_name (fun _ _ _ _ _ => (pg_name (i := 6) sc__law_pair.nd rfl (by first | exact Or.inl rfl | exact Or.inr rfl))) (fun _ _ _ _ _ => pTs_nil) (fun _ _ _ _ _ => (pE_tup (pA_cons (pE_add (pE_mul (pE_var 3) (pE_sub2 (pE_var 1) pE_int)) (pE_mul (pE_var 4) (pE_sub2 (pE_var 1) pE_int))) (pA_cons (pE_var 3) (pA_cons (pE_var 4) pA_nil)))))))))))))
      (pSs_one (pS_ret (weak_sl (pE_sub2 (pE_sortD hr T.n_sorted (pA_cons (pE_var 2) pA_nil)) (pE_sub (pE_var 0) pE_int)) (pO_some pE_int) pO_none)))))
theorem ok__law_ends (T : Txt K base mg c z) : FnOk P w K mg base (L2.CX P w) 2 z.a__law_ends z.fd__law_ends ["_law_n"] (spI K 1 (G__law_ends c)) := by
  exact FnOk.imp (ok_fn T.F__law_ends sc__law_ends fun cdv A outer s H E hr tk po =>
    (pSs_cons (pS_set (i := 1) sc__law_ends.nd (pE_lstT pA_nil))
      (pSs_cons (pS_for po rfl (pI_rng2 T.n_range (pA_cons pE_int (pA_cons (pE_sub (pE_var 0) pE_int) pA_nil))) (pG_name (i := 2) sc__law_ends.nd) (pSs_one (pS_for po rfl (pI_rng2 T.n_range (pA_cons pE_int (pA_cons (pE_sub (pE_var 0) pE_int) pA_nil))) (pG_name (i := 3) sc__law_ends.nd) (pSs_one (pS_if (pT_eq hr (pE_call (ok__law_divisor T) (hr.mono (by decide)) T.g__law_divisor T.F__law_divisor.kp T.b__law_divisor tk (pA_cons (pE_var 2) (pA_cons (pE_var 3) pA_nil))) pE_int) (pSs_cons (pS_set (i := 4) sc__law_ends.nd (pE_len T.n_len (pA_cons (pE_lc rfl sc__law_ends.nd (pI_seq (pE_var 1)) (blkOk_by (N := ["_law_n", "_law_found", "_law_up", "_law_down", "_law_at", "_law_ratio"]) (sc := defScope s__law_ends) (own := [("_law_ratio", 5)]) (by decide +kernel)) (kg_name (by decide)) mon_name (fun _ _ _ _ _ => (pg_name (i := 5) sc__law_ends.nd rfl (by first | exact Or.inl rfl | exact Or.inr rfl))) (fun _ _ _ _ _ => (pTs_one (pT_lt (pE_mul (pE_sub2 (pE_var 5) pE_int) (pE_var 3)) (pE_mul (pE_var 2) (pE_sub2 (pE_var 5) pE_int))))) (fun _ _ _ _ _ => (pE_var 5))) pA_nil)))
      (pSs_one (pS_expr (pE_insert (pE_var 1) (pA_cons (pE_var 4) (pA_cons (pE_tup (pA_cons (pE_var 2) (pA_cons (pE_var 3) pA_nil))) pA_nil)))))) pSs_nil)))))
      (pSs_one (pS_ret (pE_var 1)))))) spI_pure
theorem ok__law_bands (T : Txt K base mg c z) : FnOk P w K mg base (L2.CX P w) 3 z.a__law_bands z.fd__law_bands ["_law_n"] (spI K 1 (G__law_bands c)) := by
  exact FnOk.imp (ok_fn T.F__law_bands sc__law_bands fun cdv A outer s H E hr tk po =>
    (pSs_cons (pS_set (i := 1) sc__law_bands.nd (pE_call (ok__law_ends T) (hr.mono (by decide)) T.g__law_ends T.F__law_ends.kp T.b__law_ends tk (pA_cons (pE_var 0) pA_nil)))
      (pSs_cons (pS_set (i := 2) sc__law_bands.nd (pE_lstT pA_nil))
      (pSs_cons (pS_set (i := 3) sc__law_bands.nd (pE_tup (pA_cons pE_int (pA_cons pE_int pA_nil))))
      (pSs_cons (pS_for po rfl (pI_rng1 T.n_range (pA_cons (pE_add (pE_len T.n_len (pA_cons (pE_var 1) pA_nil)) pE_int) pA_nil)) (pG_name (i := 4) sc__law_bands.nd) (pSs_cons (pS_set (i := 5) sc__law_bands.nd pE_non)
      (pSs_cons (pS_set (i := 6) sc__law_bands.nd (pE_tup (pA_cons (pE_add (pE_sub2 (pE_var 3) pE_int) (pE_sub2 (pE_var 3) pE_int)) (pA_cons (pE_sub2 (pE_var 3) pE_int) pA_nil))))
      (pSs_cons (pS_if (pT_lt (pE_var 4) (pE_len T.n_len (pA_cons (pE_var 1) pA_nil))) (pSs_cons (pS_set (i := 5) sc__law_bands.nd (pE_sub2 (pE_var 1) (pE_var 4)))
      (pSs_one (pS_set (i := 6) sc__law_bands.nd (pE_tup (pA_cons (pE_add (pE_sub2 (pE_var 3) pE_int) (pE_sub2 (pE_var 5) pE_int)) (pA_cons (pE_add (pE_sub2 (pE_var 3) pE_int) (pE_sub2 (pE_var 5) pE_int)) pA_nil)))))) pSs_nil)
      (pSs_cons (pS_set (i := 7) sc__law_bands.nd (pE_call (ok__law_pair T) (hr.mono (by decide)) T.g__law_pair T.F__law_pair.kp T.b__law_pair tk (pA_cons (pE_var 0) (pA_cons (pE_var 6) pA_nil))))
      (pSs_cons (pS_if (PW.pt (pW_and (pT_gt (pE_len T.n_len (pA_cons (pE_var 2) pA_nil)) pE_int) (pW_and1 (pT_eq hr (weak_sl (pE_sub2 (pE_var 2) (pE_neg pE_int)) (pO_some pE_int) pO_none) (pE_var 7))))) (pSs_one (pS_put putl_list (ps_asg (pE_add (pE_tup (pA_cons (pE_sub2 (pE_sub2 (pE_var 2) (pE_neg pE_int)) pE_int) (pA_cons (pE_var 5) pA_nil))) (pE_var 7)) (pg_sub (pE_var 2) (pE_neg pE_int) set_list)))) (pSs_one (pS_expr (pE_append (pE_var 2) (pA_cons (pE_add (pE_tup (pA_cons (pE_var 3) (pA_cons (pE_var 5) pA_nil))) (pE_var 7)) pA_nil)))))
      (pSs_one (pS_set (i := 3) sc__law_bands.nd (pE_if (pT_gt (pE_len T.n_len (pA_cons (pE_var 1) pA_nil)) pE_int) (pE_sub2 (pE_var 1) (pE_min rfl T.n_min (pA_cons (pE_var 4) (pA_cons (pE_sub (pE_len T.n_len (pA_cons (pE_var 1) pA_nil)) pE_int) pA_nil)))) (pE_var 3))))))))))
      (pSs_one (pS_ret (pE_var 2)))))))) spI_pure
theorem ok_law (T : Txt K base mg c z) : FnOk P w K mg base (L2.CX P w) 27 z.a_law z.fd_law ["_law_script"] (spI K 1 (G_law c)) := by
  exact ok_fn T.F_law sc_law fun cdv A outer s H E hr tk po =>
    (pSs_cons (pS_set (i := 1) sc_law.nd (pE_call (ok__law_source T) (hr.mono (by decide)) T.g__law_source T.F__law_source.kp T.b__law_source tk (pA_cons (pE_var 0) pA_nil)))
      (pSs_cons (pS_set (i := 2) sc_law.nd (pE_add pE_int (pE_call (ok__law_draw T) (hr.mono (by decide)) T.g__law_draw T.F__law_draw.kp T.b__law_draw tk (pA_cons (pE_var 1) (pA_cons pE_int pA_nil)))))
      (pSs_cons (pS_set (i := 3) sc_law.nd (pE_call (ok__law_bands T) (hr.mono (by decide)) T.g__law_bands T.F__law_bands.kp T.b__law_bands tk (pA_cons (pE_var 2) pA_nil)))
      (pSs_cons (pS_set (i := 4) sc_law.nd (pE_call (okr_bands T) (hr.mono (by decide)) T.g_bands T.F_bands.kp T.b_bands tk (pA_cons (pE_var 2) pA_nil)))
      (pSs_cons (pS_if (pT_not (pT_val (pE_call (ok__law_same T) (hr.mono (by decide)) T.g__law_same T.F__law_same.kp T.b__law_same tk (pA_cons (pE_var 4) (pA_cons (pE_var 3) pA_nil))))) (pSs_one (pS_ret pE_bl)) pSs_nil)
      (pSs_cons (pS_expr (pE_reverse (pE_var 4)))
      (pSs_cons (pS_expr (pE_append (pE_var 4) (pA_cons pE_int pA_nil)))
      (pSs_one (pS_ret (pE_call (ok__law_same T) (hr.mono (by decide)) T.g__law_same T.F__law_same.kp T.b__law_same tk (pA_cons (pE_call (ok_bands T) (hr.mono (by decide)) T.g_bands T.F_bands.kp T.b_bands tk (pA_cons (pE_var 2) pA_nil)) (pA_cons (pE_var 3) pA_nil))))))))))))
end

def spLaw (K : PySem.W.Frag) : Sp := fun vs H Q E => ∀ c : Cl, OkC c → spI K 1 (G_law c) vs H Q E
theorem cx_none {P : Program} {w : World} {outer : List Env} {H : Hp} {s : Shared} {e : Value} {s' : Shared} (h : L2.CX P w outer H s (fun _ _ _ => False) e s') : False := by
  obtain ⟨_, _, _, _, _, _, _, _, _, _, _, _, z⟩ := h
  exact z
theorem law_start {K : PySem.W.Frag} {H : Hp} {a : Addr} {ns : List Int} {ts : List Addr} (hT : tabsIn K ts = true) (hP : ∀ P ∈ ts, H P = some (.tbl #[]) ∧ ¬ Live [] P) (hl : ns.length ≤ 63) (hb : ∀ z ∈ ns, Builtin.Int.intBits z ≤ 1048576) (hS : SqL K H a (ns.map V.int)) : spLaw K [.ref a] H (fun v _ => v = .bl true) fun _ _ _ => False := by
  intro c hc
  obtain ⟨s', e⟩ := law_true c hc ns hl hb
  refine ⟨[], [], [.rdl (ns.map D.int)], ⟨tabK_start hT hP, rfl, fun i j a h => (by simp at h), fun a l => (by cases l), fun n o h => (by simp at h)⟩, .cons ?_ .nil, rfl, ?_⟩
  · simp only [RelD]
    refine ⟨a, ns.map V.int, rfl, ?_, RelDs.ints ns⟩
    rcases hS with h | h
    · exact .inr ⟨h, fun z => by cases z⟩
    · exact .inl h
  · rw [e]
    exact fun mu' H' v _ _ r => rel_bl.mp r
@[elab_as_elim] theorem l2c1 {α : Type} {P : List α → Prop} (us : List α) (hl : us.length = 1) (h : ∀ a0, P [a0]) : P us := match us, hl with | [a0], _ => h a0
@[elab_as_elim] theorem l2c2 {α : Type} {P : List α → Prop} (us : List α) (hl : us.length = 2) (h : ∀ a0 a1, P [a0, a1]) : P us := match us, hl with | [a0, a1], _ => h a0 a1
@[elab_as_elim] theorem l2c3 {α : Type} {P : List α → Prop} (us : List α) (hl : us.length = 3) (h : ∀ a0 a1 a2, P [a0, a1, a2]) : P us := match us, hl with | [a0, a1, a2], _ => h a0 a1 a2
@[elab_as_elim] theorem l2c4 {α : Type} {P : List α → Prop} (us : List α) (hl : us.length = 4) (h : ∀ a0 a1 a2 a3, P [a0, a1, a2, a3]) : P us := match us, hl with | [a0, a1, a2, a3], _ => h a0 a1 a2 a3
@[elab_as_elim] theorem l2c5 {α : Type} {P : List α → Prop} (us : List α) (hl : us.length = 5) (h : ∀ a0 a1 a2 a3 a4, P [a0, a1, a2, a3, a4]) : P us := match us, hl with | [a0, a1, a2, a3, a4], _ => h a0 a1 a2 a3 a4
@[elab_as_elim] theorem l2c6 {α : Type} {P : List α → Prop} (us : List α) (hl : us.length = 6) (h : ∀ a0 a1 a2 a3 a4 a5, P [a0, a1, a2, a3, a4, a5]) : P us := match us, hl with | [a0, a1, a2, a3, a4, a5], _ => h a0 a1 a2 a3 a4 a5
@[elab_as_elim] theorem l2c7 {α : Type} {P : List α → Prop} (us : List α) (hl : us.length = 7) (h : ∀ a0 a1 a2 a3 a4 a5 a6, P [a0, a1, a2, a3, a4, a5, a6]) : P us := match us, hl with | [a0, a1, a2, a3, a4, a5, a6], _ => h a0 a1 a2 a3 a4 a5 a6
@[elab_as_elim] theorem l2c8 {α : Type} {P : List α → Prop} (us : List α) (hl : us.length = 8) (h : ∀ a0 a1 a2 a3 a4 a5 a6 a7, P [a0, a1, a2, a3, a4, a5, a6, a7]) : P us := match us, hl with | [a0, a1, a2, a3, a4, a5, a6, a7], _ => h a0 a1 a2 a3 a4 a5 a6 a7
@[elab_as_elim] theorem l2c9 {α : Type} {P : List α → Prop} (us : List α) (hl : us.length = 9) (h : ∀ a0 a1 a2 a3 a4 a5 a6 a7 a8, P [a0, a1, a2, a3, a4, a5, a6, a7, a8]) : P us := match us, hl with | [a0, a1, a2, a3, a4, a5, a6, a7, a8], _ => h a0 a1 a2 a3 a4 a5 a6 a7 a8
@[elab_as_elim] theorem l2c10 {α : Type} {P : List α → Prop} (us : List α) (hl : us.length = 10) (h : ∀ a0 a1 a2 a3 a4 a5 a6 a7 a8 a9, P [a0, a1, a2, a3, a4, a5, a6, a7, a8, a9]) : P us := match us, hl with | [a0, a1, a2, a3, a4, a5, a6, a7, a8, a9], _ => h a0 a1 a2 a3 a4 a5 a6 a7 a8 a9
@[elab_as_elim] theorem l2c11 {α : Type} {P : List α → Prop} (us : List α) (hl : us.length = 11) (h : ∀ a0 a1 a2 a3 a4 a5 a6 a7 a8 a9 a10, P [a0, a1, a2, a3, a4, a5, a6, a7, a8, a9, a10]) : P us := match us, hl with | [a0, a1, a2, a3, a4, a5, a6, a7, a8, a9, a10], _ => h a0 a1 a2 a3 a4 a5 a6 a7 a8 a9 a10
@[elab_as_elim] theorem l2c12 {α : Type} {P : List α → Prop} (us : List α) (hl : us.length = 12) (h : ∀ a0 a1 a2 a3 a4 a5 a6 a7 a8 a9 a10 a11, P [a0, a1, a2, a3, a4, a5, a6, a7, a8, a9, a10, a11]) : P us := match us, hl with | [a0, a1, a2, a3, a4, a5, a6, a7, a8, a9, a10, a11], _ => h a0 a1 a2 a3 a4 a5 a6 a7 a8 a9 a10 a11
theorem all_mk {l : PySem.W.OpenLaw} {w : World} {K : PySem.W.Frag} {h : Heap} {mg : Str → Option Value} {fa : Addr} (X : K.In h) (G : h.Ns mainGlobals mg) (hfa : mg "law" = some (.ref fa))
    {f0 : Addr} {od0 an0 : Option Addr} {sl0 : Array (Option Value)} {oc0 kV0 dc0 pm0 cd0 ct0 : Value}
    {f1 : Addr} {od1 an1 : Option Addr} {sl1 : Array (Option Value)} {oc1 kV1 dc1 pm1 cd1 ct1 : Value}
    {f2 : Addr} {od2 an2 : Option Addr} {sl2 : Array (Option Value)} {oc2 kV2 dc2 pm2 cd2 ct2 : Value}
    {f3 : Addr} {od3 an3 : Option Addr} {sl3 : Array (Option Value)} {oc3 kV3 dc3 pm3 cd3 ct3 : Value}
    {f4 : Addr} {od4 an4 : Option Addr} {sl4 : Array (Option Value)} {oc4 kV4 dc4 pm4 cd4 ct4 : Value}
    {f5 : Addr} {od5 an5 : Option Addr} {sl5 : Array (Option Value)} {oc5 kV5 dc5 pm5 cd5 ct5 : Value}
    {f6 : Addr} {od6 an6 : Option Addr} {sl6 : Array (Option Value)} {oc6 kV6 dc6 pm6  ct6 : Value}
    {f7 : Addr} {od7 an7 : Option Addr} {sl7 : Array (Option Value)} {oc7 kV7 dc7 pm7 cd7 ct7 : Value}
    {f8 : Addr} {od8 an8 : Option Addr} {sl8 : Array (Option Value)} {oc8 kV8 dc8 pm8 cd8 ct8 : Value}
    {f9 : Addr} {od9 an9 : Option Addr} {sl9 : Array (Option Value)} {oc9 kV9 dc9 pm9 cd9 ct9 : Value}
    {f10 : Addr} {od10 an10 : Option Addr} {sl10 : Array (Option Value)} {oc10 kV10 dc10 pm10 cd10 ct10 : Value}
    {f11 : Addr} {od11 an11 : Option Addr} {sl11 : Array (Option Value)} {oc11 kV11 dc11 pm11 cd11 ct11 : Value}
    {f12 : Addr} {od12 an12 : Option Addr} {sl12 : Array (Option Value)} {oc12 kV12 dc12 pm12 cd12 ct12 : Value}
    {f13 : Addr} {od13 an13 : Option Addr} {sl13 : Array (Option Value)} {oc13 kV13 dc13 pm13 cd13 ct13 : Value}
    {f14 : Addr} {od14 an14 : Option Addr} {sl14 : Array (Option Value)} {oc14 kV14 dc14 pm14 cd14 ct14 : Value}
    {f15 : Addr} {od15 an15 : Option Addr} {sl15 : Array (Option Value)} {oc15 kV15 dc15 pm15 cd15 ct15 : Value}
    {f16 : Addr} {od16 an16 : Option Addr} {sl16 : Array (Option Value)} {oc16 kV16 dc16 pm16 cd16 ct16 : Value}
    {f17 : Addr} {od17 an17 : Option Addr} {sl17 : Array (Option Value)} {oc17 kV17 dc17 pm17 cd17 ct17 : Value}
    {f18 : Addr} {od18 an18 : Option Addr} {sl18 : Array (Option Value)} {oc18 kV18 dc18 pm18 cd18 ct18 : Value}
    {f19 : Addr} {od19 an19 : Option Addr} {sl19 : Array (Option Value)} {oc19 kV19 dc19 pm19 cd19 ct19 : Value}
    {CInvalidCount : Addr}
    {CTellError : Addr}
    {tk_FINE : Tok}
    {tk_MOST_HANDS : Tok}
    {lc_crossings lp_crossings : Addr} {lo_crossings : Value} {ld_crossings : Option Addr} {lv_crossings : Array Value} {ls_crossings : Array (Option Value)} {lt_crossings : Tok}
    (gInvalidCount : PySem.W.nsIn K mainGlobals "InvalidCount" = some (some (.ref CInvalidCount)))
    (gTellError : PySem.W.nsIn K mainGlobals "TellError" = some (some (.ref CTellError)))
    (a0 : PySem.W.nsIn K mainGlobals "is_integer" = some (some (.ref f0)))
    (l0 : K.lookup f0 = some ⟨oc0, od0, .func (PySem.W.fnOf "is_integer" "is_integer" (defArgs s_is_integer) (defBody s_is_integer) (defScope s_is_integer) .none kV0 dc0 pm0 an0 cd0 ct0), sl0⟩)
    (c0 : PySem.W.codeIn K cd0 "is_integer" = true)
    (k0 : PySem.W.keepIn K (.ref f0) = true)
    (a1 : PySem.W.nsIn K mainGlobals "between" = some (some (.ref f1)))
    (l1 : K.lookup f1 = some ⟨oc1, od1, .func (PySem.W.fnOf "between" "between" (defArgs s_between) (defBody s_between) (defScope s_between) .none kV1 dc1 pm1 an1 cd1 ct1), sl1⟩)
    (c1 : PySem.W.codeIn K cd1 "between" = true)
    (k1 : PySem.W.keepIn K (.ref f1) = true)
    (a2 : PySem.W.nsIn K mainGlobals "checked_count" = some (some (.ref f2)))
    (l2 : K.lookup f2 = some ⟨oc2, od2, .func (PySem.W.fnOf "checked_count" "checked_count" (defArgs s_checked_count) (defBody s_checked_count) (defScope s_checked_count) .none kV2 dc2 pm2 an2 cd2 ct2), sl2⟩)
    (c2 : PySem.W.codeIn K cd2 "checked_count" = true)
    (k2 : PySem.W.keepIn K (.ref f2) = true)
    (a3 : PySem.W.nsIn K mainGlobals "names_of_pair" = some (some (.ref f3)))
    (l3 : K.lookup f3 = some ⟨oc3, od3, .func (PySem.W.fnOf "names_of_pair" "names_of_pair" (defArgs s_names_of_pair) (defBody s_names_of_pair) (defScope s_names_of_pair) .none kV3 dc3 pm3 an3 cd3 ct3), sl3⟩)
    (c3 : PySem.W.codeIn K cd3 "names_of_pair" = true)
    (k3 : PySem.W.keepIn K (.ref f3) = true)
    (a4 : PySem.W.nsIn K mainGlobals "pair_at" = some (some (.ref f4)))
    (l4 : K.lookup f4 = some ⟨oc4, od4, .func (PySem.W.fnOf "pair_at" "pair_at" (defArgs s_pair_at) (defBody s_pair_at) (defScope s_pair_at) .none kV4 dc4 pm4 an4 cd4 ct4), sl4⟩)
    (c4 : PySem.W.codeIn K cd4 "pair_at" = true)
    (k4 : PySem.W.keepIn K (.ref f4) = true)
    (a5 : PySem.W.nsIn K mainGlobals "common_divisor" = some (some (.ref f5)))
    (l5 : K.lookup f5 = some ⟨oc5, od5, .func (PySem.W.fnOf "common_divisor" "common_divisor" (defArgs s_common_divisor) (defBody s_common_divisor) (defScope s_common_divisor) .none kV5 dc5 pm5 an5 cd5 ct5), sl5⟩)
    (c5 : PySem.W.codeIn K cd5 "common_divisor" = true)
    (k5 : PySem.W.keepIn K (.ref f5) = true)
    (a6 : PySem.W.nsIn K mainGlobals "crossings" = some (some (.ref f6)))
    (l6 : K.lookup f6 = some ⟨oc6, od6, .func (PySem.W.fnOf "crossings" "crossings" (defArgs s_crossings) (defBody s_crossings) (defScope s_crossings) .none kV6 dc6 pm6 an6 (.ref lc_crossings) ct6), sl6⟩)
    (c6 : PySem.W.codeIn K (.ref lc_crossings) "crossings" = true)
    (lk_crossings : K.lookup lc_crossings = some ⟨lo_crossings, ld_crossings, .fields lv_crossings, ls_crossings⟩)
    (lx1_crossings : lv_crossings[1]? = some (.str "crossings" lt_crossings))
    (lx2_crossings : lv_crossings[11]? = some (.ref lp_crossings))
    (nxh_crossings : PySem.W.codeHdIn K lc_crossings lp_crossings = true)
    (nxu2_crossings : tabU K lp_crossings "crossings" = true)
    (nxn_crossings : K.lookup lp_crossings = none)
    (le_crossings : h.get? lp_crossings = some { cls := .none, data := .fields #[] })
    (k6 : PySem.W.keepIn K (.ref f6) = true)
    (a7 : PySem.W.nsIn K mainGlobals "between_ratios" = some (some (.ref f7)))
    (l7 : K.lookup f7 = some ⟨oc7, od7, .func (PySem.W.fnOf "between_ratios" "between_ratios" (defArgs s_between_ratios) (defBody s_between_ratios) (defScope s_between_ratios) .none kV7 dc7 pm7 an7 cd7 ct7), sl7⟩)
    (c7 : PySem.W.codeIn K cd7 "between_ratios" = true)
    (k7 : PySem.W.keepIn K (.ref f7) = true)
    (a8 : PySem.W.nsIn K mainGlobals "checked_bands" = some (some (.ref f8)))
    (l8 : K.lookup f8 = some ⟨oc8, od8, .func (PySem.W.fnOf "checked_bands" "checked_bands" (defArgs s_checked_bands) (defBody s_checked_bands) (defScope s_checked_bands) .none kV8 dc8 pm8 an8 cd8 ct8), sl8⟩)
    (c8 : PySem.W.codeIn K cd8 "checked_bands" = true)
    (k8 : PySem.W.keepIn K (.ref f8) = true)
    (a9 : PySem.W.nsIn K mainGlobals "bands" = some (some (.ref f9)))
    (l9 : K.lookup f9 = some ⟨oc9, od9, .func (PySem.W.fnOf "bands" "bands" (defArgs s_bands) (defBody s_bands) (defScope s_bands) .none kV9 dc9 pm9 an9 cd9 ct9), sl9⟩)
    (c9 : PySem.W.codeIn K cd9 "bands" = true)
    (k9 : PySem.W.keepIn K (.ref f9) = true)
    (a10 : PySem.W.nsIn K mainGlobals "_law_source" = some (some (.ref f10)))
    (l10 : K.lookup f10 = some ⟨oc10, od10, .func (PySem.W.fnOf "_law_source" "_law_source" (defArgs s__law_source) (defBody s__law_source) (defScope s__law_source) .none kV10 dc10 pm10 an10 cd10 ct10), sl10⟩)
    (c10 : PySem.W.codeIn K cd10 "_law_source" = true)
    (k10 : PySem.W.keepIn K (.ref f10) = true)
    (a11 : PySem.W.nsIn K mainGlobals "_law_draw" = some (some (.ref f11)))
    (l11 : K.lookup f11 = some ⟨oc11, od11, .func (PySem.W.fnOf "_law_draw" "_law_draw" (defArgs s__law_draw) (defBody s__law_draw) (defScope s__law_draw) .none kV11 dc11 pm11 an11 cd11 ct11), sl11⟩)
    (c11 : PySem.W.codeIn K cd11 "_law_draw" = true)
    (k11 : PySem.W.keepIn K (.ref f11) = true)
    (a12 : PySem.W.nsIn K mainGlobals "_law_integer" = some (some (.ref f12)))
    (l12 : K.lookup f12 = some ⟨oc12, od12, .func (PySem.W.fnOf "_law_integer" "_law_integer" (defArgs s__law_integer) (defBody s__law_integer) (defScope s__law_integer) .none kV12 dc12 pm12 an12 cd12 ct12), sl12⟩)
    (c12 : PySem.W.codeIn K cd12 "_law_integer" = true)
    (k12 : PySem.W.keepIn K (.ref f12) = true)
    (a13 : PySem.W.nsIn K mainGlobals "_law_same" = some (some (.ref f13)))
    (l13 : K.lookup f13 = some ⟨oc13, od13, .func (PySem.W.fnOf "_law_same" "_law_same" (defArgs s__law_same) (defBody s__law_same) (defScope s__law_same) .none kV13 dc13 pm13 an13 cd13 ct13), sl13⟩)
    (c13 : PySem.W.codeIn K cd13 "_law_same" = true)
    (k13 : PySem.W.keepIn K (.ref f13) = true)
    (a14 : PySem.W.nsIn K mainGlobals "_law_divisor" = some (some (.ref f14)))
    (l14 : K.lookup f14 = some ⟨oc14, od14, .func (PySem.W.fnOf "_law_divisor" "_law_divisor" (defArgs s__law_divisor) (defBody s__law_divisor) (defScope s__law_divisor) .none kV14 dc14 pm14 an14 cd14 ct14), sl14⟩)
    (c14 : PySem.W.codeIn K cd14 "_law_divisor" = true)
    (k14 : PySem.W.keepIn K (.ref f14) = true)
    (a15 : PySem.W.nsIn K mainGlobals "_law_ways" = some (some (.ref f15)))
    (l15 : K.lookup f15 = some ⟨oc15, od15, .func (PySem.W.fnOf "_law_ways" "_law_ways" (defArgs s__law_ways) (defBody s__law_ways) (defScope s__law_ways) .none kV15 dc15 pm15 an15 cd15 ct15), sl15⟩)
    (c15 : PySem.W.codeIn K cd15 "_law_ways" = true)
    (k15 : PySem.W.keepIn K (.ref f15) = true)
    (a16 : PySem.W.nsIn K mainGlobals "_law_pair" = some (some (.ref f16)))
    (l16 : K.lookup f16 = some ⟨oc16, od16, .func (PySem.W.fnOf "_law_pair" "_law_pair" (defArgs s__law_pair) (defBody s__law_pair) (defScope s__law_pair) .none kV16 dc16 pm16 an16 cd16 ct16), sl16⟩)
    (c16 : PySem.W.codeIn K cd16 "_law_pair" = true)
    (k16 : PySem.W.keepIn K (.ref f16) = true)
    (a17 : PySem.W.nsIn K mainGlobals "_law_ends" = some (some (.ref f17)))
    (l17 : K.lookup f17 = some ⟨oc17, od17, .func (PySem.W.fnOf "_law_ends" "_law_ends" (defArgs s__law_ends) (defBody s__law_ends) (defScope s__law_ends) .none kV17 dc17 pm17 an17 cd17 ct17), sl17⟩)
    (c17 : PySem.W.codeIn K cd17 "_law_ends" = true)
    (k17 : PySem.W.keepIn K (.ref f17) = true)
    (a18 : PySem.W.nsIn K mainGlobals "_law_bands" = some (some (.ref f18)))
    (l18 : K.lookup f18 = some ⟨oc18, od18, .func (PySem.W.fnOf "_law_bands" "_law_bands" (defArgs s__law_bands) (defBody s__law_bands) (defScope s__law_bands) .none kV18 dc18 pm18 an18 cd18 ct18), sl18⟩)
    (c18 : PySem.W.codeIn K cd18 "_law_bands" = true)
    (k18 : PySem.W.keepIn K (.ref f18) = true)
    (a19 : PySem.W.nsIn K mainGlobals "law" = some (some (.ref f19)))
    (l19 : K.lookup f19 = some ⟨oc19, od19, .func (PySem.W.fnOf "law" "law" (defArgs s_law) (defBody s_law) (defScope s_law) .none kV19 dc19 pm19 an19 cd19 ct19), sl19⟩)
    (c19 : PySem.W.codeIn K cd19 "law" = true)
    (k19 : PySem.W.keepIn K (.ref f19) = true)
    (n_abs : PySem.W.nsIn K mainGlobals "abs" = some none)
    (n_bool : PySem.W.nsIn K mainGlobals "bool" = some none)
    (n_int : PySem.W.nsIn K mainGlobals "int" = some none)
    (n_isinstance : PySem.W.nsIn K mainGlobals "isinstance" = some none)
    (n_len : PySem.W.nsIn K mainGlobals "len" = some none)
    (n_list : PySem.W.nsIn K mainGlobals "list" = some none)
    (n_min : PySem.W.nsIn K mainGlobals "min" = some none)
    (n_range : PySem.W.nsIn K mainGlobals "range" = some none)
    (n_sorted : PySem.W.nsIn K mainGlobals "sorted" = some none)
    (n_str : PySem.W.nsIn K mainGlobals "str" = some none)
    (n_tuple : PySem.W.nsIn K mainGlobals "tuple" = some none)
    (cc_FINE : PySem.W.nsIn K mainGlobals "FINE" = some (some (.int 10000 tk_FINE)))
    (cc_MOST_HANDS : PySem.W.nsIn K mainGlobals "MOST_HANDS" = some (some (.int 20 tk_MOST_HANDS)))
    (nxdInvalidCount : PySem.W.hasDictIn K CInvalidCount = true)
    (nxuInvalidCount : PySem.W.subIn K (.ref CInvalidCount) (.type "BaseException") = some true)
    (nxtInvalidCount : PySem.W.typeIn K (.ref CInvalidCount) = some (.type "type"))
    (nxkInvalidCount : PySem.W.keepIn K (.ref CInvalidCount) = true)
    (nxeInvalidCount : PySem.W.excIn K CInvalidCount exTail "Exception.__new__" = true)
    (nxz : tabsIn K [lp_crossings] = true) :
    LamX.LawAtS l w K (L2.CX l.prog w) 27 63 "_law_script" mg fa h := by
  have e := hfa.symm.trans (PySem.W.mg_of X G a19)
  cases e
  have F0 := fun_mk (st := s_is_integer) l0 c0 k0
  have b0 := F0.binds (ps := ["thing"]) fun _ _ _ _ _ _ us hl => l2c1 us hl fun _ => rfl
  have F1 := fun_mk (st := s_between) l1 c1 k1
  have b1 := F1.binds (ps := ["thing", "low", "high"]) fun _ _ _ _ _ _ us hl => l2c3 us hl fun _ _ _ => rfl
  have F2 := fun_mk (st := s_checked_count) l2 c2 k2
  have b2 := F2.binds (ps := ["n", "low", "high"]) fun _ _ _ _ _ _ us hl => l2c3 us hl fun _ _ _ => rfl
  have F3 := fun_mk (st := s_names_of_pair) l3 c3 k3
  have b3 := F3.binds (ps := ["turns", "total"]) fun _ _ _ _ _ _ us hl => l2c2 us hl fun _ _ => rfl
  have F4 := fun_mk (st := s_pair_at) l4 c4 k4
  have b4 := F4.binds (ps := ["n", "letter", "gap"]) fun _ _ _ _ _ _ us hl => l2c3 us hl fun _ _ _ => rfl
  have F5 := fun_mk (st := s_common_divisor) l5 c5 k5
  have b5 := F5.binds (ps := ["a", "b"]) fun _ _ _ _ _ _ us hl => l2c2 us hl fun _ _ => rfl
  have F6 := fun_mk (st := s_crossings) l6 c6 k6
  have b6 := F6.binds (ps := ["n"]) fun _ _ _ _ _ _ us hl => l2c1 us hl fun _ => rfl
  have F7 := fun_mk (st := s_between_ratios) l7 c7 k7
  have b7 := F7.binds (ps := ["low", "high"]) fun _ _ _ _ _ _ us hl => l2c2 us hl fun _ _ => rfl
  have F8 := fun_mk (st := s_checked_bands) l8 c8 k8
  have b8 := F8.binds (ps := ["n"]) fun _ _ _ _ _ _ us hl => l2c1 us hl fun _ => rfl
  have F9 := fun_mk (st := s_bands) l9 c9 k9
  have b9 := F9.binds (ps := ["n"]) fun _ _ _ _ _ _ us hl => l2c1 us hl fun _ => rfl
  have F10 := fun_mk (st := s__law_source) l10 c10 k10
  have b10 := F10.binds (ps := ["_law_script"]) fun _ _ _ _ _ _ us hl => l2c1 us hl fun _ => rfl
  have F11 := fun_mk (st := s__law_draw) l11 c11 k11
  have b11 := F11.binds (ps := ["_law_source_here", "_law_limit"]) fun _ _ _ _ _ _ us hl => l2c2 us hl fun _ _ => rfl
  have F12 := fun_mk (st := s__law_integer) l12 c12 k12
  have b12 := F12.binds (ps := ["_law_thing"]) fun _ _ _ _ _ _ us hl => l2c1 us hl fun _ => rfl
  have F13 := fun_mk (st := s__law_same) l13 c13 k13
  have b13 := F13.binds (ps := ["_law_told", "_law_due"]) fun _ _ _ _ _ _ us hl => l2c2 us hl fun _ _ => rfl
  have F14 := fun_mk (st := s__law_divisor) l14 c14 k14
  have b14 := F14.binds (ps := ["_law_a", "_law_b"]) fun _ _ _ _ _ _ us hl => l2c2 us hl fun _ _ => rfl
  have F15 := fun_mk (st := s__law_ways) l15 c15 k15
  have b15 := F15.binds (ps := ["_law_turns", "_law_total"]) fun _ _ _ _ _ _ us hl => l2c2 us hl fun _ _ => rfl
  have F16 := fun_mk (st := s__law_pair) l16 c16 k16
  have b16 := F16.binds (ps := ["_law_n", "_law_ratio"]) fun _ _ _ _ _ _ us hl => l2c2 us hl fun _ _ => rfl
  have F17 := fun_mk (st := s__law_ends) l17 c17 k17
  have b17 := F17.binds (ps := ["_law_n"]) fun _ _ _ _ _ _ us hl => l2c1 us hl fun _ => rfl
  have F18 := fun_mk (st := s__law_bands) l18 c18 k18
  have b18 := F18.binds (ps := ["_law_n"]) fun _ _ _ _ _ _ us hl => l2c1 us hl fun _ => rfl
  have F19 := fun_mk (st := s_law) l19 c19 k19
  have b19 := F19.binds (ps := ["_law_script"]) fun _ _ _ _ _ _ us hl => l2c1 us hl fun _ => rfl
  have TT : ∀ base : Heap, (∀ p ∈ [(lc_crossings, lp_crossings)], LamX.TabB base mg p.1 p.2) → Txt K base mg ⟨0, 0, 0, CTellError, 0, CInvalidCount, 0, 0, 0, 0, 0, 0, 0, 0, 0, 0, []⟩ ⟨f0, PySem.W.fnOf "is_integer" "is_integer" (defArgs s_is_integer) (defBody s_is_integer) (defScope s_is_integer) .none kV0 dc0 pm0 an0 cd0 ct0, f1, PySem.W.fnOf "between" "between" (defArgs s_between) (defBody s_between) (defScope s_between) .none kV1 dc1 pm1 an1 cd1 ct1, f2, PySem.W.fnOf "checked_count" "checked_count" (defArgs s_checked_count) (defBody s_checked_count) (defScope s_checked_count) .none kV2 dc2 pm2 an2 cd2 ct2, f3, PySem.W.fnOf "names_of_pair" "names_of_pair" (defArgs s_names_of_pair) (defBody s_names_of_pair) (defScope s_names_of_pair) .none kV3 dc3 pm3 an3 cd3 ct3, f4, PySem.W.fnOf "pair_at" "pair_at" (defArgs s_pair_at) (defBody s_pair_at) (defScope s_pair_at) .none kV4 dc4 pm4 an4 cd4 ct4, f5, PySem.W.fnOf "common_divisor" "common_divisor" (defArgs s_common_divisor) (defBody s_common_divisor) (defScope s_common_divisor) .none kV5 dc5 pm5 an5 cd5 ct5, f6, PySem.W.fnOf "crossings" "crossings" (defArgs s_crossings) (defBody s_crossings) (defScope s_crossings) .none kV6 dc6 pm6 an6 (.ref lc_crossings) ct6, f7, PySem.W.fnOf "between_ratios" "between_ratios" (defArgs s_between_ratios) (defBody s_between_ratios) (defScope s_between_ratios) .none kV7 dc7 pm7 an7 cd7 ct7, f8, PySem.W.fnOf "checked_bands" "checked_bands" (defArgs s_checked_bands) (defBody s_checked_bands) (defScope s_checked_bands) .none kV8 dc8 pm8 an8 cd8 ct8, f9, PySem.W.fnOf "bands" "bands" (defArgs s_bands) (defBody s_bands) (defScope s_bands) .none kV9 dc9 pm9 an9 cd9 ct9, f10, PySem.W.fnOf "_law_source" "_law_source" (defArgs s__law_source) (defBody s__law_source) (defScope s__law_source) .none kV10 dc10 pm10 an10 cd10 ct10, f11, PySem.W.fnOf "_law_draw" "_law_draw" (defArgs s__law_draw) (defBody s__law_draw) (defScope s__law_draw) .none kV11 dc11 pm11 an11 cd11 ct11, f12, PySem.W.fnOf "_law_integer" "_law_integer" (defArgs s__law_integer) (defBody s__law_integer) (defScope s__law_integer) .none kV12 dc12 pm12 an12 cd12 ct12, f13, PySem.W.fnOf "_law_same" "_law_same" (defArgs s__law_same) (defBody s__law_same) (defScope s__law_same) .none kV13 dc13 pm13 an13 cd13 ct13, f14, PySem.W.fnOf "_law_divisor" "_law_divisor" (defArgs s__law_divisor) (defBody s__law_divisor) (defScope s__law_divisor) .none kV14 dc14 pm14 an14 cd14 ct14, f15, PySem.W.fnOf "_law_ways" "_law_ways" (defArgs s__law_ways) (defBody s__law_ways) (defScope s__law_ways) .none kV15 dc15 pm15 an15 cd15 ct15, f16, PySem.W.fnOf "_law_pair" "_law_pair" (defArgs s__law_pair) (defBody s__law_pair) (defScope s__law_pair) .none kV16 dc16 pm16 an16 cd16 ct16, f17, PySem.W.fnOf "_law_ends" "_law_ends" (defArgs s__law_ends) (defBody s__law_ends) (defScope s__law_ends) .none kV17 dc17 pm17 an17 cd17 ct17, f18, PySem.W.fnOf "_law_bands" "_law_bands" (defArgs s__law_bands) (defBody s__law_bands) (defScope s__law_bands) .none kV18 dc18 pm18 an18 cd18 ct18, fa, PySem.W.fnOf "law" "law" (defArgs s_law) (defBody s_law) (defScope s_law) .none kV19 dc19 pm19 an19 cd19 ct19, tk_FINE, tk_MOST_HANDS, lc_crossings, lp_crossings⟩ := fun base hTB => {
      F_is_integer := F0
      b_is_integer := b0
      g_is_integer := PySem.W.mg_of X G a0
      F_between := F1
      b_between := b1
      g_between := PySem.W.mg_of X G a1
      F_checked_count := F2
      b_checked_count := b2
      g_checked_count := PySem.W.mg_of X G a2
      F_names_of_pair := F3
      b_names_of_pair := b3
      g_names_of_pair := PySem.W.mg_of X G a3
      F_pair_at := F4
      b_pair_at := b4
      g_pair_at := PySem.W.mg_of X G a4
      F_common_divisor := F5
      b_common_divisor := b5
      g_common_divisor := PySem.W.mg_of X G a5
      F_crossings := F6
      b_crossings := b6
      g_crossings := PySem.W.mg_of X G a6
      F_between_ratios := F7
      b_between_ratios := b7
      g_between_ratios := PySem.W.mg_of X G a7
      F_checked_bands := F8
      b_checked_bands := b8
      g_checked_bands := PySem.W.mg_of X G a8
      F_bands := F9
      b_bands := b9
      g_bands := PySem.W.mg_of X G a9
      F__law_source := F10
      b__law_source := b10
      g__law_source := PySem.W.mg_of X G a10
      F__law_draw := F11
      b__law_draw := b11
      g__law_draw := PySem.W.mg_of X G a11
      F__law_integer := F12
      b__law_integer := b12
      g__law_integer := PySem.W.mg_of X G a12
      F__law_same := F13
      b__law_same := b13
      g__law_same := PySem.W.mg_of X G a13
      F__law_divisor := F14
      b__law_divisor := b14
      g__law_divisor := PySem.W.mg_of X G a14
      F__law_ways := F15
      b__law_ways := b15
      g__law_ways := PySem.W.mg_of X G a15
      F__law_pair := F16
      b__law_pair := b16
      g__law_pair := PySem.W.mg_of X G a16
      F__law_ends := F17
      b__law_ends := b17
      g__law_ends := PySem.W.mg_of X G a17
      F__law_bands := F18
      b__law_bands := b18
      g__law_bands := PySem.W.mg_of X G a18
      F_law := F19
      b_law := b19
      g_law := PySem.W.mg_of X G a19
      n_abs := PySem.W.mg_none_of X G n_abs
      n_bool := PySem.W.mg_none_of X G n_bool
      n_int := PySem.W.mg_none_of X G n_int
      n_isinstance := PySem.W.mg_none_of X G n_isinstance
      n_len := PySem.W.mg_none_of X G n_len
      n_list := PySem.W.mg_none_of X G n_list
      n_min := PySem.W.mg_none_of X G n_min
      n_range := PySem.W.mg_none_of X G n_range
      n_sorted := PySem.W.mg_none_of X G n_sorted
      n_str := PySem.W.mg_none_of X G n_str
      n_tuple := PySem.W.mg_none_of X G n_tuple
      c_FINE := PySem.W.mg_of X G cc_FINE
      c_MOST_HANDS := PySem.W.mg_of X G cc_MOST_HANDS
      g_InvalidCount := PySem.W.mg_of X G gInvalidCount
      x0_InvalidCount := ⟨nxeInvalidCount, nxuInvalidCount, nxtInvalidCount, nxkInvalidCount⟩
      lam_crossings := ⟨hTB (lc_crossings, lp_crossings) (List.mem_cons_self), ⟨_, lv_crossings, lt_crossings, lk_crossings, rfl, lx1_crossings, lx2_crossings⟩, by decide, nxu2_crossings⟩
      cd_crossings := rfl
      its := fun C hC => by cases hC }
  refine ⟨_, [(lc_crossings, lp_crossings)], spLaw K, fun p hp => by
    simp only [List.mem_cons, List.not_mem_nil, or_false] at hp
    subst hp
    exact le_crossings, fun p hp => by
    simp only [List.mem_cons, List.not_mem_nil, or_false] at hp
    subst hp
    exact nxn_crossings, fun p hp => by
    simp only [List.mem_cons, List.not_mem_nil, or_false] at hp
    subst hp
    exact PySem.W.codeHd_of_K X nxh_crossings, fun s v => .of_eq rfl, fun H a ns hl hb hP hS => law_start nxz (fun p hp => by
    simp only [List.mem_cons, List.not_mem_nil, or_false] at hp
    · rw [hp]
      exact ⟨hP (lc_crossings, lp_crossings) (List.mem_cons_self), fun z => by cases z⟩) hl hb hS, fun base _ _ hTB => FnOk.imp (ok_law (TT base hTB)) fun vs H Q E hq => hq _ (by exact rfl)⟩
end Lw
namespace Lw
open PySem PySem.Spec PyProof.Rows L2 SI
theorem head_end {w : World} {K : PySem.W.Frag} {h : Heap} {mg : Str → Option Value} {fa : Addr} (c : Hd.Says dat K h) (G : h.Ns mainGlobals mg) (hmg : mg "law" = some (.ref fa)) : LamX.LawAtS PySem.Challenge.rw_tellontree_k61_bands_by_all_crossings w K (L2.CX (PySem.Challenge.rw_tellontree_k61_bands_by_all_crossings).prog w) 27 63 "_law_script" mg fa h := by
  have c0 : Hd.SaysL (chk0 K) := ⟨c.b 0⟩
  have c1 : Hd.SaysL (chk1 K) := ⟨c.b 1⟩
  have c2 : Hd.SaysL (chk2 K) := ⟨c.b 2⟩
  have c3 : Hd.SaysL (chk3 K) := ⟨c.b 3⟩
  obtain ⟨oc0, od0, sl0, dc0, pm0, an0, ct0, l0⟩ := c.f 0 (d := dk0) rfl
  obtain ⟨oc1, od1, sl1, dc1, pm1, an1, ct1, l1⟩ := c.f 1 (d := dk1) rfl
  obtain ⟨oc2, od2, sl2, dc2, pm2, an2, ct2, l2⟩ := c.f 2 (d := dk2) rfl
  obtain ⟨oc3, od3, sl3, dc3, pm3, an3, ct3, l3⟩ := c.f 3 (d := dk3) rfl
  obtain ⟨oc4, od4, sl4, dc4, pm4, an4, ct4, l4⟩ := c.f 4 (d := dk4) rfl
  obtain ⟨oc5, od5, sl5, dc5, pm5, an5, ct5, l5⟩ := c.f 5 (d := dk5) rfl
  obtain ⟨oc6, od6, sl6, dc6, pm6, an6, ct6, l6⟩ := c.f 6 (d := dk6) rfl
  rw [show Hd.cdV K ((dk6).at_ K) = .ref (zlc_crossings K) from c0.e 21] at l6
  obtain ⟨lo_crossings, ld_crossings, lv_crossings, ls_crossings, lt_crossings, lk_crossings, lx1_crossings, lx2_crossings⟩ := Hd.isCd_ok (c0.b 23 (b := Hd.isCd K (zlc_crossings K) (zlp_crossings K) "crossings"))
  obtain ⟨oc7, od7, sl7, dc7, pm7, an7, ct7, l7⟩ := c.f 7 (d := dk7) rfl
  obtain ⟨oc8, od8, sl8, dc8, pm8, an8, ct8, l8⟩ := c.f 8 (d := dk8) rfl
  obtain ⟨oc9, od9, sl9, dc9, pm9, an9, ct9, l9⟩ := c.f 9 (d := dk9) rfl
  obtain ⟨oc10, od10, sl10, dc10, pm10, an10, ct10, l10⟩ := c.f 10 (d := dk10) rfl
  obtain ⟨oc11, od11, sl11, dc11, pm11, an11, ct11, l11⟩ := c.f 11 (d := dk11) rfl
  obtain ⟨oc12, od12, sl12, dc12, pm12, an12, ct12, l12⟩ := c.f 12 (d := dk12) rfl
  obtain ⟨oc13, od13, sl13, dc13, pm13, an13, ct13, l13⟩ := c.f 13 (d := dk13) rfl
  obtain ⟨oc14, od14, sl14, dc14, pm14, an14, ct14, l14⟩ := c.f 14 (d := dk14) rfl
  obtain ⟨oc15, od15, sl15, dc15, pm15, an15, ct15, l15⟩ := c.f 15 (d := dk15) rfl
  obtain ⟨oc16, od16, sl16, dc16, pm16, an16, ct16, l16⟩ := c.f 16 (d := dk16) rfl
  obtain ⟨oc17, od17, sl17, dc17, pm17, an17, ct17, l17⟩ := c.f 17 (d := dk17) rfl
  obtain ⟨oc18, od18, sl18, dc18, pm18, an18, ct18, l18⟩ := c.f 18 (d := dk18) rfl
  obtain ⟨oc19, od19, sl19, dc19, pm19, an19, ct19, l19⟩ := c.f 19 (d := dk19) rfl
  exact all_mk c.inn G hmg
    (c0.e 0)
    (c0.e 1)
    (c0.e 2)
    (l0)
    (c0.b 3)
    (c0.b 4)
    (c0.e 5)
    (l1)
    (c0.b 6)
    (c0.b 7)
    (c0.e 8)
    (l2)
    (c0.b 9)
    (c0.b 10)
    (c0.e 11)
    (l3)
    (c0.b 12)
    (c0.b 13)
    (c0.e 14)
    (l4)
    (c0.b 15)
    (c0.b 16)
    (c0.e 17)
    (l5)
    (c0.b 18)
    (c0.b 19)
    (c0.e 20)
    (l6)
    (c0.b 22)
    (lk_crossings)
    (lx1_crossings)
    (lx2_crossings)
    (c0.b 24)
    (c1.b 0)
    (Option.isNone_iff_eq_none.mp (c1.b 1))
    (c.tab _ (by unfold dat; simp only [List.mem_cons, true_or, or_true]))
    (c1.b 2)
    (c1.e 3)
    (l7)
    (c1.b 4)
    (c1.b 5)
    (c1.e 6)
    (l8)
    (c1.b 7)
    (c1.b 8)
    (c1.e 9)
    (l9)
    (c1.b 10)
    (c1.b 11)
    (c1.e 12)
    (l10)
    (c1.b 13)
    (c1.b 14)
    (c1.e 15)
    (l11)
    (c1.b 16)
    (c1.b 17)
    (c1.e 18)
    (l12)
    (c1.b 19)
    (c1.b 20)
    (c1.e 21)
    (l13)
    (c1.b 22)
    (c1.b 23)
    (c1.e 24)
    (l14)
    (c2.b 0)
    (c2.b 1)
    (c2.e 2)
    (l15)
    (c2.b 3)
    (c2.b 4)
    (c2.e 5)
    (l16)
    (c2.b 6)
    (c2.b 7)
    (c2.e 8)
    (l17)
    (c2.b 9)
    (c2.b 10)
    (c2.e 11)
    (l18)
    (c2.b 12)
    (c2.b 13)
    (c2.e 14)
    (l19)
    (c2.b 15)
    (c2.b 16)
    (c2.e 17)
    (c2.e 18)
    (c2.e 19)
    (c2.e 20)
    (c2.e 21)
    (c2.e 22)
    (c2.e 23)
    (c2.e 24)
    (c3.e 0)
    (c3.e 1)
    (c3.e 2)
    (c3.e 3)
    (c3.e 4)
    (c3.b 5)
    (c3.e 6)
    (c3.e 7)
    (c3.b 8)
    (c3.b 9)
    (c3.b 10)
end Lw
open PySem PySem.W PyProof.Rows
set_option maxHeartbeats 0 in
theorem PySem.Challenge.cw_tellontree_k61_bands_by_all_crossings_holds : PySem.Challenge.rw_tellontree_k61_bands_by_all_crossings.Holds := by
  w_on; o_law
  refine HandSHeadRun.head_any (r := OpenLaw.row PySem.Challenge.rw_tellontree_k61_bands_by_all_crossings) (q := view (OpenLaw.row PySem.Challenge.rw_tellontree_k61_bands_by_all_crossings).prog [27]) (H := Hd.hook 0 4000 Lw.dat) (ob := Hd.ob 0 4000 Lw.dat) (M := 40000) (loose := Lw.nmL) (d := HandSHeadRun.topDef (OpenLaw.row PySem.Challenge.rw_tellontree_k61_bands_by_all_crossings).prog 27) (kwd := []) (fun s => Hd.ob_eq s)
    (by kernel_rfl) (fun s => by kernel_rfl) Lw.head_run (by kernel_rfl) (by kernel_rfl) (by kernel_rfl) (by rfl) (by first | assumption | decide +kernel) (by decide +kernel) ⟨rfl, rfl, rfl, rfl, rfl, by decide +kernel⟩ ?hw ?hc
  case hw => w_witness2
  case hc =>
    refine LamX.walk_ofTsE (l := PySem.Challenge.rw_tellontree_k61_bands_by_all_crossings) (n := 63) (k := 27) (x := "_law_script") (CX := fun w => L2.CX (PySem.Challenge.rw_tellontree_k61_bands_by_all_crossings).prog w) rfl (by decide) (by kernel_rfl) ⟨rfl, by decide, by decide⟩ ?F (fun _ _ _ _ _ h => Lw.cx_none h)
    intro w mg fa h Y G hmg0
    obtain ⟨K, c⟩ := Y
    have hmg : mg ("law" : PySem.Str) = some (.ref fa) := by
      have e : (HandSHeadRun.topDef (OpenLaw.row PySem.Challenge.rw_tellontree_k61_bands_by_all_crossings).prog 27).name = ("law" : PySem.Str) := by kernel_rfl
      rw [← e]
      exact hmg0
    exact ⟨K, c.inn, Lw.head_end c G hmg⟩
