import PyProof.Rows.All
import Wide.All
import OpenK.AllK
import Wide.FinOn
import HandS.ForMost
import HandS.Exc
import HandS.WordsExc
import HandS.TryOnly
import HandS.Wide
import HandS.ExcValue
import HandS.Lambda
import HandS.ExcIs
import HandS.ExcInit
import HandS.IsInst
import HandS.ClsMeth
import HandS.TupAny
import HandS.TupLe
import HandS.OwnEq
import HandS.ExcField
import HandS.TryMany
import KE.KExcInit
import KE.KOpsOwn
import HandS.Iter
import KE.GoesMore
import PyProof.EnumMake
import HandS.Defaults
import KE.KTupSum
import HandS.NoneIn
import HandS.More
import HandS.SetFor
import KE.SortKeyHeap
import HandS.SortKw
import HandS.Head0
import HandS.Head1
import HandS.Head2
import HandS.HeadHook1
import HandS.HeadWalk
import KE.KNestM
import PySem.Challenge.RW_tellontree_k80_whole_sums_by_all_schedul
import HandS.SortInts
import HandS.Dict
import HandS.SetKeys
import HandS.Conv
import HandS.Style
import HandS.Deep
import KE.DataMinMax
import KE.DataFind
import HandS.GenList
import PyProof.MaxThree
import PyProof.SeqI3
import HandS.Star
import HandS.Text
import HandS.FStr
import HandS.StrMore
import HandS.RaiseMore
import KE.KUnpackStar
import HandS.DictComp
import HandS.EndBits
set_option Elab.async false
set_option linter.all false
set_option maxRecDepth 100000
set_option maxHeartbeats 8000000
/-! pure data, a store of tracked objects, and how they stand in the layer's heap -/
namespace SI
open PySem PySem.Spec PyProof.Rows L2

/-- pure data; ref n: the n-th tracked object -/
inductive D where
  | non | bl (b : Bool) | int (i : Int) | str (x : Str) | ty (n : String) | gl (a : Addr) | ref (n : Nat)
  | tup (xs : List D) | lst (xs : List D) | rdl (xs : List D)
  | dk (ks : List Key) (vs : List D) | dt (ks : List (List Int)) (vs : List D)
  | ins (C : Addr) (fs : List Str) (vs : List D)
  | exc (a C : Addr) (od : Option Addr) (fs : List Str) (vs : List D)
  | err (C : Addr)
  | erd (C : Addr) (fs : List Str) (vs : List D)
  | adr (a : Addr) (d : D)
/-- a tracked object -/
inductive O where
  | lst (xs : List D) | dk (ks : List Key) (vs : List D) | dt (ks : List (List Int)) (vs : List D)
  | ins (C : Addr) (fs : List Str) (vs : List D) | gone
mutual
def D.beq : D → D → Bool
  | .non, .non => true
  | .bl a, .bl b => a == b
  | .int a, .int b => a == b
  | .str a, .str b => decide (a = b)
  | .ty a, .ty b => a == b
  | .gl a, .gl b => a == b
  | .ref a, .ref b => a == b
  | .tup a, .tup b => D.beqs a b
  | .lst a, .lst b => D.beqs a b
  | .rdl a, .rdl b => D.beqs a b
  | .dk k a, .dk l b => decide (k = l) && D.beqs a b
  | .dt k a, .dt l b => decide (k = l) && D.beqs a b
  | .ins C k a, .ins E l b => decide (C = E) && (decide (k = l) && D.beqs a b)
  | .err C, .err E => decide (C = E)
  | .erd C k a, .erd E l b => decide (C = E) && (decide (k = l) && D.beqs a b)
  | .adr a x, .adr b y => decide (a = b) && D.beq x y
  | .exc x C o k a, .exc y E p l b => decide (x = y) && (decide (C = E) && (decide (o = p) && (decide (k = l) && D.beqs a b)))
  | _, _ => false
def D.beqs : List D → List D → Bool
  | [], [] => true
  | x :: xs, y :: ys => D.beq x y && D.beqs xs ys
  | _, _ => false
end
mutual
theorem D.beq_iff : ∀ a b : D, D.beq a b = true ↔ a = b
  | .non, b => by cases b <;> simp [D.beq]
  | .bl _, b => by cases b <;> simp [D.beq]
  | .int _, b => by cases b <;> simp [D.beq]
  | .str _, b => by cases b <;> simp [D.beq]
  | .ty _, b => by cases b <;> simp [D.beq]
  | .gl _, b => by cases b <;> simp [D.beq]
  | .ref _, b => by cases b <;> simp [D.beq]
  | .tup xs, b => by cases b <;> simp [D.beq, D.beqs_iff xs]
  | .lst xs, b => by cases b <;> simp [D.beq, D.beqs_iff xs]
  | .rdl xs, b => by cases b <;> simp [D.beq, D.beqs_iff xs]
  | .dk _ xs, b => by cases b <;> simp [D.beq, D.beqs_iff xs]
  | .dt _ xs, b => by cases b <;> simp [D.beq, D.beqs_iff xs]
  | .ins _ _ xs, b => by cases b <;> simp [D.beq, D.beqs_iff xs]
  | .exc _ _ _ _ xs, b => by cases b <;> simp [D.beq, D.beqs_iff xs]
  | .err _, b => by cases b <;> simp [D.beq]
  | .erd _ _ xs, b => by cases b <;> simp [D.beq, D.beqs_iff xs]
  | .adr _ x, b => by cases b <;> simp [D.beq, D.beq_iff x]
theorem D.beqs_iff : ∀ a b : List D, D.beqs a b = true ↔ a = b
  | [], b => by cases b <;> simp [D.beqs]
  | x :: xs, b => by cases b <;> simp [D.beqs, D.beq_iff x, D.beqs_iff xs]
end
instance : DecidableEq D := fun a b => decidable_of_iff _ (D.beq_iff a b)
def O.beq : O → O → Bool
  | .lst a, .lst b => D.beqs a b
  | .dk k a, .dk l b => decide (k = l) && D.beqs a b
  | .dt k a, .dt l b => decide (k = l) && D.beqs a b
  | .ins C k a, .ins E l b => decide (C = E) && (decide (k = l) && D.beqs a b)
  | .gone, .gone => true
  | _, _ => false
theorem O.beq_iff (a b : O) : O.beq a b = true ↔ a = b := by
  cases a <;> cases b <;> simp [O.beq, D.beqs_iff]
instance : DecidableEq O := fun a b => decidable_of_iff _ (O.beq_iff a b)
mutual
/-- every ref in it is below n -/
def D.bel (n : Nat) : D → Bool
  | .ref k => decide (k < n)
  | .tup xs => D.bels n xs
  | .lst xs => D.bels n xs
  | .rdl xs => D.bels n xs
  | .dk _ xs => D.bels n xs
  | .dt _ xs => D.bels n xs
  | .ins _ _ xs => D.bels n xs
  | .exc _ _ _ _ xs => D.bels n xs
  | .erd _ _ xs => D.bels n xs
  | .adr _ d => D.bel n d
  | _ => true
def D.bels (n : Nat) : List D → Bool
  | [] => true
  | x :: xs => D.bel n x && D.bels n xs
end
def O.bel (n : Nat) : O → Bool
  | .lst xs => D.bels n xs
  | .dk _ xs => D.bels n xs
  | .dt _ xs => D.bels n xs
  | .ins _ _ xs => D.bels n xs
  | .gone => true
abbrev S := List O
abbrev Mu := List (Option Addr)

/-- at a stands u, and a is not tracked -/
def Live (mu : Mu) (a : Addr) : Prop := some a ∈ mu
def Fix (mu : Mu) (H : Hp) (a : Addr) (u : HO) : Prop := H a = some u ∧ ¬ Live mu a
def FixR (mu : Mu) (H : Hp) (a : Addr) (u : HO) : Prop := Rd H a u ∧ ¬ Live mu a
def KTup (K : PySem.W.Frag) (a : Addr) (xs : List V) : Prop :=
  ∃ (o : Obj) (its : Array Value) (n : Nat), K.lookup a = some o ∧ o.cls = .type "tuple" ∧ o.data = .seq its n ∧ its.size ≤ sizeLine ∧ Vals xs its.toList
def KLst (K : PySem.W.Frag) (a : Addr) (xs : List V) : Prop :=
  ∃ (o : Obj) (its : Array Value) (n : Nat), K.lookup a = some o ∧ o.cls = .type "list" ∧ o.dict = none ∧ o.data = .seq its n ∧ its.size ≤ sizeLine ∧ Vals xs its.toList

/-- at b stands the tuple of ints k, a constant of the text or a made one -/
def KeyA (K : PySem.W.Frag) (mu : Mu) (H : Hp) (k : List Int) (b : Addr) : Prop := KTup K b (k.map V.int) ∨ Fix mu H b (.tup (k.map V.int))
def Keys (K : PySem.W.Frag) (mu : Mu) (H : Hp) (ks : List (List Int)) (bs : List Addr) : Prop := Paired (KeyA K mu H) ks bs
def xsOf (ks : List (List Int)) (bs : List Addr) (us : List Value) : List (List Int × Addr × Value) := ks.zip (bs.zip us)
/-- a dict at a: its keys are the tuples of ints ks, which stand at bs -/
def dtH (a : Addr) (ks : List (List Int)) (bs : List Addr) (vs : List V) : HO := .ext fun h => ∃ us, Vals vs us ∧ ks.length = bs.length ∧ ks.length = us.length ∧ ks.Nodup ∧ ks.length ≤ sizeLine ∧ (a == sysModules) = false ∧
  ∃ o es ep, h.get? a = some o ∧ o.ExactDict ∧ o.data = .dict es ep ∧ ∀ (P : Program) (w : World), es.toList = (xsOf ks bs us).map (entryOfKey (tupleKind (PySem.intKind P w)))

def tyNames : List String := ["NoneType", "bool", "int", "str", "list", "tuple", "dict"]
/-- an own exception class: what isinstance asks of it -/
structure ErrK (K : PySem.W.Frag) (C : Addr) : Prop where
  ex : ExcC K C
  ny : ∀ n ∈ tyNames, PySem.W.kitOne K (.ref C) (.type n) = some false
mutual
def RelD (K : PySem.W.Frag) (mu : Mu) (H : Hp) : D → V → Prop
  | .non, v => v = .non
  | .bl b, v => v = .bl b
  | .int i, v => v = .int i
  | .str x, v => v = .str x
  | .ty n, v => v = .ty n
  | .gl a, v => v = .ref a
  | .ref n, v => ∃ a, mu[n]? = some (some a) ∧ v = .ref a
  | .tup xs, v => ∃ a vs, v = .ref a ∧ (KTup K a vs ∨ Fix mu H a (.tup vs)) ∧ RelDs K mu H xs vs
  | .lst xs, v => ∃ a vs, v = .ref a ∧ Fix mu H a (.lst vs) ∧ RelDs K mu H xs vs
  | .rdl xs, v => ∃ a vs, v = .ref a ∧ (KLst K a vs ∨ FixR mu H a (.lst vs)) ∧ RelDs K mu H xs vs
  | .dk ks ds, v => ∃ a vs, v = .ref a ∧ Fix mu H a (.dK (ks.zip vs)) ∧ ks.length = vs.length ∧ RelDs K mu H ds vs
  | .dt ks ds, v => ∃ a bs vs, v = .ref a ∧ Fix mu H a (dtH a ks bs vs) ∧ Keys K mu H ks bs ∧ ks.length = vs.length ∧ RelDs K mu H ds vs
  | .ins C fs ds, v => ∃ a dx vs, v = .ref a ∧ H a = some (.ins C dx (fs.zip vs)) ∧ ¬ Live mu a ∧ fs.length = vs.length ∧ RelDs K mu H ds vs
  | .err C, v => ∃ a, v = .ref a ∧ Fix mu H a (ExO (.ref C) a) ∧ ErrK K C
  | .erd C fs ds, v => ∃ a dx vs, v = .ref a ∧ Fix mu H a (exo a C (some dx)) ∧ Fix mu H dx (exd dx (fs.zip vs)) ∧ ErrK K C ∧ fs.length = vs.length ∧ RelDs K mu H ds vs
  | .adr a d, v => v = .ref a ∧ RelD K mu H d v
  | .exc a C od fs ds, v => v = .ref a ∧ ∃ vs, ((fs = [] ∧ od = none) ∨ ∃ d, od = some d ∧ H d = some (.xd (fs.zip vs)) ∧ ¬ Live mu d) ∧ fs.length = vs.length ∧ RelDs K mu H ds vs
def RelDs (K : PySem.W.Frag) (mu : Mu) (H : Hp) : List D → List V → Prop
  | [], vs => vs = []
  | x :: xs, vs => ∃ v r, vs = v :: r ∧ RelD K mu H x v ∧ RelDs K mu H xs r
end

/-- from one state of the heap to a later one: what is not tracked stays, what is tracked stays tracked -/
structure Ge (mu : Mu) (H : Hp) (mu' : Mu) (H' : Hp) : Prop where
  fr : ∀ a o, H a = some o → ¬ Live mu a → (∀ ps, o ≠ .tbl ps) → H' a = some o ∧ ¬ Live mu' a
  rf : ∀ (n : Nat) (a : Addr), mu[n]? = some (some a) → mu'[n]? = some (some a)
theorem Ge.refl (mu : Mu) (H : Hp) : Ge mu H mu H := ⟨fun _ _ h n _ => ⟨h, n⟩, fun _ _ h => h⟩
theorem Ge.trans {mu mu1 mu2 : Mu} {H H1 H2 : Hp} (a : Ge mu H mu1 H1) (b : Ge mu1 H1 mu2 H2) : Ge mu H mu2 H2 :=
  ⟨fun c o h n q => b.fr c o (a.fr c o h n q).1 (a.fr c o h n q).2 q, fun n c h => b.rf n c (a.rf n c h)⟩
theorem Ge.fix {mu mu' : Mu} {H H' : Hp} (g : Ge mu H mu' H') {a : Addr} {u : HO} (h : Fix mu H a u) (q : ∀ ps, u ≠ .tbl ps := by exact fun _ z => by cases z) : Fix mu' H' a u := g.fr a u h.1 h.2 q
theorem Ge.fixR {mu mu' : Mu} {H H' : Hp} (g : Ge mu H mu' H') {a : Addr} {u : HO} (h : FixR mu H a u) (q : ∀ ps, u ≠ .tbl ps := by exact fun _ z => by cases z) : FixR mu' H' a u := by
  obtain ⟨h, n⟩ := h
  rcases h with h | ⟨o, h⟩
  · exact ⟨.inl (g.fr _ _ h n q).1, (g.fr _ _ h n q).2⟩
  · exact ⟨.inr ⟨o, (g.fr _ _ h n fun _ z => by cases z).1⟩, (g.fr _ _ h n fun _ z => by cases z).2⟩
mutual
theorem RelD.mono {K : PySem.W.Frag} {mu mu' : Mu} {H H' : Hp} (g : Ge mu H mu' H') : ∀ (d : D) (v : V), RelD K mu H d v → RelD K mu' H' d v
  | .non, _, h => by simpa only [RelD] using h
  | .bl _, _, h => by simpa only [RelD] using h
  | .int _, _, h => by simpa only [RelD] using h
  | .str _, _, h => by simpa only [RelD] using h
  | .ty _, _, h => by simpa only [RelD] using h
  | .gl _, _, h => by simpa only [RelD] using h
  | .ref n, v, h => by
    simp only [RelD] at h ⊢
    obtain ⟨a, e, r⟩ := h
    exact ⟨a, g.rf n a e, r⟩
  | .tup xs, v, h => by
    simp only [RelD] at h ⊢
    obtain ⟨a, vs, e, r, t⟩ := h
    exact ⟨a, vs, e, r.imp id (fun z => g.fix z), RelDs.mono g xs vs t⟩
  | .lst xs, v, h => by
    simp only [RelD] at h ⊢
    obtain ⟨a, vs, e, r, t⟩ := h
    exact ⟨a, vs, e, g.fix r, RelDs.mono g xs vs t⟩
  | .rdl xs, v, h => by
    simp only [RelD] at h ⊢
    obtain ⟨a, vs, e, r, t⟩ := h
    exact ⟨a, vs, e, r.imp id (fun z => g.fixR z), RelDs.mono g xs vs t⟩
  | .dk ks xs, v, h => by
    simp only [RelD] at h ⊢
    obtain ⟨a, vs, e, r, l, t⟩ := h
    exact ⟨a, vs, e, g.fix r, l, RelDs.mono g xs vs t⟩
  | .dt ks xs, v, h => by
    simp only [RelD] at h ⊢
    obtain ⟨a, bs, vs, e, r, kk, l, t⟩ := h
    exact ⟨a, bs, vs, e, g.fix r, Paired.mapP kk fun _ _ z => z.imp id (fun z => g.fix z), l, RelDs.mono g xs vs t⟩
  | .ins C fs xs, v, h => by
    simp only [RelD] at h ⊢
    obtain ⟨a, dx, vs, e, r, nl, l, t⟩ := h
    exact ⟨a, dx, vs, e, (g.fr _ _ r nl fun _ z => by cases z).1, (g.fr _ _ r nl fun _ z => by cases z).2, l, RelDs.mono g xs vs t⟩
  | .exc a C od fs xs, v, h => by
    simp only [RelD] at h ⊢
    obtain ⟨e, vs, r, l, t⟩ := h
    exact ⟨e, vs, r.imp id fun ⟨d, e1, e2, e3⟩ => ⟨d, e1, (g.fr _ _ e2 e3 fun _ z => by cases z).1, (g.fr _ _ e2 e3 fun _ z => by cases z).2⟩, l, RelDs.mono g xs vs t⟩
  | .err C, v, h => by
    simp only [RelD] at h ⊢
    obtain ⟨a, e, r, t⟩ := h
    exact ⟨a, e, g.fix r, t⟩
  | .erd C fs xs, v, h => by
    simp only [RelD] at h ⊢
    obtain ⟨a, dx, vs, e, r, rd, k, l, t⟩ := h
    exact ⟨a, dx, vs, e, g.fix r, g.fix rd, k, l, RelDs.mono g xs vs t⟩
  | .adr a d, v, h => by
    simp only [RelD] at h ⊢
    exact ⟨h.1, RelD.mono g d v h.2⟩
theorem RelDs.mono {K : PySem.W.Frag} {mu mu' : Mu} {H H' : Hp} (g : Ge mu H mu' H') : ∀ (ds : List D) (vs : List V), RelDs K mu H ds vs → RelDs K mu' H' ds vs
  | [], vs, h => by simpa only [RelDs] using h
  | x :: xs, vs, h => by
    simp only [RelDs] at h ⊢
    obtain ⟨v, r, e, h1, h2⟩ := h
    exact ⟨v, r, e, RelD.mono g x v h1, RelDs.mono g xs r h2⟩
end
theorem RelDs.length {K : PySem.W.Frag} {mu : Mu} {H : Hp} : ∀ {ds : List D} {vs : List V}, RelDs K mu H ds vs → ds.length = vs.length
  | [], vs, h => by
    simp only [RelDs] at h
    rw [h]
    rfl
  | x :: xs, vs, h => by
    simp only [RelDs] at h
    obtain ⟨v, r, rfl, _, h2⟩ := h
    rw [List.length_cons, List.length_cons, RelDs.length h2]
theorem RelDs.get {K : PySem.W.Frag} {mu : Mu} {H : Hp} : ∀ {ds : List D} {vs : List V} {i : Nat} {d : D}, RelDs K mu H ds vs → ds[i]? = some d → ∃ v, vs[i]? = some v ∧ RelD K mu H d v
  | [], vs, i, d, h, e => by simp at e
  | x :: xs, vs, 0, d, h, e => by
    simp only [RelDs] at h
    obtain ⟨v, r, rfl, h1, h2⟩ := h
    have e' : x = d := by simpa using e
    subst e'
    exact ⟨v, rfl, h1⟩
  | x :: xs, vs, i + 1, d, h, e => by
    simp only [RelDs] at h
    obtain ⟨v, r, rfl, h1, h2⟩ := h
    obtain ⟨w, e1, e2⟩ := RelDs.get (i := i) (d := d) h2 (by simpa using e)
    exact ⟨w, by simpa using e1, e2⟩
theorem RelDs.nil {K : PySem.W.Frag} {mu : Mu} {H : Hp} : RelDs K mu H [] [] := by simp only [RelDs]
theorem RelDs.cons {K : PySem.W.Frag} {mu : Mu} {H : Hp} {d : D} {v : V} {ds : List D} {vs : List V} (h : RelD K mu H d v) (t : RelDs K mu H ds vs) : RelDs K mu H (d :: ds) (v :: vs) := by
  simp only [RelDs]
  exact ⟨v, vs, rfl, h, t⟩
theorem RelDs.append {K : PySem.W.Frag} {mu : Mu} {H : Hp} : ∀ {ds es : List D} {vs us : List V}, RelDs K mu H ds vs → RelDs K mu H es us → RelDs K mu H (ds ++ es) (vs ++ us)
  | [], es, vs, us, h, k => by
    simp only [RelDs] at h
    subst h
    exact k
  | x :: xs, es, vs, us, h, k => by
    simp only [RelDs] at h
    obtain ⟨v, r, rfl, h1, h2⟩ := h
    exact .cons h1 (RelDs.append h2 k)
theorem RelDs.set {K : PySem.W.Frag} {mu : Mu} {H : Hp} {d : D} {v : V} (hd : RelD K mu H d v) : ∀ {ds : List D} {vs : List V} (i : Nat), RelDs K mu H ds vs → RelDs K mu H (ds.set i d) (vs.set i v)
  | [], vs, i, h => by
    simp only [RelDs] at h
    subst h
    exact .nil
  | x :: xs, vs, 0, h => by
    simp only [RelDs] at h
    obtain ⟨w, r, rfl, h1, h2⟩ := h
    exact .cons hd h2
  | x :: xs, vs, i + 1, h => by
    simp only [RelDs] at h
    obtain ⟨w, r, rfl, h1, h2⟩ := h
    exact .cons h1 (RelDs.set hd i h2)
theorem RelDs.take {K : PySem.W.Frag} {mu : Mu} {H : Hp} : ∀ {ds : List D} {vs : List V} (n : Nat), RelDs K mu H ds vs → RelDs K mu H (ds.take n) (vs.take n)
  | _, _, 0, _ => by simpa using RelDs.nil
  | [], vs, n + 1, h => by
    simp only [RelDs] at h
    subst h
    exact .nil
  | x :: xs, vs, n + 1, h => by
    simp only [RelDs] at h
    obtain ⟨w, r, rfl, h1, h2⟩ := h
    exact .cons h1 (RelDs.take n h2)
theorem RelDs.drop {K : PySem.W.Frag} {mu : Mu} {H : Hp} : ∀ {ds : List D} {vs : List V} (n : Nat), RelDs K mu H ds vs → RelDs K mu H (ds.drop n) (vs.drop n)
  | _, _, 0, h => h
  | [], vs, n + 1, h => by
    simp only [RelDs] at h
    subst h
    exact .nil
  | x :: xs, vs, n + 1, h => by
    simp only [RelDs] at h
    obtain ⟨w, r, rfl, h1, h2⟩ := h
    exact RelDs.drop n h2
theorem RelDs.ints {K : PySem.W.Frag} {mu : Mu} {H : Hp} : ∀ (ns : List Int), RelDs K mu H (ns.map D.int) (ns.map V.int)
  | [] => .nil
  | n :: r => .cons (by simp only [RelD]) (RelDs.ints r)

/-- what a tracked object is -/
def OR (K : PySem.W.Frag) (mu : Mu) (H : Hp) (a : Addr) : O → Prop
  | .lst xs => ∃ vs, H a = some (.lst vs) ∧ RelDs K mu H xs vs
  | .dk ks ds => ∃ vs, H a = some (.dK (ks.zip vs)) ∧ ks.length = vs.length ∧ RelDs K mu H ds vs
  | .dt ks ds => ∃ bs vs, H a = some (dtH a ks bs vs) ∧ Keys K mu H ks bs ∧ ks.length = vs.length ∧ RelDs K mu H ds vs
  | .ins C fs ds => ∃ dx vs, H a = some (.ins C dx (fs.zip vs)) ∧ fs.length = vs.length ∧ RelDs K mu H ds vs
  | .gone => True
theorem OR.mono {K : PySem.W.Frag} {mu mu' : Mu} {H H' : Hp} {a : Addr} (g : Ge mu H mu' H') (e : H' a = H a) : ∀ {o : O}, OR K mu H a o → OR K mu' H' a o
  | .lst xs, ⟨vs, h, r⟩ => ⟨vs, e.trans h, r.mono g⟩
  | .dk ks ds, ⟨vs, h, l, r⟩ => ⟨vs, e.trans h, l, r.mono g⟩
  | .dt ks ds, ⟨bs, vs, h, kk, l, r⟩ => ⟨bs, vs, e.trans h, Paired.mapP kk fun _ _ z => z.imp id (fun z => g.fix z), l, r.mono g⟩
  | .ins C fs ds, ⟨dx, vs, h, l, r⟩ => ⟨dx, vs, e.trans h, l, r.mono g⟩
  | .gone, _ => trivial

/-- the defs whose lambdas are served: their code objects' tables are in the heap -/
def tabNs : List Str := ["by_start", "crossings"]
/-- the table at P: each code object that it tells bears the name q -/
def TabG (mu : Mu) (H : Hp) (P : Addr) (q : Str) : Prop := ¬ Live mu P ∧ ∃ ps : Array Value, H P = some (.tbl ps) ∧ TriplesOk ps.toList ∧ ∀ (pos : Pos) (cv : Value), codeAmong pos ps.toList = some cv → ∃ c, cv = .ref c ∧ H c = some (LamX.CodeO c q) ∧ ¬ Live mu c
theorem TabG.mono {mu mu' : Mu} {H H' : Hp} (f : ∀ a o, H a = some o → ¬ Live mu a → H' a = some o ∧ ¬ Live mu' a) {P : Addr} {q : Str} (h : TabG mu H P q) : TabG mu' H' P q := by
  obtain ⟨n, ps, h1, h2, h3⟩ := h
  exact ⟨(f _ _ h1 n).2, ps, (f _ _ h1 n).1, h2, fun pos cv hc => by
    obtain ⟨c, e, h4, h5⟩ := h3 pos cv hc
    exact ⟨c, e, f _ _ h4 h5⟩⟩
def TabK (K : PySem.W.Frag) (mu : Mu) (H : Hp) : Prop := ∀ (c : Addr) (oc : Obj) (vs : Array Value) (q : Str) (t : Tok) (P : Addr), K.lookup c = some oc → oc.data = .fields vs → vs[1]? = some (.str q t) → vs[11]? = some (.ref P) → q ∈ tabNs → TabG mu H P ((q ++ ".<locals>.") ++ "<lambda>")
theorem TabK.mono {K : PySem.W.Frag} {mu mu' : Mu} {H H' : Hp} (f : ∀ a o, H a = some o → ¬ Live mu a → H' a = some o ∧ ¬ Live mu' a) (h : TabK K mu H) : TabK K mu' H' := fun c oc vs q t P h1 h2 h3 h4 h5 => (h c oc vs q t P h1 h2 h3 h4 h5).mono f
structure Sim (K : PySem.W.Frag) (mu : Mu) (s : S) (H : Hp) : Prop where
  tab : TabK K mu H
  len : mu.length = s.length
  inj : ∀ (i j : Nat) (a : Addr), mu[i]? = some (some a) → mu[j]? = some (some a) → i = j
  dom : ∀ a, Live mu a → ∃ o, H a = some o
  obj : ∀ (n : Nat) (o : O), s[n]? = some o → o = .gone ∨ ∃ a, mu[n]? = some (some a) ∧ OR K mu H a o
theorem live_at {mu : Mu} {n : Nat} {a : Addr} (h : mu[n]? = some (some a)) : Live mu a := List.mem_of_getElem? h
theorem live_iff {mu : Mu} {a : Addr} : Live mu a ↔ ∃ n : Nat, mu[n]? = some (some a) := List.mem_iff_getElem?
theorem live_app {mu : Mu} {a p : Addr} : Live (mu ++ [some p]) a ↔ Live mu a ∨ a = p := by
  unfold Live
  simp
section
variable {K : PySem.W.Frag} {mu : Mu} {s : S} {H : Hp} {p : Addr} {u : HO}
theorem Sim.fresh (m : Sim K mu s H) (hp : H p = none) : ¬ Live mu p := fun z => by
  obtain ⟨o, e⟩ := m.dom p z
  rw [hp] at e
  cases e
/-- a new object that is not tracked -/
theorem fr_pure (hp : H p = none) : ∀ a o, H a = some o → ¬ Live mu a → upd H p u a = some o ∧ ¬ Live mu a := fun a o h n => ⟨by rw [upd_ne (ne_of_none h hp)]; exact h, n⟩
theorem Ge.pure (m : Sim K mu s H) (hp : H p = none) : Ge mu H mu (upd H p u) :=
  ⟨fun a o h n _ => ⟨by rw [upd_ne (ne_of_none h hp)]; exact h, n⟩, fun _ _ h => h⟩
theorem Sim.pure (m : Sim K mu s H) (hp : H p = none) : Sim K mu s (upd H p u) where
  tab := m.tab.mono (fr_pure hp)
  len := m.len
  inj := m.inj
  dom := fun a l => by
    obtain ⟨o, e⟩ := m.dom a l
    exact ⟨o, by rw [upd_ne (ne_of_none e hp)]; exact e⟩
  obj := fun n o e => by
    rcases m.obj n o e with z | ⟨a, e1, r⟩
    · exact .inl z
    · refine .inr ⟨a, e1, r.mono (Ge.pure m hp) ?_⟩
      obtain ⟨ob, e2⟩ := m.dom a (live_at e1)
      exact upd_ne (ne_of_none e2 hp)
/-- a new tracked object -/
theorem fr_track (hp : H p = none) : ∀ a o, H a = some o → ¬ Live mu a → upd H p u a = some o ∧ ¬ Live (mu ++ [some p]) a := fun a o h n => ⟨by rw [upd_ne (ne_of_none h hp)]; exact h, fun z => (live_app.mp z).elim n (fun e => ne_of_none h hp e)⟩
theorem Ge.track (m : Sim K mu s H) (hp : H p = none) : Ge mu H (mu ++ [some p]) (upd H p u) :=
  ⟨fun a o h n _ => ⟨by rw [upd_ne (ne_of_none h hp)]; exact h, fun z => (live_app.mp z).elim n (fun e => ne_of_none h hp e)⟩,
   fun n a h => by
    have hn : n < mu.length := (List.getElem?_eq_some_iff.mp h).1
    rw [List.getElem?_append_left hn]
    exact h⟩
theorem Sim.track {o : O} (m : Sim K mu s H) (hp : H p = none) (ho : OR K (mu ++ [some p]) (upd H p u) p o) : Sim K (mu ++ [some p]) (s ++ [o]) (upd H p u) where
  tab := m.tab.mono (fr_track hp)
  len := by
    rw [List.length_append, List.length_append, m.len]
    rfl
  inj := fun i j a h1 h2 => by
    rcases Nat.lt_or_ge i mu.length with hi | hi <;> rcases Nat.lt_or_ge j mu.length with hj | hj
    · rw [List.getElem?_append_left hi] at h1
      rw [List.getElem?_append_left hj] at h2
      exact m.inj i j a h1 h2
    · rw [List.getElem?_append_left hi] at h1
      rw [List.getElem?_append_right hj] at h2
      have e : p = a := by
        cases q : j - mu.length with
        | zero =>
          rw [q] at h2
          simpa using h2
        | succ k =>
          rw [q] at h2
          simp at h2
      subst e
      exact absurd (live_at h1) (m.fresh hp)
    · rw [List.getElem?_append_right hi] at h1
      rw [List.getElem?_append_left hj] at h2
      have e : p = a := by
        cases q : i - mu.length with
        | zero =>
          rw [q] at h1
          simpa using h1
        | succ k =>
          rw [q] at h1
          simp at h1
      subst e
      exact absurd (live_at h2) (m.fresh hp)
    · have e1 := (List.getElem?_eq_some_iff.mp h1).1
      have e2 := (List.getElem?_eq_some_iff.mp h2).1
      rw [List.length_append, List.length_singleton] at e1 e2
      omega
  dom := fun a l => by
    rcases live_app.mp l with l | e
    · obtain ⟨o, e⟩ := m.dom a l
      exact ⟨o, by rw [upd_ne (ne_of_none e hp)]; exact e⟩
    · subst e
      exact ⟨u, upd_same⟩
  obj := fun n o' e => by
    rcases Nat.lt_or_ge n s.length with hn | hn
    · rw [List.getElem?_append_left hn] at e
      rcases m.obj n o' e with z | ⟨a, e1, r⟩
      · exact .inl z
      · refine .inr ⟨a, (Ge.track (u := u) m hp).rf n a e1, r.mono (Ge.track m hp) ?_⟩
        obtain ⟨ob, e2⟩ := m.dom a (live_at e1)
        exact upd_ne (ne_of_none e2 hp)
    · have hl := (List.getElem?_eq_some_iff.mp e).1
      rw [List.length_append, List.length_singleton] at hl
      have en : n = s.length := by omega
      subst en
      rw [List.getElem?_append_right (Nat.le_refl _), Nat.sub_self] at e
      have e' : o = o' := by simpa using e
      subst e'
      refine .inr ⟨p, ?_, ho⟩
      rw [← m.len, List.getElem?_append_right (Nat.le_refl _), Nat.sub_self]
      rfl
/-- a tracked object changes -/
theorem fr_put {n : Nat} {a : Addr} (h : mu[n]? = some (some a)) : ∀ b o, H b = some o → ¬ Live mu b → upd H a u b = some o ∧ ¬ Live mu b := fun b o e nl => ⟨by rw [upd_ne (fun z => nl (by rw [z]; exact live_at h))]; exact e, nl⟩
theorem Ge.put {n : Nat} {a : Addr} (h : mu[n]? = some (some a)) : Ge mu H mu (upd H a u) :=
  ⟨fun b o e nl _ => ⟨by rw [upd_ne (fun z => nl (by rw [z]; exact live_at h))]; exact e, nl⟩, fun _ _ h => h⟩
theorem Sim.put {n : Nat} {a : Addr} {o : O} (m : Sim K mu s H) (h : mu[n]? = some (some a)) (ho : OR K mu (upd H a u) a o) : Sim K mu (s.set n o) (upd H a u) where
  tab := m.tab.mono (fr_put h)
  len := by rw [List.length_set]; exact m.len
  inj := m.inj
  dom := fun b l => by
    by_cases hb : b = a
    · subst hb
      exact ⟨u, upd_same⟩
    · obtain ⟨o, e⟩ := m.dom b l
      exact ⟨o, by rw [upd_ne hb]; exact e⟩
  obj := fun k o' e => by
    by_cases hk : n = k
    · subst hk
      have hl : n < s.length := by
        rw [← m.len]
        exact (List.getElem?_eq_some_iff.mp h).1
      rw [List.getElem?_set_self hl] at e
      cases e
      exact .inr ⟨a, h, ho⟩
    · rw [List.getElem?_set_ne hk] at e
      rcases m.obj k o' e with z | ⟨b, e1, r⟩
      · exact .inl z
      · refine .inr ⟨b, e1, r.mono (Ge.put h) (upd_ne fun z => ?_)⟩
        subst z
        exact hk (m.inj n k b h e1)
/-- what is behind a length is forgotten -/
theorem Sim.cut {n : Nat} (m : Sim K mu s H) (hr : ∀ k o, k < n → s[k]? = some o → o = .gone ∨ ∃ a, mu[k]? = some (some a) ∧ OR K (mu.take n) H a o) : Sim K (mu.take n) (s.take n) H where
  tab := m.tab.mono fun a o h q => ⟨h, fun z => q (List.mem_of_mem_take z)⟩
  len := by rw [List.length_take, List.length_take, m.len]
  inj := fun i j a h1 h2 => by
    rw [List.getElem?_take] at h1 h2
    split at h1 <;> split at h2 <;> first | (exact m.inj i j a h1 h2) | (cases h1) | (cases h2)
  dom := fun a l => m.dom a (List.mem_of_mem_take l)
  obj := fun k o e => by
    rw [List.getElem?_take] at e
    split at e
    · rename_i hk
      rcases hr k o hk e with z | ⟨a, e1, r⟩
      · exact .inl z
      · exact .inr ⟨a, by rw [List.getElem?_take, if_pos hk]; exact e1, r⟩
    · cases e
end

mutual
theorem RelD.bel {K : PySem.W.Frag} {mu : Mu} {H : Hp} : ∀ (d : D) (v : V), RelD K mu H d v → d.bel mu.length = true
  | .non, _, h => by simp only [D.bel]
  | .bl _, _, h => by simp only [D.bel]
  | .int _, _, h => by simp only [D.bel]
  | .str _, _, h => by simp only [D.bel]
  | .ty _, _, h => by simp only [D.bel]
  | .gl _, _, h => by simp only [D.bel]
  | .ref n, v, h => by
    simp only [RelD] at h
    obtain ⟨a, e, r⟩ := h
    simp only [D.bel, decide_eq_true_eq]
    exact (List.getElem?_eq_some_iff.mp e).1
  | .tup xs, v, h => by
    simp only [RelD] at h
    obtain ⟨a, vs, e, r, t⟩ := h
    simp only [D.bel]
    exact RelDs.belows xs vs t
  | .lst xs, v, h => by
    simp only [RelD] at h
    obtain ⟨a, vs, e, r, t⟩ := h
    simp only [D.bel]
    exact RelDs.belows xs vs t
  | .rdl xs, v, h => by
    simp only [RelD] at h
    obtain ⟨a, vs, e, r, t⟩ := h
    simp only [D.bel]
    exact RelDs.belows xs vs t
  | .dk ks xs, v, h => by
    simp only [RelD] at h
    obtain ⟨a, vs, e, r, l, t⟩ := h
    simp only [D.bel]
    exact RelDs.belows xs vs t
  | .dt ks xs, v, h => by
    simp only [RelD] at h
    obtain ⟨a, bs, vs, e, r, kk, l, t⟩ := h
    simp only [D.bel]
    exact RelDs.belows xs vs t
  | .ins C fs xs, v, h => by
    simp only [RelD] at h
    obtain ⟨a, dx, vs, e, r, nl, l, t⟩ := h
    simp only [D.bel]
    exact RelDs.belows xs vs t
  | .exc a C od fs xs, v, h => by
    simp only [RelD] at h
    obtain ⟨e, vs, r, l, t⟩ := h
    simp only [D.bel]
    exact RelDs.belows xs vs t
  | .err _, _, h => by simp only [D.bel]
  | .erd C fs xs, v, h => by
    simp only [RelD] at h
    obtain ⟨a, dx, vs, e, r, rd, k, l, t⟩ := h
    simp only [D.bel]
    exact RelDs.belows xs vs t
  | .adr a d, v, h => by
    simp only [RelD] at h
    simp only [D.bel]
    exact RelD.bel d v h.2
theorem RelDs.belows {K : PySem.W.Frag} {mu : Mu} {H : Hp} : ∀ (ds : List D) (vs : List V), RelDs K mu H ds vs → D.bels mu.length ds = true
  | [], vs, h => by simp only [D.bels]
  | x :: xs, vs, h => by
    simp only [RelDs] at h
    obtain ⟨v, r, e, h1, h2⟩ := h
    simp only [D.bels, Bool.and_eq_true]
    exact ⟨RelD.bel x v h1, RelDs.belows xs r h2⟩
end
theorem not_live_take {mu : Mu} {n : Nat} {a : Addr} (h : ¬ Live mu a) : ¬ Live (mu.take n) a := fun z => h (List.mem_of_mem_take z)
theorem Fix.cut {mu : Mu} {H : Hp} {a : Addr} {u : HO} {n : Nat} (h : Fix mu H a u) : Fix (mu.take n) H a u := ⟨h.1, not_live_take h.2⟩
theorem FixR.cut {mu : Mu} {H : Hp} {a : Addr} {u : HO} {n : Nat} (h : FixR mu H a u) : FixR (mu.take n) H a u := ⟨h.1, not_live_take h.2⟩
mutual
theorem RelD.cut {K : PySem.W.Frag} {mu : Mu} {H : Hp} {n : Nat} : ∀ (d : D) (v : V), RelD K mu H d v → d.bel n = true → RelD K (mu.take n) H d v
  | .non, _, h, _ => by simpa only [RelD] using h
  | .bl _, _, h, _ => by simpa only [RelD] using h
  | .int _, _, h, _ => by simpa only [RelD] using h
  | .str _, _, h, _ => by simpa only [RelD] using h
  | .ty _, _, h, _ => by simpa only [RelD] using h
  | .gl _, _, h, _ => by simpa only [RelD] using h
  | .ref k, v, h, b => by
    simp only [D.bel, decide_eq_true_eq] at b
    simp only [RelD] at h ⊢
    obtain ⟨a, e, r⟩ := h
    exact ⟨a, by rw [List.getElem?_take, if_pos b]; exact e, r⟩
  | .tup xs, v, h, b => by
    simp only [D.bel] at b
    simp only [RelD] at h ⊢
    obtain ⟨a, vs, e, r, t⟩ := h
    exact ⟨a, vs, e, r.imp id Fix.cut, RelDs.cut xs vs t b⟩
  | .lst xs, v, h, b => by
    simp only [D.bel] at b
    simp only [RelD] at h ⊢
    obtain ⟨a, vs, e, r, t⟩ := h
    exact ⟨a, vs, e, r.cut, RelDs.cut xs vs t b⟩
  | .rdl xs, v, h, b => by
    simp only [D.bel] at b
    simp only [RelD] at h ⊢
    obtain ⟨a, vs, e, r, t⟩ := h
    exact ⟨a, vs, e, r.imp id FixR.cut, RelDs.cut xs vs t b⟩
  | .dk ks xs, v, h, b => by
    simp only [D.bel] at b
    simp only [RelD] at h ⊢
    obtain ⟨a, vs, e, r, l, t⟩ := h
    exact ⟨a, vs, e, r.cut, l, RelDs.cut xs vs t b⟩
  | .dt ks xs, v, h, b => by
    simp only [D.bel] at b
    simp only [RelD] at h ⊢
    obtain ⟨a, bs, vs, e, r, kk, l, t⟩ := h
    exact ⟨a, bs, vs, e, r.cut, Paired.mapP kk fun _ _ z => z.imp id Fix.cut, l, RelDs.cut xs vs t b⟩
  | .ins C fs xs, v, h, b => by
    simp only [D.bel] at b
    simp only [RelD] at h ⊢
    obtain ⟨a, dx, vs, e, r, nl, l, t⟩ := h
    exact ⟨a, dx, vs, e, r, not_live_take nl, l, RelDs.cut xs vs t b⟩
  | .exc a C od fs xs, v, h, b => by
    simp only [D.bel] at b
    simp only [RelD] at h ⊢
    obtain ⟨e, vs, r, l, t⟩ := h
    exact ⟨e, vs, r.imp id fun ⟨d, e1, e2, e3⟩ => ⟨d, e1, e2, not_live_take e3⟩, l, RelDs.cut xs vs t b⟩
  | .err C, v, h, b => by
    simp only [RelD] at h ⊢
    obtain ⟨a, e, r, t⟩ := h
    exact ⟨a, e, r.cut, t⟩
  | .erd C fs xs, v, h, b => by
    simp only [D.bel] at b
    simp only [RelD] at h ⊢
    obtain ⟨a, dx, vs, e, r, rd, k, l, t⟩ := h
    exact ⟨a, dx, vs, e, r.cut, rd.cut, k, l, RelDs.cut xs vs t b⟩
  | .adr a d, v, h, b => by
    simp only [D.bel] at b
    simp only [RelD] at h ⊢
    exact ⟨h.1, RelD.cut d v h.2 b⟩
theorem RelDs.cut {K : PySem.W.Frag} {mu : Mu} {H : Hp} {n : Nat} : ∀ (ds : List D) (vs : List V), RelDs K mu H ds vs → D.bels n ds = true → RelDs K (mu.take n) H ds vs
  | [], vs, h, _ => by simpa only [RelDs] using h
  | x :: xs, vs, h, b => by
    simp only [D.bels, Bool.and_eq_true] at b
    simp only [RelDs] at h ⊢
    obtain ⟨v, r, e, h1, h2⟩ := h
    exact ⟨v, r, e, RelD.cut x v h1 b.1, RelDs.cut xs r h2 b.2⟩
end
theorem OR.cut {K : PySem.W.Frag} {mu : Mu} {H : Hp} {n : Nat} {a : Addr} : ∀ {o : O}, OR K mu H a o → o.bel n = true → OR K (mu.take n) H a o
  | .lst xs, ⟨vs, h, r⟩, b => ⟨vs, h, r.cut _ _ (by simpa only [O.bel] using b)⟩
  | .dk ks ds, ⟨vs, h, l, r⟩, b => ⟨vs, h, l, r.cut _ _ (by simpa only [O.bel] using b)⟩
  | .dt ks ds, ⟨bs, vs, h, kk, l, r⟩, b => ⟨bs, vs, h, Paired.mapP kk fun _ _ z => z.imp id Fix.cut, l, r.cut _ _ (by simpa only [O.bel] using b)⟩
  | .ins C fs ds, ⟨dx, vs, h, l, r⟩, b => ⟨dx, vs, h, l, r.cut _ _ (by simpa only [O.bel] using b)⟩
  | .gone, _, _ => trivial
theorem OR.below {K : PySem.W.Frag} {mu : Mu} {H : Hp} {a : Addr} : ∀ {o : O}, OR K mu H a o → o.bel mu.length = true
  | .lst xs, ⟨vs, h, r⟩ => by simpa only [O.bel] using r.belows _ _
  | .dk ks ds, ⟨vs, h, l, r⟩ => by simpa only [O.bel] using r.belows _ _
  | .dt ks ds, ⟨bs, vs, h, kk, l, r⟩ => by simpa only [O.bel] using r.belows _ _
  | .ins C fs ds, ⟨dx, vs, h, l, r⟩ => by simpa only [O.bel] using r.belows _ _
  | .gone, _ => rfl
theorem Sim.below {K : PySem.W.Frag} {mu : Mu} {s : S} {H : Hp} (m : Sim K mu s H) {o : O} (ho : o ∈ s) : o.bel s.length = true := by
  obtain ⟨n, e⟩ := List.mem_iff_getElem?.mp ho
  rcases m.obj n o e with z | ⟨a, e1, r⟩
  · subst z
    rfl
  · rw [← m.len]
    exact r.below
/-- the state behind a def whose own objects are forgotten -/
theorem Sim.back {K : PySem.W.Frag} {mu : Mu} {s : S} {H : Hp} {n : Nat} (m : Sim K mu s H) (hb : ∀ o ∈ s.take n, o.bel n = true) : Sim K (mu.take n) (s.take n) H :=
  m.cut fun k o hk e => by
    rcases m.obj k o e with z | ⟨a, e1, r⟩
    · exact .inl z
    · refine .inr ⟨a, e1, r.cut (hb o ?_)⟩
      exact List.mem_of_getElem? (i := k) (by rw [List.getElem?_take, if_pos hk]; exact e)
theorem Ge.back {mu mu' : Mu} {H H' : Hp} (g : Ge mu H mu' H') : Ge mu H (mu'.take mu.length) H' :=
  ⟨fun a o h n q => ⟨(g.fr a o h n q).1, not_live_take (g.fr a o h n q).2⟩, fun n a h => by
    have hn := (List.getElem?_eq_some_iff.mp h).1
    rw [List.getElem?_take, if_pos hn]
    exact g.rf n a h⟩

/-- the def's names -/
abbrev Lc := List (Option D)
structure LR (K : PySem.W.Frag) (mu : Mu) (H : Hp) (L : Lc) (σ : L2.St) : Prop where
  len : L.length = σ.length
  at_ : ∀ (i : Nat) (d : D), L[i]? = some (some d) → ∃ v, σ[i]? = some (some v) ∧ RelD K mu H d v
theorem LR.mono {K : PySem.W.Frag} {mu mu' : Mu} {H H' : Hp} {L : Lc} {σ : L2.St} (g : Ge mu H mu' H') (h : LR K mu H L σ) : LR K mu' H' L σ :=
  ⟨h.len, fun i d e => by
    obtain ⟨v, e1, r⟩ := h.at_ i d e
    exact ⟨v, e1, r.mono g⟩⟩
theorem LR.set {K : PySem.W.Frag} {mu : Mu} {H : Hp} {L : Lc} {σ : L2.St} {d : D} {v : V} (h : LR K mu H L σ) (i : Nat) (r : RelD K mu H d v) : LR K mu H (L.set i (some d)) (σ.set i (some v)) :=
  ⟨by rw [List.length_set, List.length_set]; exact h.len, fun j d' e => by
    by_cases hj : i = j
    · subst hj
      have hl : i < L.length := by
        have := (List.getElem?_eq_some_iff.mp e).1
        rwa [List.length_set] at this
      rw [List.getElem?_set_self hl] at e
      cases e
      exact ⟨v, by rw [List.getElem?_set_self (by rw [← h.len]; exact hl)], r⟩
    · rw [List.getElem?_set_ne hj] at e
      obtain ⟨v', e1, r'⟩ := h.at_ j d' e
      exact ⟨v', by rw [List.getElem?_set_ne hj]; exact e1, r'⟩⟩
theorem LR.del {K : PySem.W.Frag} {mu : Mu} {H : Hp} {L : Lc} {σ : L2.St} {x : Option V} (h : LR K mu H L σ) (i : Nat) : LR K mu H (L.set i none) (σ.set i x) :=
  ⟨by rw [List.length_set, List.length_set]; exact h.len, fun j d' e => by
    by_cases hj : i = j
    · subst hj
      have hl : i < L.length := by
        have := (List.getElem?_eq_some_iff.mp e).1
        rwa [List.length_set] at this
      rw [List.getElem?_set_self hl] at e
      cases e
    · rw [List.getElem?_set_ne hj] at e
      obtain ⟨v', e1, r'⟩ := h.at_ j d' e
      exact ⟨v', by rw [List.getElem?_set_ne hj]; exact e1, r'⟩⟩

/-! ### results -/
inductive R (α : Type) where
  | ok (a : α) (s : S) | ex (C : Addr) (fs : List Str) (vs : List D) (s : S) | bad
inductive RS where
  | nx (L : Lc) (s : S) | rt (d : D) (s : S) | bk (L : Lc) (s : S) | ct (L : Lc) (s : S) | ex (C : Addr) (fs : List Str) (vs : List D) (L : Lc) (s : S) | bad
abbrev F (α : Type) := Lc → S → R α
abbrev FS := Lc → S → RS
def R.bind {α β : Type} (r : R α) (k : α → S → R β) : R β := match r with
  | .ok a s => k a s
  | .ex C fs vs s => .ex C fs vs s
  | .bad => .bad
def RS.bind (r : RS) (k : Lc → S → RS) : RS := match r with
  | .nx L s => k L s
  | r => r
def R.bindS {α : Type} (L : Lc) (r : R α) (k : α → S → RS) : RS := match r with
  | .ok a s => k a s
  | .ex C fs vs s => .ex C fs vs L s
  | .bad => .bad

/-- an exception's fields -/
def XR (K : PySem.W.Frag) (mu : Mu) (H : Hp) (fs : List Str) (ds : List D) (od : Option Addr) : Prop :=
  (fs = [] ∧ ds = [] ∧ od = none) ∨ ∃ d vs, od = some d ∧ H d = some (.xd (fs.zip vs)) ∧ ¬ Live mu d ∧ fs.length = vs.length ∧ RelDs K mu H ds vs
theorem XR.mono {K : PySem.W.Frag} {mu mu' : Mu} {H H' : Hp} {fs : List Str} {ds : List D} {od : Option Addr} (g : Ge mu H mu' H') (h : XR K mu H fs ds od) : XR K mu' H' fs ds od := by
  rcases h with h | ⟨d, vs, e, h, n, l, r⟩
  · exact .inl h
  · exact .inr ⟨d, vs, e, (g.fr _ _ h n fun _ z => by cases z).1, (g.fr _ _ h n fun _ z => by cases z).2, l, r.mono g⟩

section
variable (K : PySem.W.Frag) (W : WX)
def Post {α β : Type} (rel : Mu → Hp → α → β → Prop) (σ : L2.St) (mu : Mu) (H : Hp) (Q : β → Hp → Prop) : R α → Prop
  | .ok d s' => ∀ mu' H' v, Ge mu H mu' H' → Sim K mu' s' H' → rel mu' H' d v → Q v H'
  | .ex C fs ds s' => ∀ mu' H' od, Ge mu H mu' H' → Sim K mu' s' H' → XR K mu' H' fs ds od → W (.ref C) od σ H'
  | .bad => False
def PostS (D : Ends) (mu : Mu) (H : Hp) : RS → Prop
  | .nx L' s' => ∀ mu' σ' H', Ge mu H mu' H' → Sim K mu' s' H' → LR K mu' H' L' σ' → D.nx σ' H'
  | .rt d s' => ∀ mu' H' v, Ge mu H mu' H' → Sim K mu' s' H' → RelD K mu' H' d v → D.rt v H'
  | .bk L' s' => ∀ mu' σ' H', Ge mu H mu' H' → Sim K mu' s' H' → LR K mu' H' L' σ' → D.bk σ' H'
  | .ct L' s' => ∀ mu' σ' H', Ge mu H mu' H' → Sim K mu' s' H' → LR K mu' H' L' σ' → D.ct σ' H'
  | .ex C fs ds L' s' => ∀ mu' σ' H' od, Ge mu H mu' H' → Sim K mu' s' H' → LR K mu' H' L' σ' → XR K mu' H' fs ds od → W (.ref C) od σ' H'
  | .bad => False
def tE (f : F D) : TE := fun σ H Q => ∃ mu s L, Sim K mu s H ∧ LR K mu H L σ ∧ Post K W (RelD K) σ mu H Q (f L s)
def tA (f : F (List D)) : TA := fun σ H Q => ∃ mu s L, Sim K mu s H ∧ LR K mu H L σ ∧ Post K W (RelDs K) σ mu H Q (f L s)
def tT (f : F Bool) : TT := fun σ H Q => ∃ mu s L, Sim K mu s H ∧ LR K mu H L σ ∧ Post K W (fun _ _ (a b : Bool) => a = b) σ mu H Q (f L s)
def tS (f : FS) : TS := fun D σ H => ∃ mu s L, Sim K mu s H ∧ LR K mu H L σ ∧ PostS K W D mu H (f L s)
end
section
variable {K : PySem.W.Frag} {W : WX}
theorem Post.ge {α β : Type} {rel : Mu → Hp → α → β → Prop} {σ : L2.St} {mu mu1 : Mu} {H H1 : Hp} {Q : β → Hp → Prop} {r : R α} (g : Ge mu H mu1 H1) (h : Post K W rel σ mu H Q r) : Post K W rel σ mu1 H1 Q r := by
  cases r with
  | ok d s' => exact fun mu' H' v g' m r => h mu' H' v (g.trans g') m r
  | ex C fs ds s' => exact fun mu' H' od g' m x => h mu' H' od (g.trans g') m x
  | bad => exact h
theorem PostS.ge {D : Ends} {mu mu1 : Mu} {H H1 : Hp} {r : RS} (g : Ge mu H mu1 H1) (h : PostS K W D mu H r) : PostS K W D mu1 H1 r := by
  cases r with
  | nx L s => exact fun mu' σ' H' g' => h mu' σ' H' (g.trans g')
  | rt L s => exact fun mu' H' v g' => h mu' H' v (g.trans g')
  | bk L s => exact fun mu' σ' H' g' => h mu' σ' H' (g.trans g')
  | ct L s => exact fun mu' σ' H' g' => h mu' σ' H' (g.trans g')
  | ex C fs ds L s => exact fun mu' σ' H' od g' => h mu' σ' H' od (g.trans g')
  | bad => exact h
/-- one part, then the rest -/
theorem Post.step {α β γ δ : Type} {rel : Mu → Hp → α → β → Prop} {rel2 : Mu → Hp → γ → δ → Prop} {σ : L2.St} {mu : Mu} {H : Hp} {Q : δ → Hp → Prop} {Q1 : β → Hp → Prop} {r : R α} {k : α → S → R γ}
    (h : Post K W rel2 σ mu H Q (r.bind k))
    (hk : ∀ d s' mu' H' v, Ge mu H mu' H' → Sim K mu' s' H' → rel mu' H' d v → Post K W rel2 σ mu' H' Q (k d s') → Q1 v H') : Post K W rel σ mu H Q1 r := by
  cases r with
  | ok d s' => exact fun mu' H' v g m q => hk d s' mu' H' v g m q (Post.ge (r := k d s') g h)
  | ex C fs ds s' => exact h
  | bad => exact h
theorem Post.stepS {α β : Type} {rel : Mu → Hp → α → β → Prop} {σ : L2.St} {L : Lc} {mu : Mu} {H : Hp} {D : Ends} {Q1 : β → Hp → Prop} {r : R α} {k : α → S → RS} (hL : LR K mu H L σ)
    (h : PostS K W D mu H (r.bindS L k))
    (hk : ∀ d s' mu' H' v, Ge mu H mu' H' → Sim K mu' s' H' → rel mu' H' d v → PostS K W D mu' H' (k d s') → Q1 v H') : Post K W rel σ mu H Q1 r := by
  cases r with
  | ok d s' => exact fun mu' H' v g m q => hk d s' mu' H' v g m q (PostS.ge (r := k d s') g h)
  | ex C fs ds s' => exact fun mu' H' od g m x => h mu' σ H' od g m (hL.mono g) x
  | bad => exact h
theorem PE.weak {X : Cx} {e : Expr} {t t' : TE} (h : PE X e t) (w : ∀ σ H Q, t' σ H Q → t σ H Q) : PE X e t' := ⟨fun pins s σ H Q I q => h.run pins s σ H Q I (w σ H Q q)⟩
theorem PT.weak {X : Cx} {e : Expr} {t t' : TT} (h : PT X e t) (w : ∀ σ H Q, t' σ H Q → t σ H Q) : PT X e t' := ⟨fun pins s σ H Q I q => h.run pins s σ H Q I (w σ H Q q)⟩
theorem PA.weak {X : Cx} {e : List Expr} {t t' : TA} (h : PA X e t) (w : ∀ σ H Q, t' σ H Q → t σ H Q) : PA X e t' := ⟨fun pos pins s σ H Q I q => h.run pos pins s σ H Q I (w σ H Q q)⟩
theorem PS.weak {X : Cx} {e : Stmt} {t t' : TS} (h : PS X e t) (w : ∀ D σ H, t' D σ H → t D σ H) : PS X e t' := ⟨fun pins s σ H D I q => h.run pins s σ H D I (w D σ H q)⟩
theorem PSs.weak {X : Cx} {e : List Stmt} {t t' : TS} (h : PSs X e t) (w : ∀ D σ H, t' D σ H → t D σ H) : PSs X e t' := ⟨fun pins s σ H D I q => h.run pins s σ H D I (w D σ H q)⟩
end
end SI

namespace SI
open PySem PySem.Spec PyProof.Rows L2
/-! ### readings of the parts -/
section
variable {X : Cx} {W : WX}

/-! names and constants -/
def fVar (i : Nat) : F D := fun L s => match L[i]? with
  | some (some d) => .ok d s
  | _ => .bad
theorem pE_var (i : Nat) {x : Str} {pos : Pos} (hN : X.N[i]? = some x := by rfl) (hv : Vis X.env.scope x := by first | exact Or.inl rfl | exact Or.inr (Or.inl rfl) | exact Or.inr (Or.inr rfl)) (hd : (x == ("__debug__" : Str)) = false := by decide)
    (hcd : (x == ("__classdict__" : Str)) = false := by decide) : PE X (.Name x pos) (tE X.K W (fVar i)) := by
  refine PE.weak (pe_var hN hv hd hcd) fun σ H Q h => ?_
  obtain ⟨mu, s, L, m, l, p⟩ := h
  unfold fVar at p
  cases e : L[i]? with
  | none =>
    rw [e] at p
    exact p.elim
  | some od =>
    cases od with
    | none =>
      rw [e] at p
      exact p.elim
    | some d =>
      rw [e] at p
      obtain ⟨v, e1, r⟩ := l.at_ i d e
      exact ⟨v, e1, p mu H v (Ge.refl _ _) m r⟩
def fC (d : D) : F D := fun _ s => .ok d s
theorem weakC {d : D} {v : V} {e : Expr} (h : PE X e (tC v)) (r : ∀ mu H, RelD X.K mu H d v) : PE X e (tE X.K W (fC d)) := by
  refine PE.weak h fun σ H Q h => ?_
  obtain ⟨mu, s, L, m, l, p⟩ := h
  exact p mu H v (Ge.refl _ _) m (r mu H)
theorem pE_int {i j pos} : PE X (.Constant (.int i) j pos) (tE X.K W (fC (.int i))) := weakC pe_int fun _ _ => by simp only [RelD]
theorem pE_bl {b j pos} : PE X (.Constant (.bool b) j pos) (tE X.K W (fC (.bl b))) := weakC pe_bl fun _ _ => by simp only [RelD]
theorem pE_str {x j pos} : PE X (.Constant (.str x) j pos) (tE X.K W (fC (.str x))) := weakC pe_str fun _ _ => by simp only [RelD]
/-- a module's int -/
theorem pE_gint {x : Str} {i : Int} {t : Tok} {pos : Pos} (hm : X.mg x = some (.int i t)) (hg : Gl X x := by rfl) (hd : (x == ("__debug__" : Str)) = false := by decide) : PE X (.Name x pos) (tE X.K W (fC (.int i))) :=
  weakC (pe_glob (v := .int i) hg hm ⟨t, rfl⟩ hd) fun _ _ => by simp only [RelD]
/-- a built-in class -/
theorem pE_ty {x : Str} {n : String} {pos : Pos} (hm : X.mg x = none) (hv : bootBuiltins x = some (.type n)) (hg : Gl X x := by rfl) (hn : x ≠ "__name__" := by decide) (hd : (x == ("__debug__" : Str)) = false := by decide) : PE X (.Name x pos) (tE X.K W (fC (.ty n))) :=
  weakC (pe_bltn (v := .ty n) hg hm hv rfl hn hd) fun _ _ => by simp only [RelD]

/-! ### operators by values -/
def fOp (o : S → D → D → Option D) (f g : F D) : F D := fun L s => (f L s).bind fun a s1 => (g L s1).bind fun b s2 => match o s2 a b with
  | some d => .ok d s2
  | none => .bad
def OpL (K : PySem.W.Frag) (r : R2) (o : S → D → D → Option D) : Prop :=
  ∀ (mu : Mu) (s : S) (H : Hp) (a b d : D) (x y : V) (Q : VK), Sim K mu s H → RelD K mu H a x → RelD K mu H b y → o s a b = some d →
    (∀ mu' H' v, Ge mu H mu' H' → Sim K mu' s H' → RelD K mu' H' d v → Q v H') → r x y H Q
variable {a b c e : Expr} {f g h : F D} {pos : Pos}
theorem weak_op {r : R2} {o : S → D → D → Option D} (hl : OpL X.K r o) (σ : L2.St) (H : Hp) (Q : VK) (hq : tE X.K W (fOp o f g) σ H Q) : tOp r (tE X.K W f) (tE X.K W g) σ H Q := by
  obtain ⟨mu, s, L, m, l, p⟩ := hq
  refine ⟨mu, s, L, m, l, Post.step p fun d1 s1 mu1 H1 v1 g1 m1 r1 p1 => ?_⟩
  refine ⟨mu1, s1, L, m1, l.mono g1, Post.step p1 fun d2 s2 mu2 H2 v2 g2 m2 r2 p2 => ?_⟩
  cases eo : o s2 d1 d2 with
  | none =>
    rw [eo] at p2
    exact p2.elim
  | some d =>
    rw [eo] at p2
    exact hl mu2 s2 H2 d1 d2 d v1 v2 Q m2 (r1.mono g2) r2 eo fun mu' H' v g' m' r' => p2 mu' H' v g' m' r'
theorem pE_op {op : Operator} {r : R2} {o : S → D → D → Option D} (ho : OpR X (binaryOp op) r) (hl : OpL X.K r o) (ha : PE X a (tE X.K W f)) (hb : PE X b (tE X.K W g)) : PE X (.BinOp a op b pos) (tE X.K W (fOp o f g)) :=
  PE.weak (pe_op ho ha hb) fun σ H Q q => weak_op hl σ H Q q
theorem pE_cmp {op : CmpOp} {r : R2} {o : S → D → D → Option D} (ho : OpR X (compareOp op) r) (hl : OpL X.K r o) (ha : PE X a (tE X.K W f)) (hb : PE X b (tE X.K W g)) (hm : behindInMarks op b = false := by first | exact nomark _ | rfl) :
    PE X (.Compare a [op] [b] pos) (tE X.K W (fOp o f g)) :=
  PE.weak (pe_cmpR ho ha hb hm) fun σ H Q q => weak_op hl σ H Q q
theorem pE_ix {r : R2} {o : S → D → D → Option D} (ho : IxR X r) (hl : OpL X.K r o) (ha : PE X a (tE X.K W f)) (hb : PE X b (tE X.K W g)) (hs : PlainIx b := by exact fun _ _ => rfl) : PE X (.Subscript a b pos) (tE X.K W (fOp o f g)) :=
  PE.weak (pe_ix ho ha hb hs) fun σ H Q q => weak_op hl σ H Q q
theorem OpL.or {r r' : R2} {o o' : S → D → D → Option D} {K : PySem.W.Frag} (h : OpL K r o) (h' : OpL K r' o') : OpL K (fun x y H Q => r x y H Q ∨ r' x y H Q) (fun s a b => (o s a b).or (o' s a b)) := by
  intro mu s H a b d x y Q m ra rb e q
  dsimp only at e
  cases eo : o s a b with
  | some z =>
    rw [eo] at e
    exact .inl (h mu s H a b d x y Q m ra rb (by rw [eo]; exact e) q)
  | none =>
    rw [eo] at e
    exact .inr (h' mu s H a b d x y Q m ra rb e q)

/-! ints -/
def dI2 (C : Int → Int → Bool) (g : Int → Int → D) (_ : S) : D → D → Option D
  | .int i, .int j => if C i j = true then some (g i j) else none
  | _, _ => none
def yes2 (_ _ : Int) : Bool := true
theorem rel_int {K : PySem.W.Frag} {mu : Mu} {H : Hp} {i : Int} {v : V} : RelD K mu H (.int i) v ↔ v = .int i := by simp only [RelD]
theorem rel_bl {K : PySem.W.Frag} {mu : Mu} {H : Hp} {i : Bool} {v : V} : RelD K mu H (.bl i) v ↔ v = .bl i := by simp only [RelD]
theorem rel_str {K : PySem.W.Frag} {mu : Mu} {H : Hp} {i : Str} {v : V} : RelD K mu H (.str i) v ↔ v = .str i := by simp only [RelD]
theorem rel_non {K : PySem.W.Frag} {mu : Mu} {H : Hp} {v : V} : RelD K mu H .non v ↔ v = .non := by simp only [RelD]
theorem opl_I {K : PySem.W.Frag} {C : Int → Int → Prop} {Cb : Int → Int → Bool} {g : Int → Int → V} {gd : Int → Int → D} (hc : ∀ i j, Cb i j = true → C i j) (hg : ∀ mu H i j, RelD K mu H (gd i j) (g i j)) : OpL K (rI C g) (dI2 Cb gd) := by
  intro mu s H a b d x y Q m ra rb e q
  cases a <;> simp only [dI2] at e <;> try cases e
  cases b <;> simp only [dI2] at e <;> try cases e
  rename_i i j
  split at e
  · rename_i hh
    cases e
    exact ⟨i, j, rel_int.mp ra, rel_int.mp rb, hc i j hh, q mu H _ (Ge.refl _ _) m (hg mu H i j)⟩
  · cases e
theorem opl_I0 {K : PySem.W.Frag} {g : Int → Int → V} {gd : Int → Int → D} (hg : ∀ mu H i j, RelD K mu H (gd i j) (g i j)) : OpL K (rI0 g) (dI2 yes2 gd) := by
  intro mu s H a b d x y Q m ra rb e q
  cases a <;> simp only [dI2] at e <;> try cases e
  cases b <;> simp only [dI2] at e <;> try cases e
  rename_i i j
  exact ⟨i, j, rel_int.mp ra, rel_int.mp rb, q mu H _ (Ge.refl _ _) m (hg mu H i j)⟩
def dSub : S → D → D → Option D := dI2 yes2 fun i j => .int (i - j)
def mulOk (i j : Int) : Bool := decide (i.natAbs.log2 + j.natAbs.log2 < 100000000)
def MulP (i j : Int) : Prop := i.natAbs.log2 + j.natAbs.log2 < 100000000
theorem bits_le_log (x : Int) : Builtin.Int.intBits x ≤ x.natAbs.log2 + 1 := by
  unfold Builtin.Int.intBits
  by_cases h : (x == 0) = true
  · rw [if_pos h]
    exact Nat.zero_le _
  · rw [if_neg h]
    exact Nat.le_refl _
theorem MulP.ok {i j : Int} (h : MulP i j) : IntMulOk i j := fun z => by
  have h1 := bits_le_log i
  have h2 := bits_le_log j
  have h3 : i.natAbs.log2 + j.natAbs.log2 < 100000000 := h
  have z2 := (Bool.and_eq_true_iff.mp z).2
  have z4 : ((Builtin.Int.intBits i + Builtin.Int.intBits j : Nat) : Int) > bitsLine := of_decide_eq_true z2
  have e0 : bitsLine = 134217728 := by decide
  rw [e0] at z4
  omega
theorem op_mulX : OpR X (binaryOp .Mult) (rI MulP fun i j => .int (i * j)) := opI fun i j t u Q s E hc q => mul_int q (MulP.ok hc)
def divOk (_ j : Int) : Bool := decide (0 < j ∧ j.natAbs.log2 < 9000)
def modOk (_ j : Int) : Bool := decide (0 < j)
def dDiv : S → D → D → Option D := dI2 divOk fun i j => .int (i / j)
def dMod : S → D → D → Option D := dI2 modOk fun i j => .int (i % j)
def dAddI : S → D → D → Option D := dI2 yes2 fun i j => .int (i + j)
def dLt : S → D → D → Option D := dI2 yes2 fun i j => .bl (decide (i < j))
def dLe : S → D → D → Option D := dI2 yes2 fun i j => .bl (decide (i ≤ j))
def dGt : S → D → D → Option D := dI2 yes2 fun i j => .bl (decide (j < i))
def dGe : S → D → D → Option D := dI2 yes2 fun i j => .bl (decide (j ≤ i))
def powOk (i j : Int) : Bool := decide (0 ≤ j ∧ j ≤ 1000000 ∧ i.natAbs < 2 ^ 64)
def dPow : S → D → D → Option D := dI2 powOk fun i j => .int (i ^ j.toNat)
theorem pE_sub (ha : PE X a (tE X.K W f)) (hb : PE X b (tE X.K W g)) : PE X (.BinOp a .Sub b pos) (tE X.K W (fOp dSub f g)) := pE_op op_sub (opl_I0 fun _ _ _ _ => by simp only [RelD]) ha hb
theorem pE_div (ha : PE X a (tE X.K W f)) (hb : PE X b (tE X.K W g)) : PE X (.BinOp a .FloorDiv b pos) (tE X.K W (fOp dDiv f g)) := pE_op op_fdivW (opl_I (Cb := divOk) (fun i j h => by unfold divOk at h; have h2 := of_decide_eq_true h; exact h2) fun _ _ _ _ => by simp only [RelD]) ha hb
theorem pE_mod (ha : PE X a (tE X.K W f)) (hb : PE X b (tE X.K W g)) : PE X (.BinOp a .Mod b pos) (tE X.K W (fOp dMod f g)) := pE_op op_mod (opl_I (fun i j h => of_decide_eq_true h) fun _ _ _ _ => by simp only [RelD]) ha hb
theorem pE_pow (ha : PE X a (tE X.K W f)) (hb : PE X b (tE X.K W g)) : PE X (.BinOp a .Pow b pos) (tE X.K W (fOp dPow f g)) := pE_op op_pow (opl_I (Cb := powOk) (fun i j h => by unfold powOk at h; have h2 := of_decide_eq_true h; exact h2) fun _ _ _ _ => by simp only [RelD]) ha hb
/-- a < b < c -/
def fChain (o o' : S → D → D → Option D) (f g h : F D) : F D := fun L s => (f L s).bind fun a s1 => (g L s1).bind fun b s2 => match o s2 a b with
  | some (.bl true) => (h L s2).bind fun c s3 => match o' s3 b c with
    | some d => .ok d s3
    | none => .bad
  | some (.bl false) => .ok (.bl false) s2
  | _ => .bad
theorem pE_chain {op op' : CmpOp} {r r' : R2} {o o' : S → D → D → Option D} {h : F D} (ho : OpR X (compareOp op) r) (ho' : OpR X (compareOp op') r') (hl : OpL X.K r o) (hl' : OpL X.K r' o') (ha : PE X a (tE X.K W f)) (hb : PE X b (tE X.K W g)) (hc : PE X c (tE X.K W h))
    (hx : PE X (.Compare a [op, op'] [b, c] pos) (tChain r r' (tE X.K W f) (tE X.K W g) (tE X.K W h))) : PE X (.Compare a [op, op'] [b, c] pos) (tE X.K W (fChain o o' f g h)) := by
  refine PE.weak hx fun σ H Q hq => ?_
  obtain ⟨mu, s, L, m, l, p⟩ := hq
  refine ⟨mu, s, L, m, l, Post.step p fun d1 s1 mu1 H1 v1 g1 m1 r1 p1 => ?_⟩
  refine ⟨mu1, s1, L, m1, l.mono g1, Post.step p1 fun d2 s2 mu2 H2 v2 g2 m2 r2 p2 => ?_⟩
  cases eo : o s2 d1 d2 with
  | none =>
    rw [eo] at p2
    exact p2.elim
  | some d =>
    rw [eo] at p2
    refine hl mu2 s2 H2 d1 d2 d v1 v2 _ m2 (r1.mono g2) r2 eo fun mu' H' v g' m' r' => ?_
    cases d <;> try exact p2.elim
    rename_i bb
    have ev := rel_bl.mp r'
    refine ⟨bb, ev, ?_⟩
    cases bb with
    | false => exact p2 mu' H' _ g' m' (rel_bl.mpr rfl)
    | true =>
      show tE X.K W h σ H' _
      refine ⟨mu', s2, L, m', ((l.mono g1).mono g2).mono g', Post.step (Post.ge g' p2) fun d3 s3 mu3 H3 v3 g3 m3 r3 p3 => ?_⟩
      cases eo' : o' s3 d2 d3 with
      | none =>
        rw [eo'] at p3
        exact p3.elim
      | some d =>
        rw [eo'] at p3
        exact hl' mu3 s3 H3 d2 d3 d v2 v3 Q m3 ((r2.mono g').mono g3) r3 eo' fun mu4 H4 v4 g4 m4 r4 => p3 mu4 H4 v4 g4 m4 r4
/-! ### truth -/
def fNotV (f : F D) : F D := fun L s => (f L s).bind fun a s1 => match a with
  | .bl b => .ok (.bl (!b)) s1
  | _ => .bad
theorem pE_not (ha : PE X a (tE X.K W f)) : PE X (.UnaryOp .Not a pos) (tE X.K W (fNotV f)) := by
  refine PE.weak (pe_not ha) fun σ H Q hq => ?_
  obtain ⟨mu, s, L, m, l, p⟩ := hq
  refine ⟨mu, s, L, m, l, Post.step p fun d1 s1 mu1 H1 v1 g1 m1 r1 p1 => ?_⟩
  cases d1 <;> try exact p1.elim
  rename_i bb
  exact ⟨bb, rel_bl.mp r1, p1 mu1 H1 _ (Ge.refl _ _) m1 (rel_bl.mpr rfl)⟩
def fAndV (f g : F D) : F D := fun L s => (f L s).bind fun a s1 => match a with
  | .bl true => g L s1
  | .bl false => .ok (.bl false) s1
  | _ => .bad
def fOrV (f g : F D) : F D := fun L s => (f L s).bind fun a s1 => match a with
  | .bl true => .ok (.bl true) s1
  | .bl false => g L s1
  | _ => .bad
theorem pE_one {op} (h : PE X a (tE X.K W f)) : PE X (.BoolOp op [a] pos) (tE X.K W f) := pe_one h
theorem pE_and {rest : List Expr} (ha : PE X a (tE X.K W f)) (hb : PE X (.BoolOp .And (b :: rest) pos) (tE X.K W g)) : PE X (.BoolOp .And (a :: b :: rest) pos) (tE X.K W (fAndV f g)) := by
  refine PE.weak (pe_and ha hb) fun σ H Q hq => ?_
  obtain ⟨mu, s, L, m, l, p⟩ := hq
  refine ⟨mu, s, L, m, l, Post.step p fun d1 s1 mu1 H1 v1 g1 m1 r1 p1 => ?_⟩
  cases d1 <;> try exact p1.elim
  rename_i bb
  refine ⟨bb, rel_bl.mp r1, ?_⟩
  cases bb with
  | true => exact ⟨mu1, s1, L, m1, l.mono g1, p1⟩
  | false => exact p1 mu1 H1 _ (Ge.refl _ _) m1 (rel_bl.mpr rfl)
/-! tests -/
def fTst (f : F D) : F Bool := fun L s => (f L s).bind fun a s1 => match a with
  | .bl b => .ok b s1
  | _ => .bad
def fNot (t : F Bool) : F Bool := fun L s => (t L s).bind fun b s1 => .ok (!b) s1
def fAnd (t u : F Bool) : F Bool := fun L s => (t L s).bind fun b s1 => if b = true then u L s1 else .ok false s1
def fOr (t u : F Bool) : F Bool := fun L s => (t L s).bind fun b s1 => if b = true then .ok true s1 else u L s1
def fIf (t : F Bool) (f g : F D) : F D := fun L s => (t L s).bind fun b s1 => if b = true then f L s1 else g L s1
variable {t u : F Bool}
theorem pT_val (h : PE X e (tE X.K W f)) (he : ∀ whole, isTrue e X.env whole = (do let v ← whole; standAt e.pos; holding [v] (truthy v)) := by intro _; rfl) : PT X e (tT X.K W (fTst f)) := by
  refine PT.weak (pt_val h he) fun σ H Q hq => ?_
  obtain ⟨mu, s, L, m, l, p⟩ := hq
  refine ⟨mu, s, L, m, l, Post.step p fun d1 s1 mu1 H1 v1 g1 m1 r1 p1 => ?_⟩
  cases d1 <;> try exact p1.elim
  rename_i bb
  exact ⟨bb, rel_bl.mp r1, p1 mu1 H1 _ (Ge.refl _ _) m1 rfl⟩
theorem tT_step {α : Type} {t : F Bool} {L : Lc} {s : S} {mu : Mu} {H : Hp} {σ : L2.St} {k : Bool → S → R α} {β : Type} {rel : Mu → Hp → α → β → Prop} {Q : β → Hp → Prop} {Q1 : Bool → Hp → Prop}
    (p : Post X.K W rel σ mu H Q ((t L s).bind k)) (hk : ∀ b s' mu' H', Ge mu H mu' H' → Sim X.K mu' s' H' → Post X.K W rel σ mu' H' Q (k b s') → Q1 b H') : Post X.K W (fun _ _ (a b : Bool) => a = b) σ mu H Q1 (t L s) :=
  Post.step p fun d s' mu' H' v g m e p' => by
    subst e
    exact hk d s' mu' H' g m p'
theorem pT_not (ha : PT X a (tT X.K W t)) : PT X (.UnaryOp .Not a pos) (tT X.K W (fNot t)) := by
  refine PT.weak (pt_not ha) fun σ H Q hq => ?_
  obtain ⟨mu, s, L, m, l, p⟩ := hq
  exact ⟨mu, s, L, m, l, tT_step p fun b s1 mu1 H1 g1 m1 p1 => p1 mu1 H1 _ (Ge.refl _ _) m1 rfl⟩
theorem PW.weak {X : Cx} {e : Expr} {t t' : TT} (h : PW X e t) (w : ∀ σ H Q, t' σ H Q → t σ H Q) : PW X e t' := ⟨fun wh pins s σ H Q I q => h.run wh pins s σ H Q I (w σ H Q q)⟩
theorem pW_and1 (ha : PT X a (tT X.K W t)) : PW X (.BoolOp .And [a] pos) (tT X.K W t) := pw_and1 ha
theorem pW_and {rest : List Expr} (ha : PT X a (tT X.K W t)) (hb : PW X (.BoolOp .And (b :: rest) pos) (tT X.K W u)) : PW X (.BoolOp .And (a :: b :: rest) pos) (tT X.K W (fAnd t u)) := by
  refine PW.weak (pw_and ha hb) fun σ H Q hq => ?_
  obtain ⟨mu, s, L, m, l, p⟩ := hq
  refine ⟨mu, s, L, m, l, tT_step p fun b s1 mu1 H1 g1 m1 p1 => ?_⟩
  cases b with
  | true => exact ⟨mu1, s1, L, m1, l.mono g1, p1⟩
  | false => exact p1 mu1 H1 _ (Ge.refl _ _) m1 rfl
/-! ### arguments, displays -/
def fNil : F (List D) := fun _ s => .ok [] s
def fCons (f : F D) (r : F (List D)) : F (List D) := fun L s => (f L s).bind fun a s1 => (r L s1).bind fun as s2 => .ok (a :: as) s2
variable {fa : F (List D)} {es : List Expr}
theorem pA_nil : PA X [] (tA X.K W fNil) := by
  refine PA.weak pa_nil fun σ H Q hq => ?_
  obtain ⟨mu, s, L, m, l, p⟩ := hq
  exact p mu H _ (Ge.refl _ _) m .nil
theorem pA_cons (ha : PE X e (tE X.K W f)) (hr : PA X es (tA X.K W fa)) (hs : starEach (e :: es) X.env = (false, eval e X.env) :: starEach es X.env := by rfl) : PA X (e :: es) (tA X.K W (fCons f fa)) := by
  refine PA.weak (pa_cons ha hr hs) fun σ H Q hq => ?_
  obtain ⟨mu, s, L, m, l, p⟩ := hq
  refine ⟨mu, s, L, m, l, Post.step p fun d1 s1 mu1 H1 v1 g1 m1 r1 p1 => ?_⟩
  refine ⟨mu1, s1, L, m1, l.mono g1, Post.step p1 fun d2 s2 mu2 H2 v2 g2 m2 r2 p2 => ?_⟩
  exact p2 mu2 H2 _ (Ge.refl _ _) m2 (.cons (r1.mono g2) r2)
def big : Nat := 1000000
theorem big_le {n : Nat} (h : n ≤ big) : n ≤ sizeLine := by
  rw [sizeLine_eq]
  unfold big at h
  omega
/-- a tuple; a list that is never changed; a list that is tracked -/
def fTup (fa : F (List D)) : F D := fun L s => (fa L s).bind fun ds s1 => if ds.length ≤ big then .ok (.tup ds) s1 else .bad
def fLst (fa : F (List D)) : F D := fun L s => (fa L s).bind fun ds s1 => if ds.length ≤ big then .ok (.lst ds) s1 else .bad
def fLstT (fa : F (List D)) : F D := fun L s => (fa L s).bind fun ds s1 => if ds.length ≤ big then .ok (.ref s1.length) (s1 ++ [.lst ds]) else .bad
theorem rel_tup {K : PySem.W.Frag} {mu : Mu} {s : S} {H : Hp} {p : Addr} {ds : List D} {vs : List V} (m : Sim K mu s H) (hp : H p = none) (r : RelDs K mu H ds vs) : RelD K mu (upd H p (.tup vs)) (.tup ds) (.ref p) := by
  simp only [RelD]
  exact ⟨p, vs, rfl, .inr ⟨upd_same, m.fresh hp⟩, r.mono (Ge.pure m hp)⟩
theorem rel_lst {K : PySem.W.Frag} {mu : Mu} {s : S} {H : Hp} {p : Addr} {ds : List D} {vs : List V} (m : Sim K mu s H) (hp : H p = none) (r : RelDs K mu H ds vs) : RelD K mu (upd H p (.lst vs)) (.lst ds) (.ref p) := by
  simp only [RelD]
  exact ⟨p, vs, rfl, ⟨upd_same, m.fresh hp⟩, r.mono (Ge.pure m hp)⟩
theorem pE_tup {x1} (h : PA X es (tA X.K W fa)) : PE X (.Tuple es x1 pos) (tE X.K W (fTup fa)) := by
  refine PE.weak (pe_tup h) fun σ H Q hq => ?_
  obtain ⟨mu, s, L, m, l, p⟩ := hq
  refine ⟨mu, s, L, m, l, Post.step p fun d1 s1 mu1 H1 v1 g1 m1 r1 p1 => ?_⟩
  split at p1
  · rename_i hb
    exact ⟨by rw [← r1.length]; exact big_le hb, fun q hq => p1 mu1 _ _ (Ge.pure m1 hq) (m1.pure hq) (rel_tup m1 hq r1)⟩
  · exact p1.elim
theorem rel_ref_last {K : PySem.W.Frag} {mu : Mu} {s : S} {H H' : Hp} {p : Addr} (m : Sim K mu s H) : RelD K (mu ++ [some p]) H' (.ref s.length) (.ref p) := by
  simp only [RelD]
  exact ⟨p, by rw [← m.len, List.getElem?_append_right (Nat.le_refl _), Nat.sub_self]; rfl, rfl⟩
theorem pE_lstT (h : PA X es (tA X.K W fa)) : PE X (.List es pos) (tE X.K W (fLstT fa)) := by
  refine PE.weak (pe_lst h) fun σ H Q hq => ?_
  obtain ⟨mu, s, L, m, l, p⟩ := hq
  refine ⟨mu, s, L, m, l, Post.step p fun d1 s1 mu1 H1 v1 g1 m1 r1 p1 => ?_⟩
  split at p1
  · rename_i hb
    exact ⟨by rw [← r1.length]; exact big_le hb, fun q hq => p1 _ _ _ (Ge.track m1 hq) (m1.track hq ⟨v1, upd_same, r1.mono (Ge.track m1 hq)⟩) (rel_ref_last m1)⟩
  · exact p1.elim
/-! ### calls of built-ins by values -/
def fCB (o : S → List D → Option D) (fa : F (List D)) : F D := fun L s => (fa L s).bind fun ds s1 => match o s1 ds with
  | some d => .ok d s1
  | none => .bad
def CbL (K : PySem.W.Frag) (r : List V → Hp → VK → Prop) (o : S → List D → Option D) : Prop :=
  ∀ (mu : Mu) (s : S) (H : Hp) (ds : List D) (d : D) (vs : List V) (Q : VK), Sim K mu s H → RelDs K mu H ds vs → o s ds = some d →
    (∀ mu' H' v, Ge mu H mu' H' → Sim K mu' s H' → RelD K mu' H' d v → Q v H') → r vs H Q
theorem weak_cb {r : List V → Hp → VK → Prop} {o : S → List D → Option D} (hl : CbL X.K r o) (σ : L2.St) (H : Hp) (Q : VK) (hq : tE X.K W (fCB o fa) σ H Q) : tCB r (tA X.K W fa) σ H Q := by
  obtain ⟨mu, s, L, m, l, p⟩ := hq
  refine ⟨mu, s, L, m, l, Post.step p fun d1 s1 mu1 H1 v1 g1 m1 r1 p1 => ?_⟩
  cases eo : o s1 d1 with
  | none =>
    rw [eo] at p1
    exact p1.elim
  | some d =>
    rw [eo] at p1
    exact hl mu1 s1 H1 d1 d v1 Q m1 r1 eo fun mu' H' v g' m' r' => p1 mu' H' v g' m' r'
theorem pE_cb {id : String} {x : Str} {p : Pos} {r : List V → Hp → VK → Prop} {o : S → List D → Option D} (hc : CallR X (.builtin id) r) (hl : CbL X.K r o) (hm : X.mg x = none) (hv : bootBuiltins x = some (.builtin id)) (ha : PA X (e :: es) (tA X.K W fa)) (hg : Gl X x := by rfl)
    (hn : x ≠ "__name__" := by decide) (hdb : (x == ("__debug__" : Str)) = false := by decide)
    (he : starEach (e :: es) X.env = (false, eval e X.env) :: starEach es X.env := by rfl) (hpl : (backTo pos (starEach es X.env)).any (·.1) = false := by rfl) : PE X (.Call (.Name x p) (e :: es) [] pos) (tE X.K W (fCB o fa)) :=
  PE.weak (pe_callB hc hg hm hv ha hn hdb he hpl) fun σ H Q q => weak_cb hl σ H Q q
theorem pE_cty {T : String} {x : Str} {p : Pos} {r : List V → Hp → VK → Prop} {o : S → List D → Option D} (hc : CallR X (.type T) r) (hl : CbL X.K r o) (hm : X.mg x = none) (hv : bootBuiltins x = some (.type T)) (ha : PA X (e :: es) (tA X.K W fa)) (hg : Gl X x := by rfl)
    (hn : x ≠ "__name__" := by decide) (hdb : (x == ("__debug__" : Str)) = false := by decide)
    (he : starEach (e :: es) X.env = (false, eval e X.env) :: starEach es X.env := by rfl) (hpl : (backTo pos (starEach es X.env)).any (·.1) = false := by rfl) : PE X (.Call (.Name x p) (e :: es) [] pos) (tE X.K W (fCB o fa)) :=
  PE.weak (pe_callTy hc hg hm hv ha hn hdb he hpl) fun σ H Q q => weak_cb hl σ H Q q
end
end SI

namespace SI
open PySem PySem.Spec PyProof.Rows L2
section
variable {X : Cx} {W : WX} {a b c e : Expr} {f g h : F D} {t : F Bool} {fa : F (List D)} {es : List Expr} {pos : Pos} {st : Stmt} {sts : List Stmt} {u v : FS}
/-! ### statements -/
def sBad : FS := fun _ _ => .bad
def sNext : FS := fun L s => .nx L s
def sSeq (u v : FS) : FS := fun L s => (u L s).bind v
def sAsg (i : Nat) (f : F D) : FS := fun L s => (f L s).bindS L fun d s1 => .nx (L.set i (some d)) s1
def sExpr (f : F D) : FS := fun L s => (f L s).bindS L fun _ s1 => .nx L s1
def sRet (f : F D) : FS := fun L s => (f L s).bindS L fun d s1 => .rt d s1
def sRetN : FS := fun _ s => .rt .non s
def sIf (t : F Bool) (u v : FS) : FS := fun L s => (t L s).bindS L fun b s1 => if b = true then u L s1 else v L s1
def sBreak : FS := fun L s => .bk L s
def sCont : FS := fun L s => .ct L s
theorem pSs_bad : PSs X sts (tS X.K W sBad) := ⟨fun _ _ _ _ _ _ ⟨_, _, _, _, _, p⟩ => p.elim⟩
theorem pSs_nil : PSs X [] (tS X.K W sNext) := PSs.weak pss_nil fun D σ H ⟨mu, s, L, m, l, p⟩ => p mu σ H (Ge.refl _ _) m l
theorem pSs_cons (h1 : PS X st (tS X.K W u)) (h2 : PSs X sts (tS X.K W v)) : PSs X (st :: sts) (tS X.K W (sSeq u v)) := by
  refine PSs.weak (pss_cons h1 h2) fun D σ H ⟨mu, s, L, m, l, p⟩ => ⟨mu, s, L, m, l, ?_⟩
  unfold sSeq at p
  cases e : u L s with
  | nx L' s' =>
    rw [e] at p
    exact fun mu' σ' H' g' m' l' => ⟨mu', s', L', m', l', PostS.ge (r := v L' s') g' p⟩
  | rt d s' => rw [e] at p; exact p
  | bk d s' => rw [e] at p; exact p
  | ct d s' => rw [e] at p; exact p
  | ex C fs ds L' s' => rw [e] at p; exact p
  | bad => rw [e] at p; exact p.elim
theorem pSs_one (h1 : PS X st (tS X.K W u)) : PSs X [st] (tS X.K W u) := pss_one h1
theorem pS_set {i : Nat} {x : Str} {pos' : Pos} (hN : X.N.Nodup) (he : PE X e (tE X.K W f)) (hi : X.N[i]? = some x := by rfl) (hx : Loc X.env.scope x := by first | exact Or.inl rfl | exact Or.inr rfl)
    (hs : swapsWith e (some (.Name x pos')) pos.line X.env = pure false := by rfl) (hf : X.fn x = true ∨ X.env.scope.names.lookup x = some .local := by first | exact .inl rfl | exact .inr rfl | assumption) :
    PS X (.Assign [.Name x pos'] e pos) (tS X.K W (sAsg i f)) := by
  refine PS.weak (ps_set hN hi hx he hs hf) fun D σ H ⟨mu, s, L, m, l, p⟩ => ⟨mu, s, L, m, l, ?_⟩
  exact Post.stepS l p fun d s1 mu1 H1 v1 g1 m1 r1 p1 => p1 mu1 _ H1 (Ge.refl _ _) m1 ((l.mono g1).set i r1)
theorem pS_expr (he : PE X e (tE X.K W f)) (hs : swapsWith e none pos.line X.env = pure false := by rfl) : PS X (.Expr e pos) (tS X.K W (sExpr f)) := by
  refine PS.weak (ps_expr he hs) fun D σ H ⟨mu, s, L, m, l, p⟩ => ⟨mu, s, L, m, l, ?_⟩
  exact Post.stepS l p fun d s1 mu1 H1 v1 g1 m1 r1 p1 => p1 mu1 _ H1 (Ge.refl _ _) m1 (l.mono g1)
theorem pS_ret (he : PE X e (tE X.K W f)) : PS X (.Return (some e) pos) (tS X.K W (sRet f)) := by
  refine PS.weak (ps_ret he) fun D σ H ⟨mu, s, L, m, l, p⟩ => ⟨mu, s, L, m, l, ?_⟩
  exact Post.stepS l p fun d s1 mu1 H1 v1 g1 m1 r1 p1 => p1 mu1 H1 _ (Ge.refl _ _) m1 r1
theorem pS_if {c : Expr} {as bs : List Stmt} (hc : PT X c (tT X.K W t)) (ha : PSs X as (tS X.K W u)) (hb : PSs X bs (tS X.K W v)) : PS X (.If c as bs pos) (tS X.K W (sIf t u v)) := by
  refine PS.weak (ps_if hc ha hb) fun D σ H ⟨mu, s, L, m, l, p⟩ => ⟨mu, s, L, m, l, ?_⟩
  refine Post.stepS l p fun d s1 mu1 H1 v1 g1 m1 r1 p1 => ?_
  subst r1
  cases d with
  | true => exact ⟨mu1, s1, L, m1, l.mono g1, p1⟩
  | false => exact ⟨mu1, s1, L, m1, l.mono g1, p1⟩
/-! ### targets -/
abbrev Tg := D → Lc → Option Lc
def tG (K : PySem.W.Frag) (q : Tg) : TG := fun v σ H Q => ∃ mu s L d L', Sim K mu s H ∧ LR K mu H L σ ∧ RelD K mu H d v ∧ q d L = some L' ∧ ∀ σ', LR K mu H L' σ' → Q σ' H
abbrev Tgs := List D → Lc → Option Lc
def tGs (K : PySem.W.Frag) (q : Tgs) : TGs := fun vs σ H Q => ∃ mu s L ds L', Sim K mu s H ∧ LR K mu H L σ ∧ RelDs K mu H ds vs ∧ q ds L = some L' ∧ ∀ σ', LR K mu H L' σ' → Q σ' H
theorem PG.weak {X : Cx} {e : Expr} {t t' : TG} (h : PG X e t) (w : ∀ v σ H Q, t' v σ H Q → t v σ H Q) : PG X e t' := ⟨fun pins s σ H x u Q I r q => h.run pins s σ H x u Q I r (w _ _ _ _ q)⟩
theorem PGs.weak {X : Cx} {e : List Expr} {t t' : TGs} (h : PGs X e t) (w : ∀ v σ H Q, t' v σ H Q → t v σ H Q) : PGs X e t' := ⟨fun pins s σ H x u Q I r q => h.run pins s σ H x u Q I r (w _ _ _ _ q)⟩
def gN (i : Nat) : Tg := fun d L => some (L.set i (some d))
def gNl : Tgs := fun ds L => match ds with
  | [] => some L
  | _ => none
def gCn (q : Tg) (r : Tgs) : Tgs := fun ds L => match ds with
  | d :: ds => (q d L).bind (r ds)
  | [] => none
def gTp (r : Tgs) : Tg := fun d L => match d with
  | .tup ds => r ds L
  | _ => none
theorem pG_name {i : Nat} {x : Str} (hN : X.N.Nodup) (hi : X.N[i]? = some x := by rfl) (hx : Loc X.env.scope x := by first | exact Or.inl rfl | exact Or.inr rfl) (hf : X.fn x = true ∨ X.env.scope.names.lookup x = some .local := by first | exact .inl rfl | exact .inr rfl | assumption) : PG X (.Name x pos) (tG X.K (gN i)) := by
  refine PG.weak (pg_name hN hi hx hf) fun v σ H Q ⟨mu, s, L, d, L', m, l, r, e, q⟩ => ?_
  cases e
  exact q _ (l.set i r)
theorem pGs_nil : PGs X [] (tGs X.K gNl) := by
  refine PGs.weak pgs_nil fun v σ H Q ⟨mu, s, L, ds, L', m, l, r, e, q⟩ => ?_
  cases ds with
  | nil =>
    cases e
    simp only [RelDs] at r
    exact ⟨r, q _ l⟩
  | cons d ds => cases e
theorem pGs_cons {e : Expr} {es : List Expr} {q : Tg} {r : Tgs} (h1 : PG X e (tG X.K q)) (h2 : PGs X es (tGs X.K r)) (h3 : PGs X (e :: es) (gCons (tG X.K q) (tGs X.K r))) : PGs X (e :: es) (tGs X.K (gCn q r)) := by
  refine PGs.weak h3 fun v σ H Q ⟨mu, s, L, ds, L', m, l, rr, e, k⟩ => ?_
  cases ds with
  | nil => cases e
  | cons d ds =>
    simp only [RelDs] at rr
    obtain ⟨v1, vs, rfl, r1, r2⟩ := rr
    simp only [gCn] at e
    cases e1 : q d L with
    | none =>
      rw [e1] at e
      cases e
    | some L1 =>
      rw [e1] at e
      exact ⟨v1, vs, rfl, mu, s, L, d, L1, m, l, r1, e1, fun σ' l' => ⟨mu, s, L1, ds, L', m, l', r2, e, k⟩⟩
theorem sq_tup {K : PySem.W.Frag} {mu : Mu} {H : Hp} {ds : List D} {v : V} (h : RelD K mu H (.tup ds) v) : ∃ a vs, v = .ref a ∧ SqT K H a vs ∧ RelDs K mu H ds vs := by
  simp only [RelD] at h
  obtain ⟨a, vs, e, r, t⟩ := h
  refine ⟨a, vs, e, ?_, t⟩
  rcases r with r | r
  · exact .inr r
  · exact .inl (.inl r.1)
theorem sq_lst {K : PySem.W.Frag} {mu : Mu} {H : Hp} {ds : List D} {v : V} (h : RelD K mu H (.lst ds) v) : ∃ a vs, v = .ref a ∧ SqL K H a vs ∧ RelDs K mu H ds vs := by
  simp only [RelD] at h
  obtain ⟨a, vs, e, r, t⟩ := h
  exact ⟨a, vs, e, .of r.1, t⟩
theorem sq_rdl {K : PySem.W.Frag} {mu : Mu} {H : Hp} {ds : List D} {v : V} (h : RelD K mu H (.rdl ds) v) : ∃ a vs, v = .ref a ∧ SqL K H a vs ∧ RelDs K mu H ds vs := by
  simp only [RelD] at h
  obtain ⟨a, vs, e, r, t⟩ := h
  refine ⟨a, vs, e, ?_, t⟩
  rcases r with r | r
  · exact .inr r
  · exact .inl r.1
theorem sq_ref {K : PySem.W.Frag} {mu : Mu} {s : S} {H : Hp} {n : Nat} {ds : List D} {v : V} (m : Sim K mu s H) (h : RelD K mu H (.ref n) v) (e : s[n]? = some (.lst ds)) : ∃ a vs, v = .ref a ∧ mu[n]? = some (some a) ∧ H a = some (.lst vs) ∧ RelDs K mu H ds vs := by
  simp only [RelD] at h
  obtain ⟨a, ea, ev⟩ := h
  rcases m.obj n _ e with z | ⟨b, eb, r⟩
  · cases z
  · rw [ea] at eb
    cases eb
    obtain ⟨vs, h1, h2⟩ := r
    exact ⟨a, vs, ev, ea, h1, h2⟩
theorem pG_tup {es : List Expr} {k : Nat} {r : Tgs} {n : Nat} (h2 : PG X (.Tuple es k pos) (gTup X.K n (tGs X.K r))) (hn : ∀ ds L L', r ds L = some L' → ds.length = n) : PG X (.Tuple es k pos) (tG X.K (gTp r)) := by
  refine PG.weak h2 fun v σ H Q ⟨mu, s, L, d, L', m, l, rr, e, q⟩ => ?_
  cases d <;> simp only [gTp] at e <;> try cases e
  rename_i ds
  obtain ⟨a, vs, ev, sq, rs⟩ := sq_tup rr
  exact ⟨a, vs, ev, sq, by rw [← rs.length]; exact hn ds L L' e, mu, s, L, ds, L', m, l, rs, e, q⟩
theorem gNl_len {ds : List D} {L L' : Lc} (h : gNl ds L = some L') : ds.length = 0 := by
  cases ds with
  | nil => rfl
  | cons d ds => cases h
theorem gCn_len {q : Tg} {r : Tgs} {n : Nat} (hr : ∀ ds L L', r ds L = some L' → ds.length = n) : ∀ ds L L', gCn q r ds L = some L' → ds.length = n + 1 := fun ds L L' h => by
  cases ds with
  | nil => cases h
  | cons d ds =>
    simp only [gCn] at h
    cases e : q d L with
    | none =>
      rw [e] at h
      cases h
    | some L1 =>
      rw [e] at h
      rw [List.length_cons, hr ds L1 L' h]
/-- target = value -/
def sAsgG (q : Tg) (f : F D) : FS := fun L s => (f L s).bindS L fun d s1 => match q d L with
  | some L' => .nx L' s1
  | none => .bad
theorem pS_asg {tg e : Expr} {q : Tg} (he : PE X e (tE X.K W f)) (hg : PG X tg (tG X.K q)) (hx : PS X (.Assign [tg] e pos) (tAsg (tE X.K W f) (tG X.K q))) : PS X (.Assign [tg] e pos) (tS X.K W (sAsgG q f)) := by
  refine PS.weak hx fun D σ H ⟨mu, s, L, m, l, p⟩ => ⟨mu, s, L, m, l, ?_⟩
  refine Post.stepS l p fun d s1 mu1 H1 v1 g1 m1 r1 p1 => ?_
  cases eq : q d L with
  | none =>
    rw [eq] at p1
    exact p1.elim
  | some L' =>
    rw [eq] at p1
    exact ⟨mu1, s1, L, d, L', m1, l.mono g1, r1, eq, fun σ' l' => p1 mu1 σ' H1 (Ge.refl _ _) m1 l'⟩
/-! ### loops -/
/-- what is walked: its items, and which tracked list they are of -/
structure Src where
  items : List D
  on : Option (Nat × List D)
def chk (r : Src) (s : S) : Bool := match r.on with
  | none => true
  | some (n, xs) => decide (s[n]? = some (.lst xs))
/-- an iterator gives these items -/
def ItR (K : PySem.W.Frag) (mu : Mu) (H : Hp) (J : It) (r : Src) : Prop :=
  ∀ mu' s' H', Ge mu H mu' H' → Sim K mu' s' H' → chk r s' = true → ∀ i : Nat,
    (∀ d, r.items[i]? = some d → J.go i H' ∧ ∀ x H2, J.yld i H' x H2 → Ge mu' H' mu' H2 ∧ Sim K mu' s' H2 ∧ RelD K mu' H2 d x) ∧ (r.items[i]? = none → J.stop i H')
def tI (K : PySem.W.Frag) (W : WX) (f : F Src) : TI := fun σ H R => ∃ mu s L, Sim K mu s H ∧ LR K mu H L σ ∧ Post K W (fun mu' H' (r : Src) (J : It) => ItR K mu' H' J r) σ mu H R (f L s)
def forL (q : Tg) (body : FS) (r : Src) : List D → Lc → S → RS
  | [], L, s => if chk r s = true then .nx L s else .bad
  | d :: ds, L, s => if chk r s = true then (match q d L with
    | none => .bad
    | some L1 => match body L1 s with
      | .nx L2 s2 => forL q body r ds L2 s2
      | .ct L2 s2 => forL q body r ds L2 s2
      | .bk L2 s2 => .nx L2 s2
      | x => x) else .bad
def sFor (f : F Src) (q : Tg) (body : FS) : FS := fun L s => (f L s).bindS L fun r s1 => forL q body r r.items L s1
theorem pS_for {tg iter : Expr} {body : List Stmt} {fi : F Src} {q : Tg} {ub : FS} (hp : PassesOwn (model X.prog X.w) X.A X.env X.xe) (hc : X.calm = true) (hi : PI X tg iter (tI X.K W fi)) (hg : PG X tg (tG X.K q)) (hb : PSs X body (tS X.K W ub))
    (hs : ∀ x, foldedSetIterable iter X.env x = pure x := by intro _; rfl) : PS X (.For tg iter body [] pos) (tS X.K W (sFor fi q ub)) := by
  refine PS.weak (ps_for hp hc hi hg hb hs) fun D σ H ⟨mu, s, L, m, l, p⟩ => ⟨mu, s, L, m, l, ?_⟩
  refine Post.stepS l p fun r s1 mu1 H1 J g1 m1 ir p1 => ?_
  refine ⟨fun i n σ' H' => n = r.items.length - i ∧ i ≤ r.items.length ∧ ∃ mu' s' L', Ge mu1 H1 mu' H' ∧ Sim X.K mu' s' H' ∧ LR X.K mu' H' L' σ' ∧ PostS X.K W D mu' H' (forL q ub r (r.items.drop i) L' s'),
    ⟨_, rfl, Nat.zero_le _, mu1, s1, L, Ge.refl _ _, m1, l.mono g1, p1⟩, ?_⟩
  rintro i n σ' H' ⟨rfl, hi', mu', s', L', g', m', l', p'⟩
  by_cases hlt : i < r.items.length
  · have hd : r.items.drop i = r.items[i] :: r.items.drop (i + 1) := List.drop_eq_getElem_cons hlt
    rw [hd] at p'
    unfold forL at p'
    by_cases hk : chk r s' = true
    · rw [if_pos hk] at p'
      have hir := (ir mu' s' H' g' m' hk i).1 _ (List.getElem?_eq_getElem hlt)
      refine .inr ⟨hir.1, fun σ2 H2 => ∃ mu2 s2 L2, Ge mu1 H1 mu2 H2 ∧ Sim X.K mu2 s2 H2 ∧ LR X.K mu2 H2 L2 σ2 ∧ PostS X.K W D mu2 H2 (forL q ub r (r.items.drop (i + 1)) L2 s2), fun σ2 H2 n2 => ⟨_, ?_, rfl, hlt, n2⟩, fun x H2 hy => ?_⟩
      · omega
      · obtain ⟨g2, m2, r2⟩ := hir.2 x H2 hy
        cases eq : q r.items[i] L' with
        | none =>
          rw [eq] at p'
          exact p'.elim
        | some L1 =>
          rw [eq] at p'
          refine ⟨mu', s', L', _, L1, m2, l'.mono g2, r2, eq, fun σ3 l3 => ⟨mu', s', L1, m2, l3, ?_⟩⟩
          dsimp only at p'
          cases eb : ub L1 s' with
          | nx L2 s2 =>
            rw [eb] at p'
            exact fun mu4 σ4 H4 g4 m4 l4 => ⟨mu4, s2, L2, (g'.trans g2).trans g4, m4, l4, PostS.ge (g2.trans g4) p'⟩
          | ct L2 s2 =>
            rw [eb] at p'
            exact fun mu4 σ4 H4 g4 m4 l4 => ⟨mu4, s2, L2, (g'.trans g2).trans g4, m4, l4, PostS.ge (g2.trans g4) p'⟩
          | bk L2 s2 =>
            rw [eb] at p'
            exact fun mu4 σ4 H4 g4 m4 l4 => p' mu4 σ4 H4 (g2.trans g4) m4 l4
          | rt d s2 =>
            rw [eb] at p'
            exact fun mu4 H4 v4 g4 m4 r4 => p' mu4 H4 v4 (g2.trans g4) m4 r4
          | ex C fs ds L2 s2 =>
            rw [eb] at p'
            exact fun mu4 σ4 H4 od g4 m4 l4 x4 => p' mu4 σ4 H4 od (g2.trans g4) m4 l4 x4
          | bad =>
            rw [eb] at p'
            exact p'.elim
    · rw [if_neg hk] at p'
      exact p'.elim
  · have hd : r.items.drop i = [] := List.drop_eq_nil_of_le (by omega)
    rw [hd] at p'
    unfold forL at p'
    by_cases hk : chk r s' = true
    · rw [if_pos hk] at p'
      exact .inl ⟨(ir mu' s' H' g' m' hk i).2 (List.getElem?_eq_none (by omega)), p' mu' σ' H' (Ge.refl _ _) m' l'⟩
    · rw [if_neg hk] at p'
      exact p'.elim
/-! what is walked -/
def iSeq (s : S) : D → Option Src
  | .lst xs => some ⟨xs, none⟩
  | .rdl xs => some ⟨xs, none⟩
  | .tup xs => some ⟨xs, none⟩
  | .ref n => match s[n]? with
    | some (.lst xs) => some ⟨xs, some (n, xs)⟩
    | _ => none
  | _ => none
def fSrc (f : F D) : F Src := fun L s => (f L s).bind fun d s1 => match iSeq s1 d with
  | some r => .ok r s1
  | none => .bad
theorem PI.weak {X : Cx} {tg e : Expr} {t t' : TI} (h : PI X tg e t) (w : ∀ σ H R, t' σ H R → t σ H R) : PI X tg e t' := ⟨fun pins s σ H R I q => h.run pins s σ H R I (w _ _ _ q)⟩
theorem PI.or {X : Cx} {tg e : Expr} {t t' : TI} (h : PI X tg e t) (h' : PI X tg e t') : PI X tg e (fun σ H R => t σ H R ∨ t' σ H R) := ⟨fun pins s σ H R I q => q.elim (h.run pins s σ H R I) (h'.run pins s σ H R I)⟩
theorem itr_lst {K : PySem.W.Frag} {mu : Mu} {H : Hp} {ds : List D} {a : Addr} {vs : List V} (h : KLst K a vs ∨ FixR mu H a (.lst vs)) (rs : RelDs K mu H ds vs) : ItR K mu H (Itl K a) ⟨ds, none⟩ := by
  intro mu' s' H' g m _ i
  have sq : SqL K H' a vs := h.elim .inr fun z => .inl (g.fixR z).1
  have rs' := rs.mono g
  refine ⟨fun d e => ?_, fun e => ?_⟩
  · obtain ⟨v, ev, rv⟩ := rs'.get e
    refine ⟨⟨vs, v, sq, ev⟩, fun x H2 hy => ?_⟩
    obtain ⟨e2, hx⟩ := hy
    subst e2
    have := hx vs sq
    rw [ev] at this
    cases this
    exact ⟨Ge.refl _ _, m, rv⟩
  · refine ⟨vs, sq, ?_⟩
    have hl := rs'.length
    have := List.getElem?_eq_none_iff.mp e
    have e2 : ds.length ≤ i := this
    omega
theorem itr_tup {K : PySem.W.Frag} {mu : Mu} {H : Hp} {ds : List D} {a : Addr} {vs : List V} (h : KTup K a vs ∨ Fix mu H a (.tup vs)) (rs : RelDs K mu H ds vs) : ItR K mu H (Itt K a) ⟨ds, none⟩ := by
  intro mu' s' H' g m _ i
  have sq : SqT K H' a vs := h.elim .inr fun z => .inl (.inl (g.fix z).1)
  have rs' := rs.mono g
  refine ⟨fun d e => ?_, fun e => ?_⟩
  · obtain ⟨v, ev, rv⟩ := rs'.get e
    refine ⟨⟨vs, v, sq, ev⟩, fun x H2 hy => ?_⟩
    obtain ⟨e2, hx⟩ := hy
    subst e2
    have := hx vs sq
    rw [ev] at this
    cases this
    exact ⟨Ge.refl _ _, m, rv⟩
  · refine ⟨vs, sq, ?_⟩
    have hl := rs'.length
    have := List.getElem?_eq_none_iff.mp e
    have e2 : ds.length ≤ i := this
    omega
theorem itr_ref {K : PySem.W.Frag} {mu : Mu} {H : Hp} {ds : List D} {a : Addr} {n : Nat} (ha : mu[n]? = some (some a)) : ItR K mu H (Itl K a) ⟨ds, some (n, ds)⟩ := by
  intro mu' s' H' g m hk i
  have e : s'[n]? = some (.lst ds) := by
    simpa [chk] using hk
  have ha' := g.rf n a ha
  obtain ⟨b, vs, e1, e2, e3, rs'⟩ := sq_ref (v := .ref a) m (by simp only [RelD]; exact ⟨a, ha', rfl⟩) e
  cases e1
  have sq : SqL K H' a vs := .of e3
  refine ⟨fun d e => ?_, fun e => ?_⟩
  · obtain ⟨v, ev, rv⟩ := rs'.get e
    refine ⟨⟨vs, v, sq, ev⟩, fun x H2 hy => ?_⟩
    obtain ⟨e2, hx⟩ := hy
    subst e2
    have := hx vs sq
    rw [ev] at this
    cases this
    exact ⟨Ge.refl _ _, m, rv⟩
  · refine ⟨vs, sq, ?_⟩
    have hl := rs'.length
    have := List.getElem?_eq_none_iff.mp e
    have e2 : ds.length ≤ i := this
    omega
theorem pI_seq {tg l : Expr} (hl : PE X l (tE X.K W f)) : PI X tg l (tI X.K W (fSrc f)) := by
  refine PI.weak (PI.or (pi_list hl) (pi_tup hl)) fun σ H Rr ⟨mu, s, L, m, l, p⟩ => ?_
  unfold fSrc at p
  cases e : f L s with
  | bad =>
    rw [e] at p
    exact p.elim
  | ex C fs ds s' =>
    rw [e] at p
    exact .inl ⟨mu, s, L, m, l, by rw [e]; exact p⟩
  | ok d s1 =>
    rw [e] at p
    simp only [R.bind] at p
    cases d <;> simp only [iSeq] at p <;> try exact p.elim
    · rename_i n
      cases en : s1[n]? with
      | none =>
        rw [en] at p
        exact p.elim
      | some o =>
        rw [en] at p
        cases o <;> try exact p.elim
        rename_i ds
        refine .inl ⟨mu, s, L, m, l, ?_⟩
        rw [e]
        intro mu' H' v g' m' r'
        obtain ⟨a, vs, ev, ea, eh, rs⟩ := sq_ref m' r' en
        exact ⟨a, ev, ⟨vs, .of eh⟩, p mu' H' _ g' m' (itr_ref ea)⟩
    · rename_i ds
      refine .inr ⟨mu, s, L, m, l, ?_⟩
      rw [e]
      intro mu' H' v g' m' r'
      obtain ⟨a, vs, ev, sq, rs⟩ := sq_tup r'
      simp only [RelD] at r'
      obtain ⟨a', vs', e1, h1, rs'⟩ := r'
      rw [ev] at e1
      cases e1
      exact ⟨a, ev, ⟨vs, sq⟩, p mu' H' _ g' m' (itr_tup h1 rs')⟩
    · rename_i ds
      refine .inl ⟨mu, s, L, m, l, ?_⟩
      rw [e]
      intro mu' H' v g' m' r'
      obtain ⟨a, vs, ev, sq, rs⟩ := sq_lst r'
      simp only [RelD] at r'
      obtain ⟨a', vs', e1, h1, rs'⟩ := r'
      rw [ev] at e1
      cases e1
      exact ⟨a, ev, ⟨vs, sq⟩, p mu' H' _ g' m' (itr_lst (.inr ⟨.inl h1.1, h1.2⟩) rs')⟩
    · rename_i ds
      refine .inl ⟨mu, s, L, m, l, ?_⟩
      rw [e]
      intro mu' H' v g' m' r'
      obtain ⟨a, vs, ev, sq, rs⟩ := sq_rdl r'
      simp only [RelD] at r'
      obtain ⟨a', vs', e1, h1, rs'⟩ := r'
      rw [ev] at e1
      cases e1
      exact ⟨a, ev, ⟨vs, sq⟩, p mu' H' _ g' m' (itr_lst h1 rs')⟩
/-- range(n), range(a, b) -/
@[irreducible] def rgOk (i : Int) : Bool := decide (-(2 ^ 62) ≤ i ∧ i < 2 ^ 62)
theorem rgOk_d {i : Int} (h : rgOk i = true) : -(2 ^ 62) ≤ i ∧ i < 2 ^ 62 := by
  unfold rgOk at h
  exact of_decide_eq_true h
def rgItems (lo : Int) (n : Nat) : List D := (List.range n).map fun (k : Nat) => .int (lo + (k : Int))
def dRng1 : List D → Option Src
  | [.int j] => if rgOk j = true then some ⟨rgItems 0 j.toNat, none⟩ else none
  | _ => none
def dRng2 : List D → Option Src
  | [.int i, .int j] => if rgOk i = true ∧ rgOk j = true then some ⟨rgItems i (j - i).toNat, none⟩ else none
  | _ => none
def fRng (o : List D → Option Src) (fa : F (List D)) : F Src := fun L s => (fa L s).bind fun ds s1 => match o ds with
  | some r => .ok r s1
  | none => .bad
theorem itr_rng {K : PySem.W.Frag} {mu : Mu} {H : Hp} {lo : Int} {n : Nat} : ItR K mu H (Itr lo n) ⟨rgItems lo n, none⟩ := by
  intro mu' s' H' g m _ i
  have hl : (rgItems lo n).length = n := by simp [rgItems]
  refine ⟨fun d e => ?_, fun e => ?_⟩
  · have hi := (List.getElem?_eq_some_iff.mp e).1
    have hi' : i < n := by rw [← hl]; exact hi
    refine ⟨hi', fun x H2 hy => ?_⟩
    obtain ⟨rfl, rfl⟩ := hy
    have e2 : (rgItems lo n)[i]? = some (.int (lo + (i : Int))) := by
      unfold rgItems
      rw [List.getElem?_map, List.getElem?_range hi']
      rfl
    have e3 : some (D.int (lo + (i : Int))) = some d := e2.symm.trans e
    cases e3
    exact ⟨Ge.refl _ _, m, rel_int.mpr rfl⟩
  · have := List.getElem?_eq_none_iff.mp e
    show n ≤ i
    rw [← hl]
    exact this
theorem pI_rng1 {tg a : Expr} {p : Pos} (hm : X.mg "range" = none) (ha : PA X [a] (tA X.K W fa)) (hg : Gl X "range" := by rfl) (hs : starEach [a] X.env = [(false, eval a X.env)] := by rfl) : PI X tg (.Call (.Name "range" p) [a] [] pos) (tI X.K W (fRng dRng1 fa)) := by
  refine PI.weak (pi_range1 hg hm ha hs) fun σ H Rr ⟨mu, s, L, m, l, p⟩ => ⟨mu, s, L, m, l, Post.step p fun ds s1 mu1 H1 vs g1 m1 r1 p1 => ?_⟩
  rcases ds with _ | ⟨d, _ | ⟨d2, ds⟩⟩
  · exact p1.elim
  · cases d <;> simp only [dRng1] at p1 <;> try exact p1.elim
    rename_i j
    simp only [RelDs] at r1
    obtain ⟨v1, r, rfl, q1, rfl⟩ := r1
    rw [rel_int.mp q1]
    by_cases hj : rgOk j = true
    · rw [if_pos hj] at p1
      have hb : -(2 ^ 62) ≤ j ∧ j < 2 ^ 62 := rgOk_d hj
      exact ⟨j, rfl, hb.1, hb.2, p1 mu1 H1 _ (Ge.refl _ _) m1 itr_rng⟩
    · rw [if_neg hj] at p1
      exact p1.elim
  · cases d <;> exact p1.elim
theorem pI_rng2 {tg a b : Expr} {p : Pos} (hm : X.mg "range" = none) (ha : PA X [a, b] (tA X.K W fa)) (hg : Gl X "range" := by rfl) (hs : starEach [a, b] X.env = [(false, eval a X.env), (false, eval b X.env)] := by rfl) (hs2 : starEach [b] X.env = [(false, eval b X.env)] := by rfl) :
    PI X tg (.Call (.Name "range" p) [a, b] [] pos) (tI X.K W (fRng dRng2 fa)) := by
  refine PI.weak (pi_range2 hg hm ha hs hs2) fun σ H Rr ⟨mu, s, L, m, l, p⟩ => ⟨mu, s, L, m, l, Post.step p fun ds s1 mu1 H1 vs g1 m1 r1 p1 => ?_⟩
  rcases ds with _ | ⟨d, _ | ⟨d2, _ | ⟨d3, ds⟩⟩⟩
  · exact p1.elim
  · cases d <;> exact p1.elim
  · cases d <;> simp only [dRng2] at p1 <;> try exact p1.elim
    cases d2 <;> simp only [dRng2] at p1 <;> try exact p1.elim
    rename_i i j
    simp only [RelDs] at r1
    obtain ⟨v1, r, rfl, q1, v2, r', rfl, q2, rfl⟩ := r1
    rw [rel_int.mp q1, rel_int.mp q2]
    by_cases hj : rgOk i = true ∧ rgOk j = true
    · rw [if_pos hj] at p1
      have hb : -(2 ^ 62) ≤ i ∧ i < 2 ^ 62 := rgOk_d hj.1
      have hb2 : -(2 ^ 62) ≤ j ∧ j < 2 ^ 62 := rgOk_d hj.2
      exact ⟨i, j, rfl, ⟨hb.1, hb.2, hb2.1, hb2.2⟩, p1 mu1 H1 _ (Ge.refl _ _) m1 itr_rng⟩
    · rw [if_neg hj] at p1
      exact p1.elim
  · cases d <;> cases d2 <;> exact p1.elim
/-! while -/
def whileL (t : F Bool) (body : FS) : Nat → Lc → S → RS
  | 0, _, _ => .bad
  | n + 1, L, s => (t L s).bindS L fun b s1 => if b = true then (match body L s1 with
      | .nx L2 s2 => whileL t body n L2 s2
      | .ct L2 s2 => whileL t body n L2 s2
      | .bk L2 s2 => .nx L2 s2
      | x => x) else .nx L s1
def sWhile (n : Nat) (t : F Bool) (body : FS) : FS := fun L s => whileL t body n L s
theorem pS_while {c : Expr} {body : List Stmt} {ub : FS} (n : Nat) (hp : PassesOwn (model X.prog X.w) X.A X.env X.xe) (hc : PT X c (tT X.K W t)) (hb : PSs X body (tS X.K W ub)) : PS X (.While c body [] pos) (tS X.K W (sWhile n t ub)) := by
  refine PS.weak (ps_while hp hc hb) fun D σ H ⟨mu, s, L, m, l, p⟩ => ?_
  refine ⟨fun k σ' H' => ∃ mu' s' L', Ge mu H mu' H' ∧ Sim X.K mu' s' H' ∧ LR X.K mu' H' L' σ' ∧ PostS X.K W D mu' H' (whileL t ub k L' s'), ⟨n, mu, s, L, Ge.refl _ _, m, l, p⟩, ?_⟩
  rintro k σ' H' ⟨mu', s', L', g', m', l', p'⟩
  cases k with
  | zero => exact p'.elim
  | succ k =>
    unfold whileL at p'
    refine ⟨mu', s', L', m', l', Post.stepS l' p' fun d s1 mu1 H1 v1 g1 m1 r1 p1 => ?_⟩
    subst r1
    cases d with
    | false => exact p1 mu1 σ' H1 (Ge.refl _ _) m1 (l'.mono g1)
    | true =>
      rw [if_pos rfl] at p1
      refine ⟨fun σ2 H2 => ∃ mu2 s2 L2, Ge mu H mu2 H2 ∧ Sim X.K mu2 s2 H2 ∧ LR X.K mu2 H2 L2 σ2 ∧ PostS X.K W D mu2 H2 (whileL t ub k L2 s2), fun σ2 H2 n2 => ⟨k, Nat.lt_succ_self _, n2⟩, mu1, s1, L', m1, l'.mono g1, ?_⟩
      cases eb : ub L' s1 with
      | nx L2 s2 =>
        rw [eb] at p1
        exact fun mu4 σ4 H4 g4 m4 l4 => ⟨mu4, s2, L2, (g'.trans g1).trans g4, m4, l4, PostS.ge g4 p1⟩
      | ct L2 s2 =>
        rw [eb] at p1
        exact fun mu4 σ4 H4 g4 m4 l4 => ⟨mu4, s2, L2, (g'.trans g1).trans g4, m4, l4, PostS.ge g4 p1⟩
      | bk L2 s2 =>
        rw [eb] at p1
        exact p1
      | rt d s2 =>
        rw [eb] at p1
        exact p1
      | ex C fs ds L2 s2 =>
        rw [eb] at p1
        exact p1
      | bad =>
        rw [eb] at p1
        exact p1.elim
/-! ### defs -/
def spI (K : PySem.W.Frag) (n : Nat) (G : List D → S → R D) : Sp := fun vs H Q E => ∃ mu s ds, Sim K mu s H ∧ RelDs K mu H ds vs ∧ ds.length = n ∧ Post K (fun c d _ H => E c d H) (RelD K) [] mu H Q (G ds s)
def fCall (n : Nat) (G : List D → S → R D) (fa : F (List D)) : F D := fun L s => (fa L s).bind fun ds s1 => if ds.length = n then G ds s1 else .bad
theorem weak_call {n : Nat} {G : List D → S → R D} (σ : L2.St) (H : Hp) (Q : VK) (hq : tE X.K W (fCall n G fa) σ H Q) : tCallS (spI X.K n G) (WE W) (tA X.K W fa) σ H Q := by
  obtain ⟨mu, s, L, m, l, p⟩ := hq
  refine ⟨mu, s, L, m, l, Post.step p fun ds s1 mu1 H1 vs g1 m1 r1 p1 => ?_⟩
  by_cases hn : ds.length = n
  · rw [if_pos hn] at p1
    refine ⟨mu1, s1, ds, m1, r1, hn, ?_⟩
    cases eg : G ds s1 with
    | ok d s2 =>
      rw [eg] at p1
      exact p1
    | ex C fs ds s2 =>
      rw [eg] at p1
      exact p1
    | bad =>
      rw [eg] at p1
      exact p1.elim
  · rw [if_neg hn] at p1
    exact p1.elim
theorem pE_call {x : Str} {p : Pos} {k n : Nat} {fA : Addr} {fd : FuncData} {ps : List Str} {G : List D → S → R D} (Fo : FnOk X.prog X.w X.K X.mg X.base (L2.CX X.prog X.w) k fA fd ps (spI X.K n G)) (hr : Room k X.A) (hm : X.mg x = some (.ref fA)) (hk : PySem.W.keepIn X.K (.ref fA) = true) (hb : Binds X.K fd ps []) (tk : Takes X W)
    (ha : PA X (e :: es) (tA X.K W fa)) (hg : Gl X x := by rfl) (hdb : (x == ("__debug__" : Str)) = false := by decide) (he : starEach (e :: es) X.env = (false, eval e X.env) :: starEach es X.env := by rfl) (hpl : (backTo pos (starEach es X.env)).any (·.1) = false := by rfl) :
    PE X (.Call (.Name x p) (e :: es) [] pos) (tE X.K W (fCall n G fa)) :=
  PE.weak (pe_callS Fo hr hg hm hk hb (fun σ => passAt tk σ) ha hdb he hpl) fun σ H Q q => weak_call σ H Q q
/-- a def from its body -/
def startD (N : Nat) (ds : List D) : Lc := ds.map some ++ List.replicate (N - ds.length) none
def RS.fin : RS → R D
  | .nx _ s' => .ok .non s'
  | .rt d s' => .ok d s'
  | .ex C fs vs _ s' => .ex C fs vs s'
  | _ => .bad
def runF (N : Nat) (body : FS) : List D → S → R D := fun ds s => (body (startD N ds) s).fin
theorem startD_lr {K : PySem.W.Frag} {mu : Mu} {H : Hp} {N : List Str} {ds : List D} {vs : List V} (r : RelDs K mu H ds vs) : LR K mu H (startD N.length ds) (L2.start N vs) where
  len := by
    unfold startD L2.start
    rw [List.length_append, List.length_append, List.length_map, List.length_map, List.length_replicate, List.length_replicate, r.length]
  at_ := fun i d e => by
    unfold startD at e
    rcases Nat.lt_or_ge i ds.length with hi | hi
    · rw [List.getElem?_append_left (by rw [List.length_map]; exact hi), List.getElem?_map, List.getElem?_eq_getElem hi] at e
      cases e
      obtain ⟨v, ev, rv⟩ := r.get (List.getElem?_eq_getElem hi)
      refine ⟨v, ?_, rv⟩
      unfold L2.start
      rw [List.getElem?_append_left (by rw [List.length_map, ← r.length]; exact hi), List.getElem?_map, ev]
      rfl
    · rw [List.getElem?_append_right (by rw [List.length_map]; exact hi), List.getElem?_replicate] at e
      split at e <;> cases e
theorem ok_fn {P : Program} {w : World} {K : PySem.W.Frag} {mg : Str → Option Value} {base : Heap} {x qual : Str} {st : Stmt} {f : Addr} {fd : FuncData} {N ps : List Str} {k : Nat} {fb : FS} (Fu : Fun K x qual st f fd) (Sc : FnScope N ps (defScope st))
    (hbody : ∀ (cdv : Value) (A : Around) (outer : List Env) (s : Shared) (H : Hp) (E : XK), Room k (A.deeper (envOfC qual (defScope st) s.heap.objs.size f cdv)) →
      Takes (cxOf (L2.CX P w) P w K mg base N qual (defScope st) f cdv A outer s H E) (fun cls d _ H => E cls d H) → PassesOwn (model P w) (A.deeper (envOfC qual (defScope st) s.heap.objs.size f cdv)) (cxOf (L2.CX P w) P w K mg base N qual (defScope st) f cdv A outer s H E).env (cxOf (L2.CX P w) P w K mg base N qual (defScope st) f cdv A outer s H E).xe →
      PSs (cxOf (L2.CX P w) P w K mg base N qual (defScope st) f cdv A outer s H E) (defBody st) (tS K (fun cls d _ H => E cls d H) fb)) :
    FnOk P w K mg base (L2.CX P w) (k + 1) f fd ps (spI K ps.length (runF N.length fb)) := by
  refine Fu.okX Sc (fun vs H Q E h => ?_) (fun cdv A outer s H vs Q E hr h => ?_)
  · obtain ⟨mu, s, ds, m, r, hl, _⟩ := h
    rw [← r.length, hl]
  · refine ⟨_, hbody cdv A outer s H E hr (takes_of rfl rfl rfl rfl) (passes_of rfl), ?_⟩
    obtain ⟨mu, s', ds, m, r, hl, p⟩ := h
    refine ⟨mu, s', startD N.length ds, m, startD_lr r, ?_⟩
    unfold runF at p
    cases eb : fb (startD N.length ds) s' with
    | nx L2 s2 =>
      rw [eb] at p
      exact fun mu4 σ4 H4 g4 m4 l4 => p mu4 H4 _ g4 m4 (rel_non.mpr rfl)
    | rt d s2 =>
      rw [eb] at p
      exact p
    | ex C fs ds L2 s2 =>
      rw [eb] at p
      exact fun mu4 σ4 H4 od g4 m4 l4 x4 => p mu4 H4 od g4 m4 x4
    | bk L2 s2 =>
      rw [eb] at p
      exact p.elim
    | ct L2 s2 =>
      rw [eb] at p
      exact p.elim
    | bad =>
      rw [eb] at p
      exact p.elim
end
end SI

namespace SI
open PySem PySem.Spec PyProof.Rows L2
section
variable {X : Cx} {W : WX} {a b c e : Expr} {f g h : F D} {t : F Bool} {fa : F (List D)} {es : List Expr} {pos : Pos} {st : Stmt} {sts : List Stmt} {u v : FS}
theorem PE.or {X : Cx} {e : Expr} {t t' : TE} (h : PE X e t) (h' : PE X e t') : PE X e (fun σ H Q => t σ H Q ∨ t' σ H Q) := ⟨fun pins s σ H Q I q => q.elim (h.run pins s σ H Q I) (h'.run pins s σ H Q I)⟩
theorem RelDs.atI {K : PySem.W.Frag} {mu : Mu} {H : Hp} {ds : List D} {vs : List V} {i : Int} {d : D} (r : RelDs K mu H ds vs) (h : L2.atI ds i = some d) : ∃ v, L2.atI vs i = some v ∧ RelD K mu H d v := by
  unfold L2.atI at h ⊢
  rw [← r.length]
  cases e : ixN ds.length i with
  | none =>
    rw [e] at h
    cases h
  | some j =>
    rw [e] at h
    exact r.get h
/-- list behind a value -/
def lstOf (s : S) : D → Option (List D)
  | .lst xs => some xs
  | .rdl xs => some xs
  | .ref n => match s[n]? with
    | some (.lst xs) => some xs
    | _ => none
  | _ => none
def seqOf (s : S) : D → Option (List D)
  | .lst xs => some xs
  | .rdl xs => some xs
  | .tup xs => some xs
  | .ref n => match s[n]? with
    | some (.lst xs) => some xs
    | _ => none
  | _ => none
theorem sq_lstOf {K : PySem.W.Frag} {mu : Mu} {s : S} {H : Hp} {d : D} {ds : List D} {v : V} (m : Sim K mu s H) (r : RelD K mu H d v) (h : lstOf s d = some ds) : ∃ a vs, v = .ref a ∧ SqL K H a vs ∧ RelDs K mu H ds vs := by
  cases d <;> simp only [lstOf] at h <;> try cases h
  · rename_i n
    cases en : s[n]? with
    | none =>
      rw [en] at h
      cases h
    | some o =>
      rw [en] at h
      cases o <;> try cases h
      obtain ⟨a, vs, ev, ea, eh, rs⟩ := sq_ref m r en
      exact ⟨a, vs, ev, .of eh, rs⟩
  · exact sq_lst r
  · exact sq_rdl r
theorem sq_seqOf {K : PySem.W.Frag} {mu : Mu} {s : S} {H : Hp} {d : D} {ds : List D} {v : V} (m : Sim K mu s H) (r : RelD K mu H d v) (h : seqOf s d = some ds) : ∃ a vs, v = .ref a ∧ (SqL K H a vs ∨ SqT K H a vs) ∧ RelDs K mu H ds vs := by
  cases d <;> simp only [seqOf] at h <;> try cases h
  · rename_i n
    cases en : s[n]? with
    | none =>
      rw [en] at h
      cases h
    | some o =>
      rw [en] at h
      cases o <;> try cases h
      obtain ⟨a, vs, ev, ea, eh, rs⟩ := sq_ref m r en
      exact ⟨a, vs, ev, .inl (.of eh), rs⟩
  · obtain ⟨a, vs, e1, e2, e3⟩ := sq_tup r
    exact ⟨a, vs, e1, .inr e2, e3⟩
  · obtain ⟨a, vs, e1, e2, e3⟩ := sq_lst r
    exact ⟨a, vs, e1, .inl e2, e3⟩
  · obtain ⟨a, vs, e1, e2, e3⟩ := sq_rdl r
    exact ⟨a, vs, e1, .inl e2, e3⟩
/-! ### subscripts -/
def dIx (s : S) (a b : D) : Option D := match b with
  | .int i => match a with
    | .str z => if z.length ≤ big then (L2.atI z.cps.toList i).map fun c => .str ⟨#[c]⟩ else none
    | a => (seqOf s a).bind fun xs => L2.atI xs i
  | _ => none
theorem opl_ix {K : PySem.W.Frag} : OpL K (rIx K) dIx := by
  intro mu s H a b d x y Q m ra rb e q
  unfold dIx at e
  cases b <;> try cases e
  rename_i i
  have ey := rel_int.mp rb
  cases a
  case str z =>
    dsimp only at e
    split at e
    · rename_i hz
      cases ec : L2.atI z.cps.toList i with
      | none =>
        rw [ec] at e
        cases e
      | some c =>
        rw [ec] at e
        cases e
        exact .inr (.inr ⟨z, i, c, rel_str.mp ra, ey, big_le hz, ec, q mu H _ (Ge.refl _ _) m (rel_str.mpr rfl)⟩)
    · cases e
  all_goals
    dsimp only at e
    cases es : seqOf s _ with
    | none =>
      rw [es] at e
      cases e
    | some xs =>
      rw [es] at e
      obtain ⟨p, vs, ev, sq, rs⟩ := sq_seqOf m ra es
      obtain ⟨v, e1, e2⟩ := rs.atI e
      rcases sq with sq | sq
      · exact .inl ⟨p, vs, i, v, ev, ey, sq, e1, q mu H v (Ge.refl _ _) m e2⟩
      · exact .inr (.inl ⟨p, vs, i, v, ev, ey, sq, e1, q mu H v (Ge.refl _ _) m e2⟩)
theorem pE_sub2 (ha : PE X a (tE X.K W f)) (hb : PE X b (tE X.K W g)) (hs : PlainIx b := by exact fun _ _ => rfl) : PE X (.Subscript a b pos) (tE X.K W (fOp dIx f g)) := pE_ix ix_seq opl_ix ha hb hs
/-! ### stores: o[i] = v -/
def PutL (K : PySem.W.Frag) (t : TSet) (o : S → D → D → D → Option S) : Prop :=
  ∀ (mu : Mu) (s s' : S) (H : Hp) (a b d : D) (x y z : V) (Q : Hp → Prop), Sim K mu s H → RelD K mu H a x → RelD K mu H b y → RelD K mu H d z → o s a b d = some s' →
    (∀ H', Ge mu H mu H' → Sim K mu s' H' → Q H') → t x y z H Q
def dPut (s : S) (a b d : D) : Option S := match a, b with
  | .ref n, .int i => match s[n]? with
    | some (.lst xs) => (ixN xs.length i).bind fun j => some (s.set n (.lst (xs.set j d)))
    | _ => none
  | _, _ => none
theorem putl_list {K : PySem.W.Frag} : PutL K rSetL dPut := by
  intro mu s s' H a b d x y z Q m ra rb rd e q
  unfold dPut at e
  split at e
  · rename_i n i
    split at e
    · rename_i xs hn
      obtain ⟨p, vs, ev, ea, eh, rs⟩ := sq_ref m ra hn
      cases ej : ixN xs.length i with
      | none =>
        rw [ej] at e
        cases e
      | some j =>
        rw [ej] at e
        cases e
        refine ⟨p, vs, i, j, ev, rel_int.mp rb, eh, by rw [← rs.length]; exact ej, ?_⟩
        exact q _ (Ge.put ea) (m.put ea ⟨_, upd_same, (rs.set rd j).mono (Ge.put ea)⟩)
    · cases e
  · cases e
def sPut (o : S → D → D → D → Option S) (fe fo fi : F D) : FS := fun L s => (fe L s).bindS L fun d s1 => (fo L s1).bindS L fun a s2 => (fi L s2).bindS L fun b s3 => match o s3 a b d with
  | some s' => .nx L s'
  | none => .bad
theorem pS_put {t : TSet} {o : S → D → D → D → Option S} {eo ei : Expr} {fo fi : F D} {p1 : Pos} (hl : PutL X.K t o) (hx : PS X (.Assign [.Subscript eo ei p1] e pos) (tAsg (tE X.K W f) (gSub (tE X.K W fo) (tE X.K W fi) t))) : PS X (.Assign [.Subscript eo ei p1] e pos) (tS X.K W (sPut o f fo fi)) := by
  refine PS.weak hx fun D σ H ⟨mu, s, L, m, l, p⟩ => ⟨mu, s, L, m, l, ?_⟩
  refine Post.stepS l p fun d s1 mu1 H1 v1 g1 m1 r1 p1 => ?_
  refine ⟨mu1, s1, L, m1, l.mono g1, Post.stepS (l.mono g1) p1 fun a s2 mu2 H2 v2 g2 m2 r2 p2 => ?_⟩
  refine ⟨mu2, s2, L, m2, (l.mono g1).mono g2, Post.stepS ((l.mono g1).mono g2) p2 fun b s3 mu3 H3 v3 g3 m3 r3 p3 => ?_⟩
  cases eo : o s3 a b d with
  | none =>
    rw [eo] at p3
    exact p3.elim
  | some s' =>
    rw [eo] at p3
    exact hl mu3 s3 s' H3 a b d v2 v3 v1 _ m3 (r2.mono g3) r3 ((r1.mono g2).mono g3) eo fun H' g' m' => p3 mu3 σ H' g' m' ((((l.mono g1).mono g2).mono g3).mono g')
/-! ### x op= e -/
def sAug (o : S → D → D → Option D) (i : Nat) (f : F D) : FS := fun L s => match L[i]? with
  | some (some d0) => (f L s).bindS L fun d1 s1 => match o s1 d0 d1 with
    | some d => .nx (L.set i (some d)) s1
    | none => .bad
  | _ => .bad
theorem pS_aug {i : Nat} {x : Str} {op : Operator} {r : TIp} {o : S → D → D → Option D} {pos' : Pos} (hN : X.N.Nodup) (ho : PIp X op r) (hl : OpL X.K r o) (he : PE X e (tE X.K W f)) (hi : X.N[i]? = some x := by rfl) (hx : Loc X.env.scope x := by first | exact Or.inl rfl | exact Or.inr rfl)
    (hf : X.fn x = true ∨ X.env.scope.names.lookup x = some .local := by first | exact .inl rfl | exact .inr rfl | assumption) : PS X (.AugAssign (.Name x pos') op e pos) (tS X.K W (sAug o i f)) := by
  refine PS.weak (ps_aug hN hi hx he ho hf) fun D σ H ⟨mu, s, L, m, l, p⟩ => ?_
  unfold sAug at p
  cases ei : L[i]? with
  | none =>
    rw [ei] at p
    exact p.elim
  | some od =>
    cases od with
    | none =>
      rw [ei] at p
      exact p.elim
    | some d0 =>
      rw [ei] at p
      obtain ⟨v, e1, r1⟩ := l.at_ i d0 ei
      refine ⟨v, e1, mu, s, L, m, l, Post.stepS l p fun d1 s1 mu1 H1 v1 g1 m1 r1' p1 => ?_⟩
      cases eo : o s1 d0 d1 with
      | none =>
        rw [eo] at p1
        exact p1.elim
      | some d =>
        rw [eo] at p1
        exact hl mu1 s1 H1 d0 d1 d v v1 _ m1 (r1.mono g1) r1' eo fun mu' H' v' g' m' r' => p1 mu' _ H' g' m' (((l.mono g1).mono g').set i r')
theorem opl_ip {K : PySem.W.Frag} {gi : Int → Int → Int} : OpL K (ipI gi) (dI2 yes2 fun i j => .int (gi i j)) := by
  intro mu s H a b d x y Q m ra rb e q
  cases a <;> simp only [dI2] at e <;> try cases e
  cases b <;> simp only [dI2] at e <;> try cases e
  rename_i i j
  exact ⟨i, j, rel_int.mp ra, rel_int.mp rb, q mu H _ (Ge.refl _ _) m (rel_int.mpr rfl)⟩
theorem pS_augI {i : Nat} {x : Str} {pos' : Pos} (hN : X.N.Nodup) (he : PE X e (tE X.K W f)) (hi : X.N[i]? = some x := by rfl) (hx : Loc X.env.scope x := by first | exact Or.inl rfl | exact Or.inr rfl)
    (hf : X.fn x = true ∨ X.env.scope.names.lookup x = some .local := by first | exact .inl rfl | exact .inr rfl | assumption) : PS X (.AugAssign (.Name x pos') .Add e pos) (tS X.K W (sAug dAddI i f)) := pS_aug hN ip_add opl_ip he hi hx hf
/-! xs[i] op= e -/
theorem pget_list : PGet X (rIxL X.K) := by
  intro pins s σ H o i ov iv Q I ro ri hh
  obtain ⟨p, xs, k, z, rfl, rfl, hq, he, q⟩ := hh
  cases ro
  obtain ⟨t, rfl⟩ := ri
  obtain ⟨its, r, pl, hz⟩ := I.list hq
  obtain ⟨j, h1, h2, h3, h4, h5⟩ := atI_get he
  obtain ⟨w, ew, rw'⟩ := r.get h2
  have hl := r.length
  have hn := line63
  have done : EP X pins σ Q w s := ⟨z, H, I, rw', q⟩
  rcases Int.lt_or_le k 0 with h0 | h0
  · have hj : (k + (its.toArray.size : Int)).toNat = j := by
      rw [seqIndex_neg h0 h4] at h1
      rw [List.size_toArray, ← hl]
      exact Option.some.inj h1
    exact wpAny_getItem_list_neg pl.isList h0 (by rw [List.size_toArray] <;> omega) (by omega) (by rw [hj]; simpa using ew) done
  · have hj : k.toNat = j := by
      rw [seqIndex_of h0 h5] at h1
      exact Option.some.inj h1
    exact wpAny_getItem_list pl.isList h0 (by omega) (by rw [hj]; simpa using ew) done
def dIxL (s : S) (a b : D) : Option D := match b with
  | .int i => (lstOf s a).bind fun xs => L2.atI xs i
  | _ => none
theorem opl_ixL {K : PySem.W.Frag} : OpL K (rIxL K) dIxL := by
  intro mu s H a b d x y Q m ra rb e q
  unfold dIxL at e
  cases b <;> try cases e
  rename_i i
  dsimp only at e
  cases es : lstOf s a with
  | none =>
    rw [es] at e
    cases e
  | some xs =>
    rw [es] at e
    obtain ⟨p, vs, ev, sq, rs⟩ := sq_lstOf m ra es
    obtain ⟨v, e1, e2⟩ := rs.atI e
    exact ⟨p, vs, i, v, ev, rel_int.mp rb, sq, e1, q mu H v (Ge.refl _ _) m e2⟩
def sAugS (get op : S → D → D → Option D) (put : S → D → D → D → Option S) (fo fi fe : F D) : FS := fun L s => (fo L s).bindS L fun a s1 => (fi L s1).bindS L fun b s2 => match get s2 a b with
  | some d0 => (fe L s2).bindS L fun d1 s3 => match op s3 d0 d1 with
    | some d => match put s3 a b d with
      | some s' => .nx L s'
      | none => .bad
    | none => .bad
  | none => .bad
theorem pS_augS {eo ei : Expr} {fo fi : F D} {p1 : Pos} {op : Operator} {tg : V → V → Hp → VK → Prop} {ti : TIp} {ts : TSet} {get o : S → D → D → Option D} {put : S → D → D → D → Option S} (hg : OpL X.K tg get) (ho : OpL X.K ti o) (hp : PutL X.K ts put)
    (hx : PS X (.AugAssign (.Subscript eo ei p1) op e pos) (tAugS (tE X.K W fo) (tE X.K W fi) (tE X.K W f) tg ti ts)) : PS X (.AugAssign (.Subscript eo ei p1) op e pos) (tS X.K W (sAugS get o put fo fi f)) := by
  refine PS.weak hx fun D σ H ⟨mu, s, L, m, l, p⟩ => ⟨mu, s, L, m, l, ?_⟩
  refine Post.stepS l p fun a s1 mu1 H1 v1 g1 m1 r1 p1 => ?_
  refine ⟨mu1, s1, L, m1, l.mono g1, Post.stepS (l.mono g1) p1 fun b s2 mu2 H2 v2 g2 m2 r2 p2 => ?_⟩
  have r1' := r1.mono g2
  have l2 := (l.mono g1).mono g2
  cases eg : get s2 a b with
  | none =>
    rw [eg] at p2
    exact p2.elim
  | some d0 =>
    rw [eg] at p2
    refine hg mu2 s2 H2 a b d0 v1 v2 _ m2 r1' r2 eg fun mu3 H3 v3 g3 m3 r3 => ?_
    refine ⟨mu3, s2, L, m3, l2.mono g3, Post.stepS (l2.mono g3) (PostS.ge g3 p2) fun d1 s4 mu4 H4 v4 g4 m4 r4 p4 => ?_⟩
    cases eo : o s4 d0 d1 with
    | none =>
      rw [eo] at p4
      exact p4.elim
    | some d =>
      rw [eo] at p4
      refine ho mu4 s4 H4 d0 d1 d v3 v4 _ m4 (r3.mono g4) r4 eo fun mu5 H5 v5 g5 m5 r5 => ?_
      dsimp only at p4
      cases ep : put s4 a b d with
      | none =>
        rw [ep] at p4
        exact p4.elim
      | some s' =>
        rw [ep] at p4
        exact hp mu5 s4 s' H5 a b d v1 v2 v5 _ m5 (((r1'.mono g3).mono g4).mono g5) (((r2.mono g3).mono g4).mono g5) r5 ep fun H6 g6 m6 => p4 mu5 σ H6 (g5.trans g6) m6 ((((l2.mono g3).mono g4).mono g5).mono g6)
theorem pS_augSL {eo ei : Expr} {fo fi : F D} {p1 : Pos} (ho : PE X eo (tE X.K W fo)) (hi : PE X ei (tE X.K W fi)) (he : PE X e (tE X.K W f)) (ha : ∀ ov iv new, augStore ei ov iv new = (do holding [new, ov, iv] (setItem ov iv new); release [new, ov, iv] []; pure .next) := by intros; rfl) :
    PS X (.AugAssign (.Subscript eo ei p1) .Add e pos) (tS X.K W (sAugS dIxL dAddI dPut fo fi f)) := pS_augS opl_ixL opl_ip putl_list (ps_augS ho hi pget_list he ip_add set_list ha)
/-! ### built-ins -/
theorem rel1 {K : PySem.W.Frag} {mu : Mu} {H : Hp} {d : D} {vs : List V} (r : RelDs K mu H [d] vs) : ∃ v, vs = [v] ∧ RelD K mu H d v := by
  simp only [RelDs] at r
  obtain ⟨v, r', rfl, h1, rfl⟩ := r
  exact ⟨v, rfl, h1⟩
theorem rel2 {K : PySem.W.Frag} {mu : Mu} {H : Hp} {d d2 : D} {vs : List V} (r : RelDs K mu H [d, d2] vs) : ∃ v v2, vs = [v, v2] ∧ RelD K mu H d v ∧ RelD K mu H d2 v2 := by
  simp only [RelDs] at r
  obtain ⟨v, r', rfl, h1, v2, r'', rfl, h2, rfl⟩ := r
  exact ⟨v, v2, rfl, h1, h2⟩
def bInt (_ : S) : List D → Option D
  | [.int i] => some (.int i)
  | [.bl k] => some (.int (if k = true then 1 else 0))
  | _ => none
theorem cbl_int {K : PySem.W.Frag} : CbL K (fun xs H Q => (∃ i, xs = [.int i] ∧ Q (.int i) H) ∨ ∃ k : Bool, xs = [.bl k] ∧ Q (.int (if k then 1 else 0)) H) bInt := by
  intro mu s H ds d vs Q m r e q
  rcases ds with _ | ⟨d1, _ | ⟨d2, ds⟩⟩
  · cases e
  · obtain ⟨v, rfl, r1⟩ := rel1 r
    cases d1 <;> simp only [bInt] at e <;> cases e
    · exact .inr ⟨_, by rw [rel_bl.mp r1], q mu H _ (Ge.refl _ _) m (rel_int.mpr rfl)⟩
    · exact .inl ⟨_, by rw [rel_int.mp r1], q mu H _ (Ge.refl _ _) m (rel_int.mpr rfl)⟩
  · cases d1 <;> cases e
theorem pE_int1 {p : Pos} (hm : X.mg "int" = none) (ha : PA X [e] (tA X.K W fa)) (hg : Gl X "int" := by rfl) (he : starEach [e] X.env = (false, eval e X.env) :: starEach [] X.env := by rfl) : PE X (.Call (.Name "int" p) [e] [] pos) (tE X.K W (fCB bInt fa)) :=
  pE_cty call_int1 cbl_int hm (by decide +kernel) ha hg (by decide) (by decide) he rfl
def bLen (s : S) : List D → Option D
  | [.str z] => if z.length ≤ big then some (.int z.length) else none
  | [d] => (seqOf s d).map fun xs => .int xs.length
  | _ => none
theorem cbl_len {K : PySem.W.Frag} : CbL K (fun xs H Q => (∃ p ys, xs = [.ref p] ∧ (SqL K H p ys ∨ SqT K H p ys) ∧ Q (.int ys.length) H) ∨ ∃ z, xs = [.str z] ∧ z.length ≤ sizeLine ∧ Q (.int z.length) H) bLen := by
  intro mu s H ds d vs Q m r e q
  rcases ds with _ | ⟨d1, _ | ⟨d2, ds⟩⟩
  · cases e
  · obtain ⟨v, rfl, r1⟩ := rel1 r
    unfold bLen at e
    split at e
    · rename_i z heq
      cases heq
      split at e
      · rename_i hz
        cases e
        exact .inr ⟨z, by rw [rel_str.mp r1], big_le hz, q mu H _ (Ge.refl _ _) m (rel_int.mpr rfl)⟩
      · cases e
    · rename_i heq
      cases heq
      cases es : seqOf s d1 with
      | none =>
        rw [es] at e
        cases e
      | some xs =>
        rw [es] at e
        cases e
        obtain ⟨p, ys, ev, sq, rs⟩ := sq_seqOf m r1 es
        refine .inl ⟨p, ys, by rw [ev], sq, ?_⟩
        rw [← rs.length]
        exact q mu H _ (Ge.refl _ _) m (rel_int.mpr rfl)
    · cases e
  · unfold bLen at e
    split at e <;> first | (rename_i heq; cases heq) | cases e
theorem pE_len {p : Pos} (hm : X.mg "len" = none) (ha : PA X [e] (tA X.K W fa)) (hg : Gl X "len" := by rfl) (he : starEach [e] X.env = (false, eval e X.env) :: starEach [] X.env := by rfl) : PE X (.Call (.Name "len" p) [e] [] pos) (tE X.K W (fCB bLen fa)) :=
  pE_cb (call_len_seq.or call_len_str) cbl_len hm PySem.boot_len ha hg (by decide) (by decide) he rfl
/-! ### slices -/
def fNo : F (Option Int) := fun _ s => .ok none s
def fPt (f : F D) : F (Option Int) := fun L s => (f L s).bind fun d s1 => match d with
  | .int i => .ok (some i) s1
  | _ => .bad
def tO (K : PySem.W.Frag) (W : WX) (f : F (Option Int)) : TO := fun σ H Q => ∃ mu s L, Sim K mu s H ∧ LR K mu H L σ ∧ Post K W (fun _ _ (a b : Option Int) => a = b) σ mu H Q (f L s)
theorem PO.weak {X : Cx} {e : Option Expr} {t t' : TO} (h : PO X e t) (w : ∀ σ H Q, t' σ H Q → t σ H Q) : PO X e t' := ⟨fun pins s σ H Q I q => h.run pins s σ H Q I (w _ _ _ q)⟩
theorem pO_none : PO X none (tO X.K W fNo) := PO.weak po_none fun σ H Q ⟨mu, s, L, m, l, p⟩ => p mu H _ (Ge.refl _ _) m rfl
theorem pO_some (hh : PE X e (tE X.K W f)) : PO X (some e) (tO X.K W (fPt f)) := by
  refine PO.weak (po_some hh) fun σ H Q ⟨mu, s, L, m, l, p⟩ => ⟨mu, s, L, m, l, Post.step p fun d s1 mu1 H1 v1 g1 m1 r1 p1 => ?_⟩
  cases d <;> try exact p1.elim
  exact ⟨_, rel_int.mp r1, p1 mu1 H1 _ (Ge.refl _ _) m1 rfl⟩
def cutD (xs : List D) (lo hi : Option Int) : List D := (xs.drop (HT.sIx xs.length 0 lo)).take (HT.sIx xs.length xs.length hi - HT.sIx xs.length 0 lo)
theorem cut_rel {K : PySem.W.Frag} {mu : Mu} {H : Hp} {ds : List D} {vs : List V} (r : RelDs K mu H ds vs) (lo hi : Option Int) : RelDs K mu H (cutD ds lo hi) (cutV vs lo hi) := by
  unfold cutD cutV
  rw [r.length]
  exact (r.drop _).take _
/-- a slice: of a tuple a tuple, of a list a list that is never changed -/
def dSl (s : S) (d : D) (lo hi : Option Int) : Option D := match d with
  | .tup xs => some (.tup (cutD xs lo hi))
  | d => (lstOf s d).map fun xs => .lst (cutD xs lo hi)
def fSl (f : F D) (l h : F (Option Int)) : F D := fun L s => (f L s).bind fun d s1 => (l L s1).bind fun lo s2 => (h L s2).bind fun hi s3 => match dSl s3 d lo hi with
  | some r => .ok r s3
  | none => .bad
end
end SI

namespace SI
open PySem PySem.Spec PyProof.Rows L2
section
variable {X : Cx} {W : WX} {a b c e : Expr} {f g h : F D} {t : F Bool} {fa : F (List D)} {es : List Expr} {pos : Pos} {st : Stmt} {sts : List Stmt} {u v : FS}
/-! ### slices, tuples -/
theorem weak_sl {lo hi : Option Expr} {fl fh : F (Option Int)} {p2 : Pos} (he : PE X e (tE X.K W f)) (hl : PO X lo (tO X.K W fl)) (hh : PO X hi (tO X.K W fh)) : PE X (.Subscript e (.Slice lo hi none p2) pos) (tE X.K W (fSl f fl fh)) := by
  refine PE.weak (pe_slice (SlR.or sl_list sl_tupA) he hl hh) fun σ H Q ⟨mu, s, L, m, l, p⟩ => ⟨mu, s, L, m, l, Post.step p fun d s1 mu1 H1 v1 g1 m1 r1 p1 => ?_⟩
  refine ⟨mu1, s1, L, m1, l.mono g1, Post.step p1 fun o2 s2 mu2 H2 v2 g2 m2 r2 p2 => ?_⟩
  subst r2
  refine ⟨mu2, s2, L, m2, (l.mono g1).mono g2, Post.step p2 fun o3 s3 mu3 H3 v3 g3 m3 r3 p3 => ?_⟩
  subst r3
  have rd := (r1.mono g2).mono g3
  unfold dSl at p3
  split at p3
  · rename_i r heq
    split at heq
    · rename_i xs
      cases heq
      obtain ⟨a, vs, ev, sq, rs⟩ := sq_tup rd
      refine .inr ⟨a, vs, ev, sq, fun hw => ?_, fun hw q hq => ?_⟩
      · refine p3 mu3 H3 _ (Ge.refl _ _) m3 ?_
        have e1 : cutD xs o2 o3 = xs := by
          unfold cutD
          rw [rs.length, hw.1, hw.2, List.drop_zero, Nat.sub_zero, ← rs.length]
          exact List.take_length
        rw [e1, ← ev]
        exact rd
      · exact p3 mu3 _ _ (Ge.pure m3 hq) (m3.pure hq) (rel_tup m3 hq (cut_rel rs o2 o3))
    · rename_i hnt
      cases el : lstOf s3 d with
      | none =>
        rw [el] at heq
        cases heq
      | some xs =>
        rw [el] at heq
        cases heq
        obtain ⟨a, vs, ev, sq, rs⟩ := sq_lstOf m3 rd el
        exact .inl ⟨a, vs, ev, sq, fun q hq => p3 mu3 _ _ (Ge.pure m3 hq) (m3.pure hq) (rel_lst m3 hq (cut_rel rs o2 o3))⟩
  · exact p3.elim
/-! ### data that == tells apart -/
mutual
def toPy (s : S) : D → Option PyData
  | .non => some .none
  | .bl b => some (.bool b)
  | .int i => some (.int i)
  | .str x => some (.str x)
  | .tup xs => (toPys s xs).map .tuple
  | .lst xs => (toPys s xs).map .list
  | _ => none
def toPys (s : S) : List D → Option (List PyData)
  | [] => some []
  | x :: xs => match toPy s x, toPys s xs with
    | some y, some ys => some (y :: ys)
    | _, _ => none
end
/-- .. with the tracked lists of flat items -/
def toPyT (s : S) : D → Option PyData
  | .ref n => match s[n]? with
    | some (.lst xs) => (toPys s xs).map .list
    | _ => none
  | d => toPy s d
mutual
theorem dp_of {K : PySem.W.Frag} {mu : Mu} {s : S} {H : Hp} : ∀ (d : D) (v : V) (y : PyData), RelD K mu H d v → toPy s d = some y → Dp K H v y
  | .non, v, y, r, e => by
    simp only [toPy] at e
    cases e
    rw [rel_non.mp r]
    exact .non
  | .bl b, v, y, r, e => by
    simp only [toPy] at e
    cases e
    rw [rel_bl.mp r]
    exact .bl _
  | .int b, v, y, r, e => by
    simp only [toPy] at e
    cases e
    rw [rel_int.mp r]
    exact .int _
  | .str b, v, y, r, e => by
    simp only [toPy] at e
    cases e
    rw [rel_str.mp r]
    exact .str _
  | .tup xs, v, y, r, e => by
    simp only [toPy] at e
    cases e1 : toPys s xs with
    | none =>
      rw [e1] at e
      cases e
    | some ys =>
      rw [e1] at e
      cases e
      obtain ⟨a, vs, ev, sq, rs⟩ := sq_tup r
      rw [ev]
      exact .tup sq (dps_of xs vs ys rs e1)
  | .lst xs, v, y, r, e => by
    simp only [toPy] at e
    cases e1 : toPys s xs with
    | none =>
      rw [e1] at e
      cases e
    | some ys =>
      rw [e1] at e
      cases e
      obtain ⟨a, vs, ev, sq, rs⟩ := sq_lst r
      rw [ev]
      exact .lst sq (dps_of xs vs ys rs e1)
  | .ty _, _, _, _, e => by simp only [toPy] at e; cases e
  | .rdl _, _, _, _, e => by simp only [toPy] at e; cases e
  | .gl _, _, _, _, e => by simp only [toPy] at e; cases e
  | .ref _, _, _, _, e => by simp only [toPy] at e; cases e
  | .dk _ _, _, _, _, e => by simp only [toPy] at e; cases e
  | .dt _ _, _, _, _, e => by simp only [toPy] at e; cases e
  | .ins _ _ _, _, _, _, e => by simp only [toPy] at e; cases e
theorem dps_of {K : PySem.W.Frag} {mu : Mu} {s : S} {H : Hp} : ∀ (ds : List D) (vs : List V) (ys : List PyData), RelDs K mu H ds vs → toPys s ds = some ys → DpAll K H vs ys
  | [], vs, ys, r, e => by
    simp only [toPys] at e
    cases e
    simp only [RelDs] at r
    subst r
    exact .nil
  | d :: ds, vs, ys, r, e => by
    simp only [toPys] at e
    simp only [RelDs] at r
    obtain ⟨v, vr, rfl, r1, r2⟩ := r
    cases e1 : toPy s d with
    | none =>
      rw [e1] at e
      cases e
    | some y =>
      cases e2 : toPys s ds with
      | none =>
        rw [e1, e2] at e
        cases e
      | some yr =>
        rw [e1, e2] at e
        cases e
        exact .cons (dp_of d v y r1 e1) (dps_of ds vr yr r2 e2)
end
theorem dp_ofT {K : PySem.W.Frag} {mu : Mu} {s : S} {H : Hp} {d : D} {v : V} {y : PyData} (m : Sim K mu s H) (r : RelD K mu H d v) (e : toPyT s d = some y) : Dp K H v y := by
  unfold toPyT at e
  split at e
  · rename_i n
    split at e
    · rename_i xs hn
      cases e1 : toPys s xs with
      | none =>
        rw [e1] at e
        cases e
      | some ys =>
        rw [e1] at e
        cases e
        obtain ⟨a, vs, ev, ea, eh, rs⟩ := sq_ref m r hn
        rw [ev]
        exact .lst (.of eh) (dps_of xs vs ys rs e1)
    · cases e
  · exact dp_of d v y r e
def dEqD (neg : Bool) (s : S) (a b : D) : Option D := match toPyT s a, toPyT s b with
  | some x, some y => if SeqAt.shaped x = true ∧ SeqAt.shaped y = true then some (.bl (if neg = true then !PyData.eqv x y else PyData.eqv x y)) else none
  | _, _ => none
theorem opl_eqD {K : PySem.W.Frag} : OpL K (rEqD K) (dEqD false) := by
  intro mu s H a b d x y Q m ra rb e q
  unfold dEqD at e
  split at e
  · rename_i p1 p2 h1 h2
    split at e
    · rename_i hs
      cases e
      exact ⟨p1, p2, dp_ofT m ra h1, dp_ofT m rb h2, hs.1, hs.2, q mu H _ (Ge.refl _ _) m (rel_bl.mpr rfl)⟩
    · cases e
  · cases e
theorem pE_eq {k : Nat} (hr : Room k X.A) (ha : PE X a (tE X.K W f)) (hb : PE X b (tE X.K W g)) : PE X (.Compare a [.Eq] [b] pos) (tE X.K W (fOp (dEqD false) f g)) := pE_cmp (op_eqD hr.units) opl_eqD ha hb
/-! is -/
def dIs (neg : Bool) (_ : S) (a b : D) : Option D := match b with
  | .non => some (.bl (if neg = true then !decide (a = .non) else decide (a = .non)))
  | .bl k => match a with
    | .bl j => some (.bl (if neg = true then !decide (j = k) else decide (j = k)))
    | _ => none
  | _ => none
/-! ### instances -/
theorem zip_look {K : PySem.W.Frag} {mu : Mu} {H : Hp} {n : Str} : ∀ {fs : List Str} {ds : List D} {vs : List V} {d : D}, RelDs K mu H ds vs → (fs.zip ds).lookup n = some d → ∃ v, (fs.zip vs).lookup n = some v ∧ RelD K mu H d v
  | [], ds, vs, d, r, e => by simp at e
  | x :: fs, [], vs, d, r, e => by simp at e
  | x :: fs, y :: ds, vs, d, r, e => by
    simp only [RelDs] at r
    obtain ⟨v, vr, rfl, r1, r2⟩ := r
    simp only [List.zip_cons_cons, List.lookup_cons] at e ⊢
    cases hb : n == x with
    | true =>
      rw [hb] at e
      cases e
      exact ⟨v, rfl, r1⟩
    | false =>
      rw [hb] at e
      exact zip_look r2 e
def insOf (s : S) : D → Option (Addr × List Str × List D)
  | .ins C fs vs => some (C, fs, vs)
  | .ref n => match s[n]? with
    | some (.ins C fs vs) => some (C, fs, vs)
    | _ => none
  | .adr _ (.ins C fs vs) => some (C, fs, vs)
  | _ => none
theorem ins_of {K : PySem.W.Frag} {mu : Mu} {s : S} {H : Hp} {d : D} {v : V} {C : Addr} {fs : List Str} {ds : List D} (m : Sim K mu s H) (r : RelD K mu H d v) (e : insOf s d = some (C, fs, ds)) :
    ∃ a dx vs, v = .ref a ∧ H a = some (.ins C dx (fs.zip vs)) ∧ fs.length = vs.length ∧ RelDs K mu H ds vs := by
  cases d <;> simp only [insOf] at e <;> try cases e
  · rename_i n
    cases en : s[n]? with
    | none =>
      rw [en] at e
      cases e
    | some o =>
      rw [en] at e
      cases o <;> cases e
      simp only [RelD] at r
      obtain ⟨a, ea, ev⟩ := r
      rcases m.obj n _ en with z | ⟨b, eb, r⟩
      · cases z
      · rw [ea] at eb
        cases eb
        obtain ⟨dx, vs, h1, h2, h3⟩ := r
        exact ⟨a, dx, vs, ev, h1, h2, h3⟩
  · simp only [RelD] at r
    obtain ⟨a, dx, vs, h1, h2, _, h3, h4⟩ := r
    exact ⟨a, dx, vs, h1, h2, h3, h4⟩
  · rename_i b d
    cases d <;> simp only [insOf] at e <;> try cases e
    simp only [RelD] at r
    obtain ⟨_, a, dx, vs, h1, h2, _, h3, h4⟩ := r
    exact ⟨a, dx, vs, h1, h2, h3, h4⟩
/-- o.n, o an instance of one of these classes -/
def fFld (cs : List Addr) (n : Str) (f : F D) : F D := fun L s => (f L s).bind fun d s1 => match insOf s1 d with
  | some (C, fs, vs) => if C ∈ cs then (match (fs.zip vs).lookup n with
    | some r => .ok r s1
    | none => .bad) else .bad
  | none => .bad
theorem pE_fld {cs : List Addr} {n : Str} (hC : ∀ C ∈ cs, Cls X.K C ∧ NoAttr X.K C n) (he : PE X e (tE X.K W f)) (hb : attributeBase e n X.env (eval e X.env) = eval e X.env := by rfl) : PE X (.Attribute e n pos) (tE X.K W (fFld cs n f)) := by
  refine PE.weak (pe_fld he hb) fun σ H Q ⟨mu, s, L, m, l, p⟩ => ⟨mu, s, L, m, l, Post.step p fun d s1 mu1 H1 v1 g1 m1 r1 p1 => ?_⟩
  cases ei : insOf s1 d with
  | none =>
    rw [ei] at p1
    exact p1.elim
  | some z =>
    obtain ⟨C, fs, ds⟩ := z
    rw [ei] at p1
    dsimp only at p1
    split at p1
    · rename_i hc
      cases el : (fs.zip ds).lookup n with
      | none =>
        rw [el] at p1
        exact p1.elim
      | some r =>
        rw [el] at p1
        obtain ⟨a, dx, vs, ev, eh, hl, rs⟩ := ins_of m1 r1 ei
        obtain ⟨v, e1, e2⟩ := zip_look rs el
        exact ⟨a, C, dx, _, v, ev, eh, (hC C hc).1, (hC C hc).2, e1, p1 mu1 H1 v (Ge.refl _ _) m1 e2⟩
    · exact p1.elim
/-- o.n = e, o a tracked instance -/
def putN (n : Str) (d : D) : List Str → List D → List Str × List D
  | g :: fs, x :: vs => if g = n then (g :: fs, d :: vs) else ((g :: (putN n d fs vs).1), (x :: (putN n d fs vs).2))
  | _, _ => ([n], [d])
theorem put_rel {K : PySem.W.Frag} {mu : Mu} {H : Hp} {n : Str} {d : D} {v : V} (r : RelD K mu H d v) : ∀ {fs : List Str} {ds : List D} {vs : List V}, fs.length = vs.length → RelDs K mu H ds vs →
    ∃ vs', putF n v (fs.zip vs) = (putN n d fs ds).1.zip vs' ∧ (putN n d fs ds).1.length = vs'.length ∧ RelDs K mu H (putN n d fs ds).2 vs' ∧ vs'.length ≤ vs.length + 1
  | [], ds, vs, hl, rs => by
    have e : vs = [] := by cases vs with
      | nil => rfl
      | cons => simp at hl
    subst e
    exact ⟨[v], by simp [putN, putF], by simp [putN], by simp only [putN]; exact .cons r .nil, by simp⟩
  | g :: fs, [], vs, hl, rs => by
    simp only [RelDs] at rs
    subst rs
    simp at hl
  | g :: fs, x :: ds, vs, hl, rs => by
    simp only [RelDs] at rs
    obtain ⟨w, vr, rfl, r1, r2⟩ := rs
    simp only [List.length_cons] at hl
    by_cases hg : g = n
    · refine ⟨v :: vr, ?_, ?_, ?_, by simp⟩
      · simp only [List.zip_cons_cons, putF, putN, hg, if_true]
      · simp only [putN, hg, if_true, List.length_cons]
        omega
      · simp only [putN, hg, if_true]
        exact .cons r r2
    · obtain ⟨vs', e1, e2, e3, e4⟩ := put_rel (n := n) (fs := fs) r (by omega) r2
      refine ⟨w :: vs', ?_, ?_, ?_, ?_⟩
      · simp only [List.zip_cons_cons, putF, putN, hg, if_false, e1]
      · simp only [putN, hg, if_false, List.length_cons]
        omega
      · simp only [putN, hg, if_false]
        exact .cons r1 e3
      · simp only [List.length_cons]
        omega
def sFldT (cs : List Addr) (n : Str) (fo f : F D) : FS := fun L s => (f L s).bindS L fun d s1 => (fo L s1).bindS L fun o s2 => match o with
  | .ref k => match s2[k]? with
    | some (.ins C fs vs) => if C ∈ cs ∧ fs.length < 1000 then .nx L (s2.set k (.ins C (putN n d fs vs).1 (putN n d fs vs).2)) else .bad
    | _ => .bad
  | _ => .bad
theorem pS_fld {cs : List Addr} {n : Str} {eo : Expr} {fo : F D} {p1 : Pos} (hC : ∀ C ∈ cs, Cls X.K C ∧ NoAttr X.K C n) (ho : PE X eo (tE X.K W fo)) (he : PE X e (tE X.K W f)) (hs : swapsWith e (some (.Attribute eo n p1)) pos.line X.env = pure false := by rfl) :
    PS X (.Assign [.Attribute eo n p1] e pos) (tS X.K W (sFldT cs n fo f)) := by
  refine PS.weak (ps_fld ho he hs) fun D σ H ⟨mu, s, L, m, l, p⟩ => ⟨mu, s, L, m, l, ?_⟩
  refine Post.stepS l p fun d s1 mu1 H1 v1 g1 m1 r1 p1 => ?_
  refine ⟨mu1, s1, L, m1, l.mono g1, Post.stepS (l.mono g1) p1 fun o s2 mu2 H2 v2 g2 m2 r2 p2 => ?_⟩
  cases o <;> try exact p2.elim
  rename_i k
  dsimp only at p2
  cases ek : s2[k]? with
  | none =>
    rw [ek] at p2
    exact p2.elim
  | some ob =>
    rw [ek] at p2
    cases ob <;> try exact p2.elim
    rename_i C fs ds
    dsimp only at p2
    split at p2
    · rename_i hc
      simp only [RelD] at r2
      obtain ⟨a, ea, ev⟩ := r2
      rcases m2.obj k _ ek with z | ⟨b, eb, r⟩
      · cases z
      · rw [ea] at eb
        cases eb
        obtain ⟨dx, vs, h1, h2, h3⟩ := r
        obtain ⟨vs', e1, e2, e3, e4⟩ := put_rel (n := n) (r1.mono g2) h2 h3
        refine ⟨a, C, dx, _, ev, h1, (hC C hc.1).1, (hC C hc.1).2, ?_, ?_⟩
        · rw [List.length_zip]
          omega
        · rw [e1]
          exact p2 mu2 σ _ (Ge.put ea) (m2.put ea ⟨dx, vs', upd_same, e2, e3.mono (Ge.put ea)⟩) (((l.mono g1).mono g2).mono (Ge.put ea))
    · exact p2.elim
/-- C(..): a new instance; what its __init__ has made of it stays as it is -/
def mkD (C : Addr) (n : Nat) (G : List D → S → R D) (ds : List D) (s1 : S) : R D := if ds.length + 1 = n then (match G (.ref s1.length :: ds) (s1 ++ [.ins C [] []]) with
  | .ok d s2 => match s2[s1.length]? with
    | some (.ins C' fs vs) => if d = .non ∧ C' = C ∧ s2.take s1.length = s1 ∧ D.bels s1.length vs = true then .ok (.ins C fs vs) s1 else .bad
    | _ => .bad
  | .ex C' fs vs s2 => if s2.take s1.length = s1 ∧ D.bels s1.length vs = true then .ex C' fs vs s1 else .bad
  | .bad => .bad) else .bad
def fMake (C : Addr) (n : Nat) (G : List D → S → R D) (fa : F (List D)) : F D := fun L s => (fa L s).bind fun ds s1 => mkD C n G ds s1
theorem run_makeS {CX : CXT} {k : Nat} {C f : Addr} {fd : FuncData} {ps : List Str} {sp : Sp} {E : XK} {pins : List (Addr × Obj)} {σ : L2.St} {H : Hp} {s : Shared} {Q : VK} {us : List Value} {vs : List V} (M : Mk X.K C f) (Fo : FnOk X.prog X.w X.K X.mg X.base CX k f fd ps sp) (hr : Room (k + 1) X.A) (hb : Binds X.K fd ps [])
    (hx : PassesAt CX X σ E) (I : Inv X pins σ H s) (r : Vals vs us)
    (hh : ∀ x dx, H x = none → H dx = none → dx ≠ x → sp (.ref x :: vs) (upd (upd H dx (.own x)) x (.ins C dx [])) (fun v H2 => v = .non ∧ Q (.ref x) H2) E) :
    wpAny (model X.prog X.w) X.A (call (.ref C) us) (EP X pins σ Q) X.xe s := by
  have q0 := hh (s.heap.objs.size + 1) s.heap.objs.size (I.hok.fresh (Nat.le_succ _)) (I.hok.fresh (Nat.le_refl _)) (Nat.ne_of_lt (Nat.lt_succ_self _))
  have J := Inv.made (C := C) I
  have rr : Vals (V.ref (s.heap.objs.size + 1) :: vs) (Value.ref (s.heap.objs.size + 1) :: us) := .cons rfl r
  have hl : (Value.ref (s.heap.objs.size + 1) :: us).length = ps.length := by
    have z := rr.length
    rw [Fo.len _ _ _ _ q0] at z
    exact z.symm
  have hb' := hb ⟨_, _, _, _, _⟩ (Value.ref (s.heap.objs.size + 1) :: us) J.kIn (by rw [List.append_nil]; exact hl)
  rw [List.append_nil] at hb'
  refine wpAny_call (make_map (f := f) I.kIn M.makes M.init (beq_iff_eq.mp M.fn) (codeAny_mono (Fo.run _ X.stack _ _ ⟨Value.ref (s.heap.objs.size + 1) :: us, []⟩ _ _ _ E (hr.make C us []) (J.env0.make C us []) hb' rr q0) fun rs s' w => ?_))
  cases rs with
  | error er => exact hx pins _ _ er s' J w
  | ok fl =>
    cases fl with
    | ret z =>
      obtain ⟨v, H', J', rv, ev, q3⟩ := J.after w
      subst ev
      exact ⟨rv, ⟨V.ref (s.heap.objs.size + 1), H', J', rfl, q3⟩⟩
    | next => exact False.elim w
    | brk => exact False.elim w
    | cont => exact False.elim w
theorem weak_make {C : Addr} {n : Nat} {G : List D → S → R D} {ds : List D} {vs : List V} {s1 : S} {mu1 : Mu} {H1 : Hp} {σ : L2.St} {Q : VK} (m1 : Sim X.K mu1 s1 H1) (r1 : RelDs X.K mu1 H1 ds vs) (p1 : Post X.K W (RelD X.K) σ mu1 H1 Q (mkD C n G ds s1)) :
    ∀ x dx, H1 x = none → H1 dx = none → dx ≠ x → spI X.K n G (.ref x :: vs) (upd (upd H1 dx (.own x)) x (.ins C dx [])) (fun v H2 => v = .non ∧ Q (.ref x) H2) (WE W σ) := by
  intro x dx hx hd hne
  unfold mkD at p1
  split at p1
  · rename_i hn
    have hx1 : (upd H1 dx (.own x)) x = none := by rw [upd_ne (Ne.symm hne)]; exact hx
    have ma := m1.pure (u := .own x) hd
    have ga := Ge.pure (u := .own x) m1 hd
    have gb := Ge.track (u := .ins C dx []) ma hx1
    have mb : Sim X.K (mu1 ++ [some x]) (s1 ++ [.ins C [] []]) (upd (upd H1 dx (.own x)) x (.ins C dx [])) := ma.track hx1 ⟨dx, [], upd_same, rfl, .nil⟩
    have g0 := ga.trans gb
    have hlast : (mu1 ++ [some x])[s1.length]? = some (some x) := by
      rw [← m1.len, List.getElem?_append_right (Nat.le_refl _), Nat.sub_self]
      rfl
    refine ⟨_, _, .ref s1.length :: ds, mb, .cons (by simp only [RelD]; exact ⟨x, hlast, rfl⟩) (r1.mono g0), by rw [List.length_cons]; exact hn, ?_⟩
    have back : ∀ {mu2 : Mu} {s2 : S} {H2 : Hp}, Ge (mu1 ++ [some x]) (upd (upd H1 dx (.own x)) x (.ins C dx [])) mu2 H2 → Sim X.K mu2 s2 H2 → s2.take s1.length = s1 → Ge mu1 H1 (mu2.take s1.length) H2 ∧ Sim X.K (mu2.take s1.length) s1 H2 := fun {mu2 s2 H2} g2 m2 e => by
      refine ⟨?_, ?_⟩
      · have z := (g0.trans g2).back
        rw [m1.len] at z
        exact z
      · have z := m2.back (n := s1.length) (by rw [e]; exact fun o ho => m1.below ho)
        rw [e] at z
        exact z
    cases eg : G (.ref s1.length :: ds) (s1 ++ [.ins C [] []]) with
    | bad =>
      rw [eg] at p1
      exact p1.elim
    | ex C' fs ws s2 =>
      rw [eg] at p1
      dsimp only at p1
      split at p1
      · rename_i hc
        intro mu2 H2 od g2 m2 x2
        obtain ⟨g3, m3⟩ := back g2 m2 hc.1
        refine p1 _ H2 od g3 m3 ?_
        rcases x2 with x2 | ⟨d2, vs2, e2, h2, n2, l2, rr2⟩
        · exact .inl x2
        · exact .inr ⟨d2, vs2, e2, h2, not_live_take n2, l2, rr2.cut _ _ hc.2⟩
      · exact p1.elim
    | ok d s2 =>
      rw [eg] at p1
      dsimp only at p1
      cases e2 : s2[s1.length]? with
      | none =>
        rw [e2] at p1
        exact p1.elim
      | some ob =>
        rw [e2] at p1
        cases ob <;> try exact p1.elim
        rename_i C' fs ws
        dsimp only at p1
        split at p1
        · rename_i hc
          obtain ⟨hd0, hC', ht, hbl⟩ := hc
          subst hd0 hC'
          intro mu2 H2 v g2 m2 r2
          obtain ⟨g3, m3⟩ := back g2 m2 ht
          refine ⟨rel_non.mp r2, p1 _ H2 _ g3 m3 ?_⟩
          have hx2 := g2.rf s1.length x hlast
          rcases m2.obj s1.length _ e2 with z | ⟨b, eb, r⟩
          · cases z
          · rw [hx2] at eb
            cases eb
            obtain ⟨dx2, vs2, h1, h2, h3⟩ := r
            simp only [RelD]
            refine ⟨x, dx2, vs2, rfl, h1, fun z => ?_, h2, h3.cut _ _ hbl⟩
            obtain ⟨i, ei⟩ := live_iff.mp z
            rw [List.getElem?_take] at ei
            split at ei
            · rename_i hi
              have := m2.inj i s1.length x ei hx2
              omega
            · cases ei
        · exact p1.elim
  · exact p1.elim
theorem pE_make {x : Str} {p : Pos} {k n : Nat} {C fA : Addr} {fd : FuncData} {ps : List Str} {G : List D → S → R D} (M : Mk X.K C fA) (Fo : FnOk X.prog X.w X.K X.mg X.base (L2.CX X.prog X.w) k fA fd ps (spI X.K n G)) (hr : Room (k + 1) X.A) (hm : X.mg x = some (.ref C)) (hb : Binds X.K fd ps []) (tk : Takes X W)
    (ha : PA X (e :: es) (tA X.K W fa)) (hg : Gl X x := by rfl) (hdb : (x == ("__debug__" : Str)) = false := by decide) (he : starEach (e :: es) X.env = (false, eval e X.env) :: starEach es X.env := by rfl) (hpl : (backTo pos (starEach es X.env)).any (·.1) = false := by rfl) :
    PE X (.Call (.Name x p) (e :: es) [] pos) (tE X.K W (fMake C n G fa)) := by
  refine ⟨fun pins s σ H Q I hq => ?_⟩
  obtain ⟨mu, s', L, m, l, q⟩ := hq
  refine wpAny_Call_Name_kw (ld_glob I hg hm ?_ hdb)
  refine PySem.W.callWith_K (h₀ := X.base) I.ok.mod.kin M.kp (thn (ha.run pos pins s σ H _ I ⟨mu, s', L, m, l, Post.step q fun ds s1 mu1 H1 vs g1 m1 r1 p1 => weak_make m1 r1 p1⟩) fun us s1 ⟨vs, H1, I1, r, w⟩ => ⟨I1.kIn, ?_⟩) he hpl
  exact run_makeS M Fo hr hb (passAt tk σ) I1 r w
/-- .. the class in a name of the def -/
def fMakeL (i : Nat) (C : Addr) (n : Nat) (G : List D → S → R D) (fa : F (List D)) : F D := fun L s => match L[i]? with
  | some (some (.gl C')) => if C' = C then fMake C n G fa L s else .bad
  | _ => .bad
end
end SI

/-! the class of an exception object, with or without fields -/
namespace PySem.W
open PySem PySem.Spec PySem.Calls PyProof.Rows
section
variable {prog : Program} {w : World} {A : Around} {E : Value → Shared → Prop} {s : Shared} {K : Frag} {x D : Addr} {ox : Obj} {od : Option Obj}
theorem clsX_found (T : L2.ExcC K D) : findObj K D od "__class__" = some (.bind (.builtin "getset_descriptor.__get__") (.builtin "object.__class__")) := by
  have hc : (clsIn K D).isSome = true := by
    obtain ⟨cd, hc, _⟩ := any_some T.hd
    rw [hc]
    rfl
  cases od with
  | none => exact findObj_dataN hc T.ha T.hn T.ht
  | some o => exact findObj_data hc T.ha T.hn T.ht
theorem clsX_ask (T : L2.ExcC K D) {Q : Option Value → Shared → Prop} (X : K.In s.heap) (I : InstAt s.heap x ox D od) (h : Q (some (.ref D)) { s with toks := s.toks + 1 }) : wpAny (model prog w) A (getAttr? (.ref x) "__class__") Q E s := by
  obtain ⟨hp, g, d, t, os⟩ := s
  have L0 := I.type (M := model prog w)
  have L1 := looks_findIn (M := model prog w) X T.hg
  have L2 := looks_findIn (M := model prog w) X T.hk
  have L3 := looks_find (M := model prog w) X I (clsX_found T)
  have sub : Looks (model prog w) hp (isInstance (.ref x) (.type "BaseException")) true := L0.andThen (looks_subIn X T.hs)
  have hx0 : (false && onTheHeap (Value.builtin "BaseException.__getattribute__")) = false := rfl
  have hx1 : (onTheHeap (Value.ref D) && Value.builtin "BaseException.__getattribute__" == Value.builtin "object.__getattribute__") = false := by
    rw [show (Value.builtin "BaseException.__getattribute__" == Value.builtin "object.__getattribute__") = false by decide +kernel]
    rfl
  unfold getAttr? getAttrBy? getAttrBy
  refine wpAny_bind (wpAny_mkText (wpAny_bind (wpAny_attempt (wpAny_holding (wpAny_bind (L0.at (wpAny_bind (L1.at ?_))))))))
  show wpAny _ _ (if (onTheHeap (Value.ref D) && Value.builtin "BaseException.__getattribute__" == Value.builtin "object.__getattribute__") = true then _ else _) _ _ _
  rw [hx1, if_neg Bool.false_ne_true]
  unfold getAttrByItsOwn hookBefore
  refine wpAny_bind ?_
  rw [if_pos (show onTheHeap (Value.ref D) = true from rfl)]
  refine L2.at ?_
  refine wpAny_bind (wpAny_attempt (wpAny_holding ?_))
  unfold callGetattribute
  rw [hx0, if_neg Bool.false_ne_true]
  unfold boundAndCalled
  rw [PySem.F.excAttr_ValueError.ga.bind (.ref x)]
  refine wpAny_bind (wpAny_pure ?_)
  show wpAny _ _ (call (.builtin "BaseException.__getattribute__") [.ref x, .str "__class__" t]) _ _ _
  refine wpAny_call (codeAny_call_builtin PySem.F.excAttr_ValueError.ga.plain PySem.F.entry_bexc_ga ?_)
  refine @check_slot (model prog w) _ _ ⟨hp, g, d, t + 1, os⟩ "BaseException.__getattribute__" "BaseException" "__getattribute__" (.ref x) [.str "__class__" t] [] _ (by decide +kernel) (by decide +kernel) sub (PySem.F.args_bexc_ga (.ref x) (.str "__class__" t)) ?_
  unfold Builtin.«object.__getattribute__»
  refine wpAny_bind (wpAny_of_eq (a := ((Value.ref x : Value), [Value.str "__class__" t])) (by first | rfl | (simp only [slotArgs]; rfl)) ?_)
  refine wpAny_bind (wpAny_pure (wpAny_bind (L0.at (wpAny_bind (L3.at ?_)))))
  show wpAny _ _ (holding [Value.builtin "object.__class__"] (call (.builtin "getset_descriptor.__get__") [.builtin "object.__class__", .ref x, .ref D]) >>= ret) _ _ _
  refine wpAny_bind (wpAny_holding (wpAny_call (class_get (s := ⟨hp, g, d, t + 1, os⟩) (ox := ox) (od := od) X I T.hm ?_)))
  refine wpAny_pure ?_
  show wpAny _ _ (handedOut (.ref D)) _ _ _
  rw [handedOut_of (v := .ref D) rfl]
  first
    | exact wpAny_pure (wpAny_pure h)
    | exact wpAny_pure h
    | exact wpAny_pure (wpAny_bind (wpAny_pure (wpAny_pure h)))
theorem clsX_kit (T : L2.ExcC K D) : KitX K (.ref x) (.ref D) (fun h => ∃ od, InstAt h x ox D od) where
  ty := fun _ _ _ ⟨_, I⟩ => I.type
  it := fun _ _ X _ => by
    obtain ⟨cd, hc, _⟩ := any_some T.hd
    unfold clsIn at hc
    split at hc
    · rename_i ho
      intro A' Q' E' s' k q
      unfold isType loadHead
      exact wpAny_bind (wpAny_loadPart (k _ _ (X _ _ ho)) (wpAny_pure q))
    · cases hc
  ne := (handS_kitx_exc (x := x) (ox := ox) T.hg T.hk T.hs T.hd T.ha T.hn T.ht T.hm).ne
  ca := fun X ⟨_, I⟩ k => clsX_ask T X I k
end
end PySem.W

namespace SI
open PySem PySem.Spec PyProof.Rows L2
section
variable {X : Cx} {W : WX} {a b c e : Expr} {f g h : F D} {t : F Bool} {fa : F (List D)} {es : List Expr} {pos : Pos} {st : Stmt} {sts : List Stmt} {u v : FS}
/-! ### types -/
def tyD (s : S) : D → Option String
  | .non => some "NoneType"
  | .bl _ => some "bool"
  | .int _ => some "int"
  | .str _ => some "str"
  | .tup _ => some "tuple"
  | .lst _ => some "list"
  | .rdl _ => some "list"
  | .dk _ _ => some "dict"
  | .ref n => match s[n]? with
    | some (.lst _) => some "list"
    | some (.dk _ _) => some "dict"
    | _ => none
  | _ => none
theorem ty_of {K : PySem.W.Frag} {mu : Mu} {s : S} {H : Hp} {d : D} {v : V} {n : String} (m : Sim K mu s H) (r : RelD K mu H d v) (e : tyD s d = some n) : TyX K H v (.type n) := by
  cases d <;> simp only [tyD] at e <;> try cases e
  · rw [rel_non.mp r]; exact .base .non
  · rw [rel_bl.mp r]; exact .base (.bl _)
  · rw [rel_int.mp r]; exact .base (.int _)
  · rw [rel_str.mp r]; exact .base (.str _)
  · rename_i k
    simp only [RelD] at r
    obtain ⟨a, ea, rfl⟩ := r
    cases ek : s[k]? with
    | none =>
      rw [ek] at e
      cases e
    | some o =>
      rw [ek] at e
      rcases m.obj k _ ek with z | ⟨b, eb, ro⟩
      · subst z
        cases e
      · rw [ea] at eb
        cases eb
        cases o <;> cases e
        · obtain ⟨vs, h1, _⟩ := ro
          exact .base (.lst h1)
        · obtain ⟨vs, h1, _⟩ := ro
          exact .base (.dK h1)
  · simp only [RelD] at r
    obtain ⟨a, vs, rfl, h1, _⟩ := r
    rcases h1 with ⟨o, _, _, h1, h2, _⟩ | h1
    · exact .kTuple h1 h2
    · exact .base (.tup h1.1)
  · simp only [RelD] at r
    obtain ⟨a, vs, rfl, h1, _⟩ := r
    exact .base (.lst h1.1)
  · simp only [RelD] at r
    obtain ⟨a, vs, rfl, h1, _⟩ := r
    rcases h1 with ⟨o, _, _, h1, h2, _⟩ | ⟨h1 | ⟨o, h1⟩, _⟩
    · exact .kList h1 h2
    · exact .base (.lst h1)
    · exact .base (.frz h1)
  · simp only [RelD] at r
    obtain ⟨a, vs, rfl, h1, _⟩ := r
    exact .base (.dK h1.1)
theorem tyD_mem {s : S} {d : D} {n : String} (e : tyD s d = some n) : n ∈ tyNames := by
  cases d <;> simp only [tyD] at e <;> try cases e
  case ref k =>
    split at e <;> first | (cases e; decide) | cases e
  all_goals decide
def nyB (K : PySem.W.Frag) (C : Addr) : Bool := tyNames.all fun n => PySem.W.kitOne K (.ref C) (.type n) == some false
def ynB (K : PySem.W.Frag) (C : Addr) : Bool := tyNames.all fun n => PySem.W.kitOne K (.type n) (.ref C) == some false
def nfB (K : PySem.W.Frag) (C : Addr) : Bool := tyNames.all fun n => PySem.W.notFirst K C (.type n)
/-- what the text says of an own class -/
structure InsTxt (K : PySem.W.Frag) (C : Addr) : Prop where
  cl : Cls K C
  ha : PySem.W.findIn K (.ref C) "__class__" = some (some (.builtin "object.__class__"))
  hn : PySem.W.specialIn K (.builtin "object.__class__") "__get__" = some (some (.builtin "getset_descriptor.__get__"))
  htk : PySem.W.takesIn K (.builtin "object.__class__") = some true
  hm : PySem.W.mroIn K C (.type "object") = some true
  noty : nyB K C = true
  tyno : ynB K C = true
  nf : nfB K C = true
theorem ty_ins {K : PySem.W.Frag} {mu : Mu} {s : S} {H : Hp} {d : D} {v : V} {C : Addr} {fs : List Str} {ds : List D} (T : InsTxt K C) (m : Sim K mu s H) (r : RelD K mu H d v) (e : insOf s d = some (C, fs, ds)) : TyX K H v (.ref C) := by
  obtain ⟨a, dx, vs, rfl, h1, _⟩ := ins_of m r e
  exact .base (.ins h1 T.cl T.ha T.hn T.htk T.hm)
/-- a value's type; an exception object that is not raised, too -/
inductive TyE (K : PySem.W.Frag) (H : Hp) : V → Value → Prop where
  | old {x : V} {t : Value} (h : TyX K H x t) : TyE K H x t
  | err {a C : Addr} (e : H a = some (ExO (.ref C) a)) (k : ErrK K C) : TyE K H (.ref a) (.ref C)
  | erd {a C dx : Addr} {fs : List (Str × V)} (e : H a = some (exo a C (some dx))) (ed : H dx = some (exd dx fs)) (k : ErrK K C) : TyE K H (.ref a) (.ref C)
theorem kit_ofE {pins : List (Addr × Obj)} {σ : L2.St} {H : Hp} {s : Shared} {x : V} {u t : Value} (I : Inv X pins σ H s) (rx : RelV x u) (ty : TyE X.K H x t) : ∃ P : Heap → Prop, PySem.W.KitX X.K u t P ∧ P s.heap ∧ u ≠ .builtin "__main__.__loader__#opaque" := by
  cases ty with
  | old h => exact kit_of I rx h
  | @err a C e k =>
    obtain rfl : u = Value.ref a := rx
    obtain ⟨⟨oe, vs, ho, hz, hd, _⟩, _, _⟩ := I.hok a _ e
    refine ⟨_, PySem.W.handS_kitx_exc (ox := oe) k.ex.hg k.ex.hk k.ex.hs k.ex.hd k.ex.ha k.ex.hn k.ex.ht k.ex.hm, ⟨ho, hz.1, ?_, by rw [hz.2]; trivial⟩, fun z => nomatch z⟩
    unfold PySem.W.notCls
    rw [hd] <;> rfl
  | @erd a C dx fs e ed k =>
    obtain rfl : u = Value.ref a := rx
    obtain ⟨t1, ho⟩ := exo_at I.hok e
    obtain ⟨mA, hns, rel⟩ := exd_at I.hok ed
    obtain ⟨oD, _, _, hoD, _, _⟩ := hns.count (within_of rel)
    exact ⟨_, PySem.W.clsX_kit k.ex, ⟨some oD, ho, rfl, rfl, hoD⟩, fun z => nomatch z⟩
/-- isinstance by one class, by a laid tuple, by a tuple of the written part -/
def eIsi (K : PySem.W.Frag) : List V → Hp → VK → Prop := fun xs H Q => ∃ (x y : V) (t w : Value) (r : Bool), xs = [x, y] ∧ ClsV y w ∧ TyE K H x t ∧ PySem.W.kitOne K t w = some r ∧ Q (.bl r) H
theorem call_isiE : CallR X (.builtin "isinstance") (eIsi X.K) := by
  intro pins s σ H xs us Q I rr hh
  obtain ⟨x, y, t, w, r, rfl, k, ty, e, q⟩ := hh
  obtain ⟨ux, uy, rfl, rx, ry⟩ := vals2 rr
  obtain rfl := k.eq ry
  obtain ⟨P, Z, hp, hn⟩ := kit_ofE I rx ty
  exact PySem.W.kia_one Z I.kIn hp e hn fun n => ⟨.bl r, H, I.tok n, rfl, q⟩
/-- an exception object is of none of the built-in types asked here -/
def errB : D → Option Bool
  | .err _ => some false
  | .erd _ _ _ => some false
  | _ => none
/-- isinstance(x, T): T a built-in class or one of the classes cs -/
def isi1 (cs : List Addr) (s : S) (d c : D) : Option Bool := match c with
  | .ty n => if n ∈ tyNames then (match tyD s d with
    | some t => kitB t n
    | none => match insOf s d with
      | some (C, _, _) => if C ∈ cs then some false else none
      | none => errB d) else none
  | .gl C' => if C' ∈ cs then (match tyD s d with
    | some _ => some false
    | none => match insOf s d with
      | some (C, _, _) => if C = C' then some true else none
      | none => none) else none
  | _ => none
theorem isi1_ok {K : PySem.W.Frag} {mu : Mu} {s : S} {H : Hp} {cs : List Addr} {d c : D} {x y : V} {r : Bool} (hC : ∀ C ∈ cs, InsTxt K C) (m : Sim K mu s H) (rd : RelD K mu H d x) (rc : RelD K mu H c y) (e : isi1 cs s d c = some r) :
    ∃ t w, ClsV y w ∧ TyE K H x t ∧ PySem.W.kitOne K t w = some r := by
  cases c <;> simp only [isi1] at e <;> try cases e
  · rename_i n
    simp only [RelD] at rc
    subst rc
    split at e
    · rename_i hn
      cases et : tyD s d with
      | some t =>
        rw [et] at e
        exact ⟨_, _, .ty n, .old (ty_of m rd et), kit_ty e⟩
      | none =>
        rw [et] at e
        dsimp only at e
        cases ei : insOf s d with
        | none =>
          rw [ei] at e
          dsimp only at e
          cases d <;> try cases e
          · simp only [RelD] at rd
            obtain ⟨a, rfl, hf, hk⟩ := rd
            exact ⟨_, _, .ty n, .err hf.1 hk, hk.ny n hn⟩
          · simp only [RelD] at rd
            obtain ⟨a, dx, vs, rfl, hf, hfd, hk, _⟩ := rd
            exact ⟨_, _, .ty n, .erd hf.1 hfd.1 hk, hk.ny n hn⟩
        | some z =>
          obtain ⟨C, fs, ds⟩ := z
          rw [ei] at e
          dsimp only at e
          split at e
          · rename_i hc
            cases e
            refine ⟨_, _, .ty n, .old (ty_ins (hC C hc) m rd ei), ?_⟩
            have z := List.all_eq_true.mp (hC C hc).noty n hn
            exact beq_iff_eq.mp z
          · cases e
    · cases e
  · rename_i C'
    simp only [RelD] at rc
    subst rc
    split at e
    · rename_i hc
      cases et : tyD s d with
      | some t =>
        rw [et] at e
        cases e
        refine ⟨_, _, .own C', .old (ty_of m rd et), ?_⟩
        have z := List.all_eq_true.mp (hC C' hc).tyno t (tyD_mem et)
        exact beq_iff_eq.mp z
      | none =>
        rw [et] at e
        dsimp only at e
        cases ei : insOf s d with
        | none =>
          rw [ei] at e
          cases e
        | some z =>
          obtain ⟨C, fs, ds⟩ := z
          rw [ei] at e
          dsimp only at e
          split at e
          · rename_i h1
            cases e
            subst h1
            refine ⟨_, _, .own C, .old (ty_ins (hC C hc) m rd ei), ?_⟩
            unfold PySem.W.kitOne
            rw [if_pos (beq_self_eq_true _)]
          · cases e
    · cases e
def bIsi (cs : List Addr) (s : S) : List D → Option D
  | [d, c] => (isi1 cs s d c).map .bl
  | _ => none
theorem cbl_isi {K : PySem.W.Frag} {cs : List Addr} (hC : ∀ C ∈ cs, InsTxt K C) : CbL K (eIsi K) (bIsi cs) := by
  intro mu s H ds d vs Q m r e q
  rcases ds with _ | ⟨d1, _ | ⟨d2, _ | ⟨d3, ds⟩⟩⟩
  · cases e
  · cases e
  · obtain ⟨v1, v2, rfl, r1, r2⟩ := rel2 r
    simp only [bIsi] at e
    cases ei : isi1 cs s d1 d2 with
    | none =>
      rw [ei] at e
      cases e
    | some k =>
      rw [ei] at e
      cases e
      obtain ⟨t, w, h1, h2, h3⟩ := isi1_ok hC m r1 r2 ei
      exact ⟨v1, v2, t, w, k, rfl, h1, h2, h3, q mu H _ (Ge.refl _ _) m (rel_bl.mpr rfl)⟩
  · cases e
theorem pE_isi {e2 : Expr} {p : Pos} {cs : List Addr} (hC : ∀ C ∈ cs, InsTxt X.K C) (hm : X.mg "isinstance" = none) (ha : PA X [e, e2] (tA X.K W fa)) (hg : Gl X "isinstance" := by rfl) (he : starEach [e, e2] X.env = (false, eval e X.env) :: starEach [e2] X.env := by rfl) (hpl : (backTo pos (starEach [e2] X.env)).any (·.1) = false := by rfl) :
    PE X (.Call (.Name "isinstance" p) [e, e2] [] pos) (tE X.K W (fCB (bIsi cs) fa)) :=
  pE_cb call_isiE (cbl_isi hC) hm (by decide +kernel) ha hg (by decide) (by decide) he hpl
/-- isinstance(x, (A, B)) -/
def isiAny (cs : List Addr) (s : S) (d : D) : List D → Option Bool
  | [] => some false
  | c :: r => match isi1 cs s d c with
    | some true => some true
    | some false => isiAny cs s d r
    | none => none
def bIsiT (cs : List Addr) (s : S) : List D → Option D
  | [d, .tup (c :: l)] => if ((c :: l).all fun c => (isi1 cs s d c).isSome) = true then (isiAny cs s d (c :: l)).map .bl else none
  | _ => none
/-! ### own == -/
/-! ### a class method by its class -/
end
end SI

namespace SI
open PySem PySem.Spec PyProof.Rows L2
section
variable {X : Cx} {W : WX} {a b c e : Expr} {f g h : F D} {t : F Bool} {fa : F (List D)} {es : List Expr} {pos : Pos} {st : Stmt} {sts : List Stmt} {u v : FS}
/-! ### [elt for target in iter if ..] -/
def wipeD (L : Lc) : List Nat → Lc
  | [] => L
  | v :: vs => (wipeD L vs).set v none
theorem wipe_lr {K : PySem.W.Frag} {mu : Mu} {H : Hp} {L : Lc} {σ : L2.St} (l : LR K mu H L σ) : ∀ vs : List Nat, LR K mu H (wipeD L vs) (wipe σ vs)
  | [] => l
  | v :: vs => (wipe_lr l vs).del v
def noW : WX := fun _ _ _ _ => False
/-- one clause; the list that grows is the n-th tracked object -/
def lcL (q : Tg) (t : F Bool) (f : F D) (r : Src) (L0 : Lc) (n : Nat) : List D → S → R Unit
  | [], s => if chk r s = true then .ok () s else .bad
  | d :: ds, s => if chk r s = true then (match q d L0 with
    | none => .bad
    | some L1 => (t L1 s).bind fun b s1 => if b = true then ((f L1 s1).bind fun y s2 => match s2[n]? with
      | some (.lst acc) => if acc.length < big then lcL q t f r L0 n ds (s2.set n (.lst (acc ++ [y]))) else .bad
      | _ => .bad) else lcL q t f r L0 n ds s1) else .bad
def fLc (fi : F Src) (q : Tg) (t : F Bool) (f : F D) (vs : List Nat) : F D := fun L s => (fi L s).bind fun r s1 => match lcL q t f r (wipeD L vs) s1.length r.items (s1 ++ [.lst []]) with
  | .ok _ s2 => match s2[s1.length]? with
    | some (.lst ys) => if (s2.take s1.length).all (O.bel s1.length) = true ∧ D.bels s1.length ys = true then .ok (.lst ys) (s2.take s1.length) else .bad
    | _ => .bad
  | _ => .bad
def fYes : F Bool := fun _ s => .ok true s
theorem weak_lc {fi : F Src} {q : Tg} {gt : TG} {tt : TT} {te : TE} {vs : List Nat} {σ : L2.St} {H : Hp} {Q : VK}
    (hg : ∀ v σ H (Q : L2.St → Hp → Prop), tG X.K q v (wipe σ vs) H Q → gt v (wipe σ vs) H fun σ2 H2 => wipe σ2 vs = wipe σ vs ∧ Q σ2 H2)
    (ht : ∀ σ H Q, tT X.K noW t σ H Q → tt σ H Q) (he : ∀ σ H Q, tE X.K noW f σ H Q → te σ H Q)
    (hq : tE X.K W (fLc fi q t f vs) σ H Q) : tLc (tI X.K W fi) gt tt te vs σ H Q := by
  obtain ⟨mu, s, L, m, l, p⟩ := hq
  refine ⟨mu, s, L, m, l, Post.step p fun r s1 mu1 H1 J g1 m1 ir p1 => ?_⟩
  intro Dl hD
  have l1 := l.mono g1
  cases eL : lcL q t f r (wipeD L vs) s1.length r.items (s1 ++ [.lst []]) with
  | ex C fs ds s2 =>
    rw [eL] at p1
    exact p1.elim
  | bad =>
    rw [eL] at p1
    exact p1.elim
  | ok uu sF =>
    rw [eL] at p1
    dsimp only at p1
    cases eY : sF[s1.length]? with
    | none =>
      rw [eY] at p1
      exact p1.elim
    | some ob =>
      rw [eY] at p1
      cases ob <;> try exact p1.elim
      rename_i ysF
      dsimp only at p1
      split at p1
      · rename_i hb
        have gT := Ge.track (u := .lst []) m1 hD
        have mT : Sim X.K (mu1 ++ [some Dl]) (s1 ++ [.lst []]) (upd H1 Dl (.lst [])) := m1.track hD ⟨[], upd_same, .nil⟩
        have hlast : (mu1 ++ [some Dl])[s1.length]? = some (some Dl) := by
          rw [← m1.len, List.getElem?_append_right (Nat.le_refl _), Nat.sub_self]
          rfl
        refine ⟨fun i n H' => n = r.items.length - i ∧ i ≤ r.items.length ∧ ∃ mu' s', Ge (mu1 ++ [some Dl]) (upd H1 Dl (.lst [])) mu' H' ∧ Sim X.K mu' s' H' ∧ lcL q t f r (wipeD L vs) s1.length (r.items.drop i) s' = .ok uu sF,
          ⟨_, rfl, Nat.zero_le _, _, _, Ge.refl _ _, mT, eL⟩, ?_⟩
        rintro i n H' ⟨rfl, hi, mu', s', g', m', p'⟩
        by_cases hlt : i < r.items.length
        · have hd : r.items.drop i = r.items[i] :: r.items.drop (i + 1) := List.drop_eq_getElem_cons hlt
          rw [hd] at p'
          unfold lcL at p'
          by_cases hk : chk r s' = true
          · rw [if_pos hk] at p'
            have hir := (ir mu' s' H' (gT.trans g') m' hk i).1 _ (List.getElem?_eq_getElem hlt)
            refine .inr ⟨hir.1, fun H2 => ∃ mu2 s2, Ge (mu1 ++ [some Dl]) (upd H1 Dl (.lst [])) mu2 H2 ∧ Sim X.K mu2 s2 H2 ∧ lcL q t f r (wipeD L vs) s1.length (r.items.drop (i + 1)) s2 = .ok uu sF,
              fun H2 n2 => ⟨_, ?_, rfl, hlt, n2⟩, fun x H2 hy => ?_⟩
            · omega
            · obtain ⟨g2, m2, r2⟩ := hir.2 x H2 hy
              cases eq : q r.items[i] (wipeD L vs) with
              | none =>
                rw [eq] at p'
                cases p'
              | some L1 =>
                rw [eq] at p'
                dsimp only at p'
                refine hg x σ H2 _ ⟨mu', s', wipeD L vs, _, L1, m2, wipe_lr (((l1.mono gT).mono g').mono g2) vs, r2, eq, fun σ2 l2 => ?_⟩
                refine ht σ2 H2 _ ⟨mu', s', L1, m2, l2, ?_⟩
                cases et : t L1 s' with
                | bad =>
                  rw [et] at p'
                  cases p'
                | ex C fs ds s3 =>
                  rw [et] at p'
                  cases p'
                | ok bb s3 =>
                  rw [et] at p'
                  simp only [R.bind] at p'
                  intro mu3 H3 b3 g3 m3 e3
                  subst e3
                  cases bb with
                  | false =>
                    rw [if_neg Bool.false_ne_true]
                    rw [if_neg Bool.false_ne_true] at p'
                    exact ⟨mu3, s3, (g'.trans g2).trans g3, m3, p'⟩
                  | true =>
                    rw [if_pos rfl]
                    rw [if_pos rfl] at p'
                    refine he σ2 H3 _ ⟨mu3, s3, L1, m3, l2.mono g3, ?_⟩
                    cases ef : f L1 s3 with
                    | bad =>
                      rw [ef] at p'
                      cases p'
                    | ex C fs ds s4 =>
                      rw [ef] at p'
                      cases p'
                    | ok y s4 =>
                      rw [ef] at p'
                      simp only [R.bind] at p'
                      intro mu4 H4 vy g4 m4 ry
                      cases e4 : s4[s1.length]? with
                      | none =>
                        rw [e4] at p'
                        cases p'
                      | some ob =>
                        rw [e4] at p'
                        cases ob <;> try cases p'
                        rename_i acc
                        dsimp only at p'
                        split at p'
                        · rename_i hbig
                          have gA := ((g'.trans g2).trans g3).trans g4
                          have hDl := gA.rf s1.length Dl hlast
                          obtain ⟨b, vacc, e1, e2, e3, rs⟩ := sq_ref (v := .ref Dl) m4 (by simp only [RelD]; exact ⟨Dl, hDl, rfl⟩) e4
                          cases e1
                          refine ⟨vacc, e3, ?_, mu4, _, gA.trans (Ge.put hDl), m4.put (o := .lst (acc ++ [y])) hDl ⟨_, upd_same, (rs.append (.cons ry .nil)).mono (Ge.put hDl)⟩, p'⟩
                          rw [← rs.length, sizeLine_eq]
                          unfold big at hbig
                          omega
                        · cases p'
          · rw [if_neg hk] at p'
            cases p'
        · have hd : r.items.drop i = [] := List.drop_eq_nil_of_le (by omega)
          rw [hd] at p'
          unfold lcL at p'
          by_cases hk : chk r s' = true
          · rw [if_pos hk] at p'
            cases p'
            refine .inl ⟨(ir mu' _ H' (gT.trans g') m' hk i).2 (List.getElem?_eq_none (by omega)), ?_⟩
            have hDl := g'.rf s1.length Dl hlast
            obtain ⟨b, vacc, e1, e2, e3, rs⟩ := sq_ref (v := .ref Dl) m' (by simp only [RelD]; exact ⟨Dl, hDl, rfl⟩) eY
            cases e1
            have gB : Ge mu1 H1 (mu'.take s1.length) H' := by
              have z := (gT.trans g').back
              rw [m1.len] at z
              exact z
            refine p1 (mu'.take s1.length) H' _ gB (m'.back fun o ho => List.all_eq_true.mp hb.1 o ho) ?_
            simp only [RelD]
            refine ⟨Dl, vacc, rfl, ⟨e3, fun z => ?_⟩, rs.cut _ _ hb.2⟩
            obtain ⟨j, ej⟩ := live_iff.mp z
            rw [List.getElem?_take] at ej
            split at ej
            · have := m'.inj j s1.length Dl ej hDl
              omega
            · cases ej
          · rw [if_neg hk] at p'
            cases p'
      · exact p1.elim
/-- targets in a comprehension: they change their own places alone -/
theorem wipe_set {σ : L2.St} {vs : List Nat} {i : Nat} {x : Option V} (h : i ∈ vs) : wipe (σ.set i x) vs = wipe σ vs := by
  apply List.ext_getElem?
  intro j
  have key : ∀ (vs : List Nat) (τ : L2.St), (wipe τ vs)[j]? = if j ∈ vs ∧ j < τ.length then some none else τ[j]? := by
    intro vs
    induction vs with
    | nil => intro τ; simp [wipe]
    | cons v vs ih =>
      intro τ
      unfold wipe
      by_cases hj : v = j
      · subst hj
        by_cases hl : v < τ.length
        · rw [List.getElem?_set_self (by rw [wipe_length]; exact hl), if_pos ⟨List.mem_cons_self, hl⟩]
        · rw [if_neg (fun z => hl z.2), List.getElem?_eq_none (by rw [List.length_set, wipe_length]; omega), List.getElem?_eq_none (by omega)]
      · rw [List.getElem?_set_ne hj, ih]
        have : (j ∈ v :: vs) ↔ j ∈ vs := by
          rw [List.mem_cons]
          exact ⟨fun z => z.elim (fun e => absurd e.symm hj) id, .inr⟩
        simp only [this]
  rw [key, key, List.length_set]
  by_cases hj : j ∈ vs ∧ j < σ.length
  · rw [if_pos hj, if_pos hj]
  · rw [if_neg hj, if_neg hj]
    by_cases hij : i = j
    · subst hij
      have hl : ¬ i < σ.length := fun z => hj ⟨h, z⟩
      rw [List.getElem?_eq_none (by rw [List.length_set]; omega), List.getElem?_eq_none (by omega)]
    · rw [List.getElem?_set_ne hij]
theorem wipe_wipe {σ : L2.St} : ∀ {vs : List Nat}, wipe (wipe σ vs) vs = wipe σ vs := fun {vs} => by
  apply List.ext_getElem?
  intro j
  have key : ∀ (vs : List Nat) (τ : L2.St), (wipe τ vs)[j]? = if j ∈ vs ∧ j < τ.length then some none else τ[j]? := by
    intro vs
    induction vs with
    | nil => intro τ; simp [wipe]
    | cons v vs ih =>
      intro τ
      unfold wipe
      by_cases hj : v = j
      · subst hj
        by_cases hl : v < τ.length
        · rw [List.getElem?_set_self (by rw [wipe_length]; exact hl), if_pos ⟨List.mem_cons_self, hl⟩]
        · rw [if_neg (fun z => hl z.2), List.getElem?_eq_none (by rw [List.length_set, wipe_length]; omega), List.getElem?_eq_none (by omega)]
      · rw [List.getElem?_set_ne hj, ih]
        have : (j ∈ v :: vs) ↔ j ∈ vs := by
          rw [List.mem_cons]
          exact ⟨fun z => z.elim (fun e => absurd e.symm hj) id, .inr⟩
        simp only [this]
  rw [key, key, wipe_length]
  by_cases hj : j ∈ vs ∧ j < σ.length
  · rw [if_pos hj, if_pos hj]
  · rw [if_neg hj, if_neg hj]
/-- which places a target fills -/
def KG (K : PySem.W.Frag) (q : Tg) (gt : TG) (vs : List Nat) : Prop := ∀ v σ H (Q : L2.St → Hp → Prop), tG K q v σ H Q → gt v σ H fun σ2 H2 => wipe σ2 vs = wipe σ vs ∧ Q σ2 H2
def KGs (K : PySem.W.Frag) (q : Tgs) (gt : TGs) (vs : List Nat) : Prop := ∀ v σ H (Q : L2.St → Hp → Prop), tGs K q v σ H Q → gt v σ H fun σ2 H2 => wipe σ2 vs = wipe σ vs ∧ Q σ2 H2
theorem kg_name {K : PySem.W.Frag} {i : Nat} {vs : List Nat} (h : i ∈ vs) : KG K (gN i) (gName i) vs := fun v σ H Q ⟨mu, s, L, d, L', m, l, r, e, q⟩ => by
  cases e
  exact ⟨wipe_set h, q _ (l.set i r)⟩
theorem kgs_nil {K : PySem.W.Frag} {vs : List Nat} : KGs K gNl gNil vs := fun v σ H Q ⟨mu, s, L, ds, L', m, l, r, e, q⟩ => by
  cases ds with
  | nil =>
    cases e
    simp only [RelDs] at r
    exact ⟨r, rfl, q _ l⟩
  | cons d ds => cases e
theorem kgs_cons {K : PySem.W.Frag} {q : Tg} {r : Tgs} {gt : TG} {gs : TGs} {vs : List Nat} (h1 : KG K q gt vs) (h2 : KGs K r gs vs) (mon : ∀ v σ H (Q Q' : L2.St → Hp → Prop), (∀ σ H, Q σ H → Q' σ H) → gt v σ H Q → gt v σ H Q') (mons : ∀ v σ H (Q Q' : L2.St → Hp → Prop), (∀ σ H, Q σ H → Q' σ H) → gs v σ H Q → gs v σ H Q') : KGs K (gCn q r) (gCons gt gs) vs := fun v σ H Q ⟨mu, s, L, ds, L', m, l, rr, e, k⟩ => by
  cases ds with
  | nil => cases e
  | cons d ds =>
    simp only [RelDs] at rr
    obtain ⟨v1, vr, rfl, r1, r2⟩ := rr
    simp only [gCn] at e
    cases e1 : q d L with
    | none =>
      rw [e1] at e
      cases e
    | some L1 =>
      rw [e1] at e
      refine ⟨v1, vr, rfl, mon _ _ _ _ _ (fun σ2 H2 z => ?_) (h1 v1 σ H (fun σ2 H2 => tGs K r vr σ2 H2 Q) ⟨mu, s, L, d, L1, m, l, r1, e1, fun σ' l' => ⟨mu, s, L1, ds, L', m, l', r2, e, k⟩⟩)⟩
      obtain ⟨z1, z2⟩ := z
      exact mons _ _ _ _ _ (fun σ3 H3 z => ⟨z.1.trans z1, z.2⟩) (h2 vr σ2 H2 Q z2)
theorem kg_tup {K : PySem.W.Frag} {r : Tgs} {gs : TGs} {vs : List Nat} {n : Nat} (h : KGs K r gs vs) (hn : ∀ ds L L', r ds L = some L' → ds.length = n) : KG K (gTp r) (gTup K n gs) vs := fun v σ H Q ⟨mu, s, L, d, L', m, l, rr, e, q⟩ => by
  cases d <;> simp only [gTp] at e <;> try cases e
  rename_i ds
  obtain ⟨a, ws, ev, sq, rs⟩ := sq_tup rr
  exact ⟨a, ws, ev, sq, by rw [← rs.length]; exact hn ds L L' e, h ws σ H Q ⟨mu, s, L, ds, L', m, l, rs, e, q⟩⟩
theorem mon_name {i : Nat} : ∀ v σ H (Q Q' : L2.St → Hp → Prop), (∀ σ H, Q σ H → Q' σ H) → gName i v σ H Q → gName i v σ H Q' := fun _ _ _ _ _ h q => h _ _ q
theorem mon_nil : ∀ v σ H (Q Q' : L2.St → Hp → Prop), (∀ σ H, Q σ H → Q' σ H) → gNil v σ H Q → gNil v σ H Q' := fun _ _ _ _ _ h q => ⟨q.1, h _ _ q.2⟩
theorem mon_cons {gt : TG} {gs : TGs} (m1 : ∀ v σ H (Q Q' : L2.St → Hp → Prop), (∀ σ H, Q σ H → Q' σ H) → gt v σ H Q → gt v σ H Q') (m2 : ∀ v σ H (Q Q' : L2.St → Hp → Prop), (∀ σ H, Q σ H → Q' σ H) → gs v σ H Q → gs v σ H Q') :
    ∀ v σ H (Q Q' : L2.St → Hp → Prop), (∀ σ H, Q σ H → Q' σ H) → gCons gt gs v σ H Q → gCons gt gs v σ H Q' := fun v σ H Q Q' hh ⟨v1, r, e, q⟩ => ⟨v1, r, e, m1 _ _ _ _ _ (fun σ2 H2 z => m2 _ _ _ _ _ hh z) q⟩
theorem mon_tup {K : PySem.W.Frag} {gs : TGs} {n : Nat} (m2 : ∀ v σ H (Q Q' : L2.St → Hp → Prop), (∀ σ H, Q σ H → Q' σ H) → gs v σ H Q → gs v σ H Q') :
    ∀ v σ H (Q Q' : L2.St → Hp → Prop), (∀ σ H, Q σ H → Q' σ H) → gTup K n gs v σ H Q → gTup K n gs v σ H Q' := fun v σ H Q Q' hh ⟨a, xs, e1, e2, e3, q⟩ => ⟨a, xs, e1, e2, e3, m2 _ _ _ _ _ hh q⟩
theorem kg_wipe {K : PySem.W.Frag} {q : Tg} {gt : TG} {vs : List Nat} (h : KG K q gt vs) (mon : ∀ v σ H (Q Q' : L2.St → Hp → Prop), (∀ σ H, Q σ H → Q' σ H) → gt v σ H Q → gt v σ H Q') :
    ∀ v σ H (Q : L2.St → Hp → Prop), tG K q v (wipe σ vs) H Q → gt v (wipe σ vs) H fun σ2 H2 => wipe σ2 vs = wipe σ vs ∧ Q σ2 H2 := fun v σ H Q hq =>
  mon _ _ _ _ _ (fun σ2 H2 z => ⟨z.1.trans wipe_wipe, z.2⟩) (h v (wipe σ vs) H Q hq)
theorem pTs_nil {Y : Cx} : PTs Y [] (tT Y.K noW fYes) := ⟨fun pins s σ H Q I hq => pts_nil.run pins s σ H Q I (by
  obtain ⟨mu, s', L, m, l, p⟩ := hq
  exact p mu H _ (Ge.refl _ _) m rfl)⟩
/-- [elt for target in iter if ..], as a value -/
theorem pE_lc {elt tg iter : Expr} {ifs : List Expr} {scope : Scope} {own : List (Str × Nat)} {fi : F Src} {q : Tg} {gt : TG} {vs : List Nat} (hc : X.calm = true) (hN : X.N.Nodup) (hi : PI X tg iter (tI X.K W fi)) (ok : BlkOk X.N X.env.scope scope own)
    (hk : KG X.K q gt vs) (mon : ∀ v σ H (Q Q' : L2.St → Hp → Prop), (∀ σ H, Q σ H → Q' σ H) → gt v σ H Q → gt v σ H Q')
    (hg : ∀ (s : Shared) (H : Hp) (C : Addr) (cl : List (Str × Addr)) (fp : List Addr), PG (X.blk s H scope (compEnvC scope cl C X.env) fp) tg gt) (ht : ∀ (s : Shared) (H : Hp) (C : Addr) (cl : List (Str × Addr)) (fp : List Addr), PTs (X.blk s H scope (compEnvC scope cl C X.env) fp) ifs (tT X.K noW t))
    (he : ∀ (s : Shared) (H : Hp) (C : Addr) (cl : List (Str × Addr)) (fp : List Addr), PE (X.blk s H scope (compEnvC scope cl C X.env) fp) elt (tE X.K noW f)) (hs : ∀ x, foldedSetIterable iter X.env x = pure x := by intro _; rfl) (hvs : own.map (·.2) = vs := by rfl) :
    PE X (.ListComp elt [⟨tg, iter, ifs, 0⟩] scope pos) (tE X.K W (fLc fi q t f vs)) :=
  PE.weak (pe_lc hc hN hi ok hg ht he hs) fun σ H Q hq => by
    rw [hvs]
    exact weak_lc (kg_wipe hk mon) (fun _ _ _ z => z) (fun _ _ _ z => z) hq
end
end SI

namespace SI
open PySem PySem.Spec PyProof.Rows L2
section
variable {X : Cx} {W : WX} {a b c e : Expr} {f g h : F D} {t : F Bool} {fa : F (List D)} {es : List Expr} {pos : Pos} {st : Stmt} {sts : List Stmt} {u v : FS}
/-! ### + of every kind -/
def dAdd (s : S) (a b : D) : Option D := match a, b with
  | .int i, .int j => some (.int (i + j))
  | .str x, .str y => if x.length + y.length ≤ big then some (.str (x ++ y)) else none
  | .tup xs, .tup ys => if xs.length + ys.length ≤ big then some (.tup (xs ++ ys)) else none
  | .lst xs, .lst ys => if xs.length + ys.length ≤ big then some (.lst (xs ++ ys)) else none
  | .ref n, .lst ys => match s[n]? with
    | some (.lst xs) => if xs.length + ys.length ≤ big then some (.lst (xs ++ ys)) else none
    | _ => none
  | _, _ => none
theorem opl_add {K : PySem.W.Frag} : OpL K (fun x y H Q => rI0 (fun i j => .int (i + j)) x y H Q ∨ (∃ i j, x = .str i ∧ y = .str j ∧ i.length + j.length ≤ sizeLine ∧ Q (.str (i ++ j)) H) ∨ rCatA K x y H Q ∨ rCat x y H Q) dAdd := by
  intro mu s H a b d x y Q m ra rb e q
  unfold dAdd at e
  split at e
  · cases e
    exact .inl ⟨_, _, rel_int.mp ra, rel_int.mp rb, q mu H _ (Ge.refl _ _) m (rel_int.mpr rfl)⟩
  · split at e
    · rename_i hl
      cases e
      exact .inr (.inl ⟨_, _, rel_str.mp ra, rel_str.mp rb, big_le hl, q mu H _ (Ge.refl _ _) m (rel_str.mpr rfl)⟩)
    · cases e
  · split at e
    · rename_i xs ys hl
      cases e
      obtain ⟨p1, vs, e1, s1, r1⟩ := sq_tup ra
      obtain ⟨p2, ws, e2, s2, r2⟩ := sq_tup rb
      refine .inr (.inr (.inl ⟨p1, p2, vs, ws, e1, e2, s1, s2, by rw [← r1.length, ← r2.length]; exact big_le hl, fun z => ?_, fun _ z => ?_, fun _ _ p hp => ?_⟩))
      · subst z
        have e3 : xs = [] := List.length_eq_zero_iff.mp (by rw [r1.length]; rfl)
        subst e3
        rw [← e2]
        exact q mu H _ (Ge.refl _ _) m rb
      · subst z
        have e3 : ys = [] := List.length_eq_zero_iff.mp (by rw [r2.length]; rfl)
        subst e3
        rw [← e1]
        exact q mu H _ (Ge.refl _ _) m (by rw [List.append_nil]; exact ra)
      · exact q mu _ _ (Ge.pure m hp) (m.pure hp) (rel_tup m hp (r1.append r2))
    · cases e
  · split at e
    · rename_i xs ys hl
      cases e
      simp only [RelD] at ra rb
      obtain ⟨p1, vs, e1, s1, r1⟩ := ra
      obtain ⟨p2, ws, e2, s2, r2⟩ := rb
      exact .inr (.inr (.inr ⟨p1, p2, vs, ws, e1, e2, s1.1, s2.1, by rw [← r1.length, ← r2.length]; exact big_le hl, fun p hp => q mu _ _ (Ge.pure m hp) (m.pure hp) (rel_lst m hp (r1.append r2))⟩))
    · cases e
  · split at e
    · rename_i en
      split at e
      · rename_i hl
        cases e
        obtain ⟨p1, vs, e1, _, s1, r1⟩ := sq_ref m ra en
        simp only [RelD] at rb
        obtain ⟨p2, ws, e2, s2, r2⟩ := rb
        exact .inr (.inr (.inr ⟨p1, p2, vs, ws, e1, e2, s1, s2.1, by rw [← r1.length, ← r2.length]; exact big_le hl, fun p hp => q mu _ _ (Ge.pure m hp) (m.pure hp) (rel_lst m hp (r1.append r2))⟩))
      · cases e
    · cases e
  · cases e
theorem pE_add (ha : PE X a (tE X.K W f)) (hb : PE X b (tE X.K W g)) : PE X (.BinOp a .Add b pos) (tE X.K W (fOp dAdd f g)) := pE_op (op_add.or (op_add_str.or (op_catA.or op_cat))) opl_add ha hb
/-! * -/
def repD (k : Nat) (xs : List D) : List D := (List.replicate k xs).flatten
theorem rep_rel {K : PySem.W.Frag} {mu : Mu} {H : Hp} {xs : List D} {vs : List V} (r : RelDs K mu H xs vs) : ∀ k : Nat, RelDs K mu H (repD k xs) ((List.replicate k vs).flatten)
  | 0 => .nil
  | k + 1 => by
    unfold repD
    rw [List.replicate_succ, List.replicate_succ, List.flatten_cons, List.flatten_cons]
    exact r.append (rep_rel r k)
def dMul (s : S) (a b : D) : Option D := match a, b with
  | .int i, .int j => if mulOk i j = true then some (.int (i * j)) else none
  | .lst xs, .int k => if k < 2 ^ 40 ∧ -(2 ^ 40) < k ∧ xs.length * k.toNat ≤ big then some (.lst (repD k.toNat xs)) else none
  | _, _ => none
theorem opl_mul {K : PySem.W.Frag} : OpL K (fun x y H Q => rI MulP (fun i j => .int (i * j)) x y H Q ∨ rRep x y H Q) dMul := by
  intro mu s H a b d x y Q m ra rb e q
  unfold dMul at e
  split at e
  · split at e
    · rename_i i j hm
      cases e
      have h2 : MulP i j := by
        unfold mulOk at hm
        have h3 := of_decide_eq_true hm
        exact h3
      exact .inl ⟨_, _, rel_int.mp ra, rel_int.mp rb, h2, q mu H _ (Ge.refl _ _) m (rel_int.mpr rfl)⟩
    · cases e
  · split at e
    · rename_i xs k hl
      cases e
      simp only [RelD] at ra
      obtain ⟨p1, vs, e1, s1, r1⟩ := ra
      refine .inr ⟨p1, k, vs, e1, rel_int.mp rb, s1.1, by omega, by omega, by rw [← r1.length]; exact big_le hl.2.2, fun p hp => ?_⟩
      exact q mu _ _ (Ge.pure m hp) (m.pure hp) (rel_lst m hp (rep_rel r1 _))
    · cases e
  · cases e
theorem pE_mul (ha : PE X a (tE X.K W f)) (hb : PE X b (tE X.K W g)) : PE X (.BinOp a .Mult b pos) (tE X.K W (fOp dMul f g)) := pE_op (op_mulX.or op_rep) opl_mul ha hb
/-! -x -/
def fNeg (f : F D) : F D := fun L s => (f L s).bind fun d s1 => match d with
  | .int i => .ok (.int (-i)) s1
  | _ => .bad
/-! max, min of two, abs -/
def bMax (_ : S) : List D → Option D
  | [.int i, .int j] => some (.int (if j > i then j else i))
  | _ => none
def bMin (_ : S) : List D → Option D
  | [.int i, .int j] => some (.int (if j < i then j else i))
  | _ => none
def bAbs (_ : S) : List D → Option D
  | [.int i] => some (.int (if i < 0 then -i else i))
  | _ => none
theorem cbl_max {K : PySem.W.Frag} : CbL K (fun xs H Q => ∃ i j, xs = [.int i, .int j] ∧ Q (.int (if j > i then j else i)) H) bMax := by
  intro mu s H ds d vs Q m r e q
  unfold bMax at e
  split at e
  · cases e
    obtain ⟨v1, v2, rfl, r1, r2⟩ := rel2 r
    exact ⟨_, _, by rw [rel_int.mp r1, rel_int.mp r2], q mu H _ (Ge.refl _ _) m (rel_int.mpr rfl)⟩
  · cases e
theorem cbl_min {K : PySem.W.Frag} : CbL K (fun xs H Q => ∃ i j, xs = [.int i, .int j] ∧ Q (.int (if j < i then j else i)) H) bMin := by
  intro mu s H ds d vs Q m r e q
  unfold bMin at e
  split at e
  · cases e
    obtain ⟨v1, v2, rfl, r1, r2⟩ := rel2 r
    exact ⟨_, _, by rw [rel_int.mp r1, rel_int.mp r2], q mu H _ (Ge.refl _ _) m (rel_int.mpr rfl)⟩
  · cases e
theorem pE_max {e2 : Expr} {p : Pos} (hc : X.calm = true) (hm : X.mg "max" = none) (ha : PA X [e, e2] (tA X.K W fa)) (hg : Gl X "max" := by rfl) (he : starEach [e, e2] X.env = (false, eval e X.env) :: starEach [e2] X.env := by rfl) (hpl : (backTo pos (starEach [e2] X.env)).any (·.1) = false := by rfl) :
    PE X (.Call (.Name "max" p) [e, e2] [] pos) (tE X.K W (fCB bMax fa)) := pE_cb (call_max2 hc) cbl_max hm (by decide +kernel) ha hg (by decide) (by decide) he hpl
theorem pE_min {e2 : Expr} {p : Pos} (hc : X.calm = true) (hm : X.mg "min" = none) (ha : PA X [e, e2] (tA X.K W fa)) (hg : Gl X "min" := by rfl) (he : starEach [e, e2] X.env = (false, eval e X.env) :: starEach [e2] X.env := by rfl) (hpl : (backTo pos (starEach [e2] X.env)).any (·.1) = false := by rfl) :
    PE X (.Call (.Name "min" p) [e, e2] [] pos) (tE X.K W (fCB bMin fa)) := pE_cb (call_min2 hc) cbl_min hm (by decide +kernel) ha hg (by decide) (by decide) he hpl
/-! list(..), tuple(..) -/
def bList (s : S) : List D → Option D
  | [d] => (seqOf s d).map .lst
  | _ => none
/-- list(..) that will be changed -/
def fListT (fa : F (List D)) : F D := fun L s => (fa L s).bind fun ds s1 => match ds with
  | [d] => match seqOf s1 d with
    | some xs => .ok (.ref s1.length) (s1 ++ [.lst xs])
    | none => .bad
  | _ => .bad
/-! {} that is not changed -/
theorem dc_dLt {K : PySem.W.Frag} : OpL K (rI0 fun i j => .bl (decide (i < j))) dLt := opl_I0 fun _ _ _ _ => by simp only [RelD]
theorem dc_dLe {K : PySem.W.Frag} : OpL K (rI0 fun i j => .bl (decide (i ≤ j))) dLe := opl_I0 fun _ _ _ _ => by simp only [RelD]
theorem dc_dGt {K : PySem.W.Frag} : OpL K (rI0 fun i j => .bl (decide (j < i))) dGt := opl_I0 fun _ _ _ _ => by simp only [RelD]
theorem dc_dGe {K : PySem.W.Frag} : OpL K (rI0 fun i j => .bl (decide (j ≤ i))) dGe := opl_I0 fun _ _ _ _ => by simp only [RelD]
theorem pE_chainI {op op' : CmpOp} {r r' : R2} {o o' : S → D → D → Option D} {h : F D} (ho : OpR X (compareOp op) r) (ho' : OpR X (compareOp op') r') (hl : OpL X.K r o) (hl' : OpL X.K r' o') (ha : PE X a (tE X.K W f)) (hb : PE X b (tE X.K W g)) (hc : PE X c (tE X.K W h))
    (hm : lastMarks [op, op'] [b, c] = false := by with_unfolding_all rfl) : PE X (.Compare a [op, op'] [b, c] pos) (tE X.K W (fChain o o' f g h)) := pE_chain ho ho' hl hl' ha hb hc (pe_chain ho ho' ha hb hc hm)
/-! ### comparisons as tests -/
theorem weak_tst (σ : L2.St) (H : Hp) (Q : Bool → Hp → Prop) {te : TE} (hw : ∀ σ H Q, tE X.K W f σ H Q → te σ H Q) (hq : tT X.K W (fTst f) σ H Q) : tTest te σ H Q := by
  obtain ⟨mu, s, L, m, l, p⟩ := hq
  refine hw σ H _ ⟨mu, s, L, m, l, Post.step p fun d1 s1 mu1 H1 v1 g1 m1 r1 p1 => ?_⟩
  cases d1 <;> try exact p1.elim
  rename_i bb
  exact ⟨bb, rel_bl.mp r1, p1 mu1 H1 _ (Ge.refl _ _) m1 rfl⟩
theorem pT_cmp {op : CmpOp} {r : R2} {o : S → D → D → Option D} (ho : OpR X (compareOp op) r) (hl : OpL X.K r o) (ha : PE X a (tE X.K W f)) (hb : PE X b (tE X.K W g)) (hm : behindInMarks op b = false := by first | exact nomark _ | rfl) :
    PT X (.Compare a [op] [b] pos) (tT X.K W (fTst (fOp o f g))) :=
  PT.weak (pt_cmpR ho ha hb hm) fun σ H Q q => weak_tst σ H Q (fun σ H Q q => weak_op hl σ H Q q) q
theorem pT_lt (ha : PE X a (tE X.K W f)) (hb : PE X b (tE X.K W g)) : PT X (.Compare a [.Lt] [b] pos) (tT X.K W (fTst (fOp dLt f g))) := pT_cmp op_lt dc_dLt ha hb
theorem pT_gt (ha : PE X a (tE X.K W f)) (hb : PE X b (tE X.K W g)) : PT X (.Compare a [.Gt] [b] pos) (tT X.K W (fTst (fOp dGt f g))) := pT_cmp op_gt dc_dGt ha hb
theorem pT_ge (ha : PE X a (tE X.K W f)) (hb : PE X b (tE X.K W g)) : PT X (.Compare a [.GtE] [b] pos) (tT X.K W (fTst (fOp dGe f g))) := pT_cmp op_ge dc_dGe ha hb
theorem pT_eq {k : Nat} (hr : Room k X.A) (ha : PE X a (tE X.K W f)) (hb : PE X b (tE X.K W g)) : PT X (.Compare a [.Eq] [b] pos) (tT X.K W (fTst (fOp (dEqD false) f g))) := pT_cmp (op_eqD hr.units) opl_eqD ha hb
/-! ### defs that leave the store as it was -/
/-- an own tracked object in an answer becomes one that is not changed any more -/
def finS (n : Nat) (s : S) (d : D) : Option D := match d with
  | .ref i => if i < n then some (.ref i) else (match s[i]? with
    | some (.lst xs) => if D.bels n xs = true then some (.lst xs) else none
    | some (.dk ks vs) => if D.bels n vs = true then some (.dk ks vs) else none
    | some (.dt ks vs) => if D.bels n vs = true then some (.dt ks vs) else none
    | some (.ins C fs vs) => if D.bels n vs = true then some (.ins C fs vs) else none
    | _ => none)
  | d => if D.bel n d = true then some d else none
def finsS (n : Nat) (s : S) : List D → Option (List D)
  | [] => some []
  | x :: xs => match finS n s x, finsS n s xs with
    | some y, some ys => some (y :: ys)
    | _, _ => none
def fin2 (n : Nat) (s : S) (d : D) : Option D := match d with
  | .tup xs => (finsS n s xs).map .tup
  | .ref i => if i < n then some (.ref i) else (match s[i]? with
    | some (.lst xs) => (finsS n s xs).map .lst
    | _ => finS n s (.ref i))
  | d => finS n s d
theorem not_live_cut {K : PySem.W.Frag} {mu : Mu} {s : S} {H : Hp} {n i : Nat} {a : Addr} (m : Sim K mu s H) (h : mu[i]? = some (some a)) (hi : ¬ i < n) : ¬ Live (mu.take n) a := fun z => by
  obtain ⟨j, ej⟩ := live_iff.mp z
  rw [List.getElem?_take] at ej
  split at ej
  · have := m.inj j i a ej h
    omega
  · cases ej
theorem finS_ok {K : PySem.W.Frag} {mu : Mu} {s : S} {H : Hp} {n : Nat} {d d' : D} {v : V} (m : Sim K mu s H) (r : RelD K mu H d v) (e : finS n s d = some d') : RelD K (mu.take n) H d' v := by
  unfold finS at e
  split at e
  · rename_i i
    split at e
    · rename_i hi
      cases e
      exact r.cut _ _ (by simp only [D.bel, decide_eq_true_eq]; exact hi)
    · rename_i hi
      simp only [RelD] at r
      obtain ⟨a, ea, rfl⟩ := r
      have nl := not_live_cut m ea hi
      split at e
      · rename_i xs hs
        split at e
        · rename_i hb
          cases e
          rcases m.obj i _ hs with z | ⟨b, eb, ro⟩
          · cases z
          · rw [ea] at eb
            cases eb
            obtain ⟨vs, h1, h2⟩ := ro
            simp only [RelD]
            exact ⟨a, vs, rfl, ⟨h1, nl⟩, h2.cut _ _ hb⟩
        · cases e
      · rename_i ks xs hs
        split at e
        · rename_i hb
          cases e
          rcases m.obj i _ hs with z | ⟨b, eb, ro⟩
          · cases z
          · rw [ea] at eb
            cases eb
            obtain ⟨vs, h1, h3, h2⟩ := ro
            simp only [RelD]
            exact ⟨a, vs, rfl, ⟨h1, nl⟩, h3, h2.cut _ _ hb⟩
        · cases e
      · rename_i ks xs hs
        split at e
        · rename_i hb
          cases e
          rcases m.obj i _ hs with z | ⟨b, eb, ro⟩
          · cases z
          · rw [ea] at eb
            cases eb
            obtain ⟨bs, vs, h1, kk, h3, h2⟩ := ro
            simp only [RelD]
            exact ⟨a, bs, vs, rfl, ⟨h1, nl⟩, Paired.mapP kk fun _ _ z => z.imp id Fix.cut, h3, h2.cut _ _ hb⟩
        · cases e
      · rename_i C fs xs hs
        split at e
        · rename_i hb
          cases e
          rcases m.obj i _ hs with z | ⟨b, eb, ro⟩
          · cases z
          · rw [ea] at eb
            cases eb
            obtain ⟨dx, vs, h1, h3, h2⟩ := ro
            simp only [RelD]
            exact ⟨a, dx, vs, rfl, h1, nl, h3, h2.cut _ _ hb⟩
        · cases e
      · cases e
  · split at e
    · rename_i hb
      cases e
      exact r.cut _ _ hb
    · cases e
theorem finsS_ok {K : PySem.W.Frag} {mu : Mu} {s : S} {H : Hp} {n : Nat} (m : Sim K mu s H) : ∀ {ds ds' : List D} {vs : List V}, RelDs K mu H ds vs → finsS n s ds = some ds' → RelDs K (mu.take n) H ds' vs
  | [], ds', vs, r, e => by
    cases e
    simp only [RelDs] at r
    subst r
    exact .nil
  | d :: ds, ds', vs, r, e => by
    simp only [RelDs] at r
    obtain ⟨v, vr, rfl, r1, r2⟩ := r
    simp only [finsS] at e
    cases e1 : finS n s d with
    | none =>
      rw [e1] at e
      cases e
    | some y =>
      cases e2 : finsS n s ds with
      | none =>
        rw [e1, e2] at e
        cases e
      | some ys =>
        rw [e1, e2] at e
        cases e
        exact .cons (finS_ok m r1 e1) (finsS_ok m r2 e2)
theorem fin2_ok {K : PySem.W.Frag} {mu : Mu} {s : S} {H : Hp} {n : Nat} {d d' : D} {v : V} (m : Sim K mu s H) (r : RelD K mu H d v) (e : fin2 n s d = some d') : RelD K (mu.take n) H d' v := by
  unfold fin2 at e
  split at e
  · rename_i xs
    cases e1 : finsS n s xs with
    | none =>
      rw [e1] at e
      cases e
    | some ys =>
      rw [e1] at e
      cases e
      simp only [RelD] at r ⊢
      obtain ⟨a, vs, h1, h2, h3⟩ := r
      exact ⟨a, vs, h1, h2.imp id Fix.cut, finsS_ok m h3 e1⟩
  · rename_i i
    split at e
    · rename_i hi
      cases e
      exact r.cut _ _ (by simp only [D.bel, decide_eq_true_eq]; exact hi)
    · rename_i hi
      split at e
      · rename_i xs hs
        cases e1 : finsS n s xs with
        | none =>
          rw [e1] at e
          cases e
        | some ys =>
          rw [e1] at e
          cases e
          obtain ⟨a, vs, ev, ea, eh, rs⟩ := sq_ref m r hs
          simp only [RelD]
          exact ⟨a, vs, ev, ⟨eh, not_live_cut m ea hi⟩, finsS_ok m rs e1⟩
      · exact finS_ok m r e
  · exact finS_ok m r e
/-- the store behind the def is the one ahead of it -/
def pureF (G : List D → S → R D) : List D → S → R D := fun ds s => match G ds s with
  | .ok d s' => if s'.take s.length = s then (match fin2 s.length s' d with
    | some d' => .ok d' s
    | none => .bad) else .bad
  | .ex C fs vs s' => if s'.take s.length = s ∧ D.bels s.length vs = true then .ex C fs vs s else .bad
  | .bad => .bad
/-- .. or has changed, but for the def's own objects -/
def cutF (G : List D → S → R D) : List D → S → R D := fun ds s => match G ds s with
  | .ok d s' => if (s'.take s.length).all (O.bel s.length) = true then (match fin2 s.length s' d with
    | some d' => .ok d' (s'.take s.length)
    | none => .bad) else .bad
  | .ex C fs vs s' => if (s'.take s.length).all (O.bel s.length) = true ∧ D.bels s.length vs = true then .ex C fs vs (s'.take s.length) else .bad
  | .bad => .bad
theorem xr_cut {K : PySem.W.Frag} {mu : Mu} {H : Hp} {n : Nat} {fs : List Str} {vs : List D} {od : Option Addr} (x : XR K mu H fs vs od) (hb : D.bels n vs = true) : XR K (mu.take n) H fs vs od := by
  rcases x with x | ⟨d2, vs2, e2, h2, n2, l2, rr2⟩
  · exact .inl x
  · exact .inr ⟨d2, vs2, e2, h2, not_live_take n2, l2, rr2.cut _ _ hb⟩
theorem spI_pure {K : PySem.W.Frag} {n : Nat} {G : List D → S → R D} (vs : List V) (H : Hp) (Q : VK) (E : XK) (h : spI K n (pureF G) vs H Q E) : spI K n G vs H Q E := by
  obtain ⟨mu, s, ds, m, r, hn, p⟩ := h
  refine ⟨mu, s, ds, m, r, hn, ?_⟩
  unfold pureF at p
  have back : ∀ {mu2 : Mu} {s2 : S} {H2 : Hp}, Ge mu H mu2 H2 → Sim K mu2 s2 H2 → s2.take s.length = s → Ge mu H (mu2.take s.length) H2 ∧ Sim K (mu2.take s.length) s H2 := fun {mu2 s2 H2} g2 m2 e => by
    refine ⟨?_, ?_⟩
    · have z := g2.back
      rw [m.len] at z
      exact z
    · have z := m2.back (n := s.length) (by rw [e]; exact fun o ho => m.below ho)
      rw [e] at z
      exact z
  cases eg : G ds s with
  | bad =>
    rw [eg] at p
    exact p.elim
  | ex C fs vs s' =>
    rw [eg] at p
    dsimp only at p
    split at p
    · rename_i hc
      intro mu2 H2 od g2 m2 x2
      obtain ⟨g3, m3⟩ := back g2 m2 hc.1
      exact p _ H2 od g3 m3 (xr_cut x2 hc.2)
    · exact p.elim
  | ok d s' =>
    rw [eg] at p
    dsimp only at p
    split at p
    · rename_i hc
      cases ef : fin2 s.length s' d with
      | none =>
        rw [ef] at p
        exact p.elim
      | some d' =>
        rw [ef] at p
        intro mu2 H2 v g2 m2 r2
        obtain ⟨g3, m3⟩ := back g2 m2 hc
        exact p _ H2 v g3 m3 (fin2_ok m2 r2 ef)
    · exact p.elim
end
end SI

namespace SI
open PySem PySem.Spec PyProof.Rows L2
/-! ### own exception classes over Exception -/
abbrev exTail : List Value := [.type "Exception", .type "BaseException", .type "object"]
structure ExE (K : PySem.W.Frag) (C : Addr) : Prop where
  ini : PySem.W.excInitIn K C exTail "Exception.__new__" = true
  ovr : PySem.W.excOver K C exTail = true
  hd : PySem.W.hasDictIn K C = true
  sa : PySem.W.findIn K (.ref C) "__setattr__" = some (some (.builtin "object.__setattr__"))
  sub : PySem.W.subIn K (.ref C) (.type "BaseException") = some true
  ty : PySem.W.typeIn K (.ref C) = some (.type "type")
  keep : PySem.W.keepIn K (.ref C) = true
section
variable {X : Cx} {pins : List (Addr × Obj)} {σ : L2.St} {H : Hp} {s : Shared} {a C dx : Addr} {f : Str} {y : V} {u : Value} {fs : List (Str × V)} {Q : Unit → Shared → Prop} {E : Value → Shared → Prop} {A : Around}
theorem est_new (T : ExE X.K C) (I : Inv X pins σ H s) (e : H a = some (exo a C none)) (hno : PySem.W.takerIn X.K C f = some none) (ry : RelV y u)
    (k : ∀ dx s', H dx = none → dx ≠ a → Inv X pins σ (upd (upd H dx (exd dx [(f, y)])) a (exo a C (some dx))) s' → Q () s') : wpAny (model X.prog X.w) A (setAttr (.ref a) f u) Q E s := by
  obtain ⟨t1, ho⟩ := exo_at I.hok e
  obtain ⟨cd, hc, hh⟩ := PySem.W.any_some T.hd
  obtain ⟨hp, g, d, t, os⟩ := s
  have J : PySem.W.InstAt hp a { cls := .ref C, dict := none, data := .fields #[.ref t1, .none, .none, .none, .bool false, .none] } C none := ⟨ho, rfl, rfl, trivial⟩
  have lt : a < hp.objs.size := Heap.lt_size ho
  refine PySem.W.set_plain I.kIn J T.sa (PySem.W.osa_openX (s := ⟨hp, g, d, t + 1, os⟩) PySem.F.store_Exception I.kIn J T.ovr hno fun b => ?_)
  refine wpAny_bind (wpAny_pure (wpAny_bind (PySem.W.instanceDict_exc (s := ⟨hp, g, d, t + 1, os⟩) ho (PySem.W.looks_clsIn I.kIn hc) hh ?_)))
  refine PySem.HandSPX.store_in_new ?_ fun h2 tk2 hn hs => ?_
  · exact ⟨_, #[], _, (Heap.get?_update_ne _ _ _ _ (Nat.ne_of_gt lt)).trans (Heap.get?_push_at rfl rfl), rfl, fun z hz => absurd hz (by simp), fun _ => rfl⟩
  · have hfree : H hp.objs.size = none := I.hok.fresh (Nat.le_refl _)
    have hne : hp.objs.size ≠ a := Nat.ne_of_gt lt
    obtain ⟨od, es, ep, hod, hod2, hod3⟩ := id hn
    have low : ∀ {b : Addr} {o : Obj}, hp.get? b = some o → b ≠ a → h2.get? b = some o := fun {b o} q hb => (hs.2 b (Nat.ne_of_lt (Heap.lt_size q))).trans ((Heap.get?_update_ne _ _ _ _ hb).trans (Heap.get?_push_of_some _ q))
    have atA : h2.get? a = some ({ cls := .ref C, dict := some hp.objs.size, data := .fields #[.ref t1, .none, .none, .none, .bool false, .none] } : Obj) := (hs.2 a (Ne.symm hne)).trans (Heap.get?_update_self _ (Heap.get?_push_of_some _ ho) rfl)
    have hmid : (hp.push od).get? hp.objs.size = some od := Heap.get?_push_size hp (Heap.get?_some_iff.mp hod).2
    have I1 : Inv X pins σ (upd H hp.objs.size (exd hp.objs.size [(f, y)])) ⟨hp.push od, g, d, t, os⟩ :=
      I.laid (h' := hp.push od) (t' := t) (fun b o q => Heap.get?_push_of_some _ q) (Nat.le_refl _) (exd_ok (mA := fun z => if z = f then some u else none) ⟨od, es, ep, hmid, hod2, hod3⟩ (relO_put (fs := []) ry fun _ => True.intro))
    have I2 := I1.write (h' := h2) (t' := tk2) (x := a) (e := a) (o := exo a C (some hp.objs.size)) (by rw [upd_ne (Ne.symm hne), e]; exact True.intro) (.inl rfl) (fun b o hb q => by
      by_cases hz : b = hp.objs.size
      · subst hz
        rw [hmid] at q
        cases q
        exact hod
      · have hlt : b < (hp.push od).objs.size := Heap.lt_size q
        have q' : hp.get? b = some o := by
          rw [Heap.get?_push_ne _ _ _ hz] at q
          exact q
        exact low q' hb) ⟨_, atA⟩ (exo_ok atA)
    exact k hp.objs.size _ hfree hne I2
theorem est_old (T : ExE X.K C) (I : Inv X pins σ H s) (e : H a = some (exo a C (some dx))) (ed : H dx = some (exd dx fs)) (hl : fs.length ≤ 900) (hno : PySem.W.takerIn X.K C f = some none) (ry : RelV y u)
    (k : ∀ s', Inv X pins σ (upd H dx (exd dx ((f, y) :: fs))) s' → Q () s') : wpAny (model X.prog X.w) A (setAttr (.ref a) f u) Q E s := by
  obtain ⟨t1, ho⟩ := exo_at I.hok e
  obtain ⟨mA, hns, rel⟩ := exd_at I.hok ed
  obtain ⟨cd, hc, hh⟩ := PySem.W.any_some T.hd
  obtain ⟨hp, g, d, t, os⟩ := s
  obtain ⟨oD, _, _, hoD, _, _⟩ := hns.count (within_of rel)
  have J : PySem.W.InstAt hp a { cls := .ref C, dict := some dx, data := .fields #[.ref t1, .none, .none, .none, .bool false, .none] } C (some oD) := ⟨ho, rfl, rfl, hoD⟩
  have LC : PySem.W.Looks (model X.prog X.w) hp (classData C) cd := PySem.W.looks_clsIn I.kIn hc
  refine PySem.W.set_plain I.kIn J T.sa (PySem.W.osa_openX (s := ⟨hp, g, d, t + 1, os⟩) PySem.F.store_Exception I.kIn J T.ovr hno fun b => ?_)
  refine wpAny_bind (wpAny_pure (wpAny_bind (wpAny_bind (wpAny_loadPart ho (wpAny_bind (LC.at ?_))))))
  rw [hh]
  refine wpAny_pure (a := some dx) ?_
  refine PySem.OEX.store_in_old hns (within_of rel) (by rw [List.length_map]; omega) fun h2 tk2 hn hs => ?_
  have hd : ∃ o, h2.get? dx = some o := by
    obtain ⟨o, _, _, z, _⟩ := hn
    exact ⟨o, z⟩
  exact k _ (I.write (t' := tk2) (x := dx) (e := dx) (o := exd dx ((f, y) :: fs)) (by rw [ed]; exact True.intro) (.inl rfl) (fun b o hb q => (hs.2 b hb).trans q) hd (exd_ok hn (relO_put ry rel)))
end
/-! ### raise -/
/-- self.f = y in an exception's __init__ -/
def tEst (K : PySem.W.Frag) (f : Str) (to te : TE) : TS := fun D σ H => te σ H fun y H1 => to σ H1 fun x H2 => ∃ a C : Addr, x = .ref a ∧ ExE K C ∧ PySem.W.takerIn K C f = some none ∧
  ((H2 a = some (exo a C none) ∧ ∀ dx, H2 dx = none → dx ≠ a → D.nx σ (upd (upd H2 dx (exd dx [(f, y)])) a (exo a C (some dx)))) ∨
    ∃ (dx : Addr) (fs : List (Str × V)), H2 a = some (exo a C (some dx)) ∧ H2 dx = some (exd dx fs) ∧ fs.length ≤ 900 ∧ D.nx σ (upd H2 dx (exd dx ((f, y) :: fs))))
section
variable {X : Cx} {W : WX} {o e : Expr} {es : List Expr} {to te : TE} {ta : TA} {f : Str} {p p' pos : Pos}
theorem ps_est (ho : PE X o to) (he : PE X e te) (hs : swapsWith e (some (.Attribute o f p')) pos.line X.env = pure false := by rfl) : PS X (.Assign [.Attribute o f p'] e pos) (tEst X.K f to te) := by
  refine ⟨fun pins s σ H D I h => plainObj_wpAny_Assign_Attribute (thn (he.run pins s σ H _ I h) fun v s1 hv => ?_) hs⟩
  obtain ⟨y, H1, I1, r1, q1⟩ := hv
  refine thn (ho.run pins s1 σ H1 _ I1 q1) fun u s2 hu => ?_
  obtain ⟨x, H2, I2, r2, a, C, ex, T, hno, q⟩ := hu
  subst ex
  have eu : u = Value.ref a := r2
  subst eu
  rcases q with ⟨ea, q⟩ | ⟨dx, fs, ea, ed, hl, q⟩
  · exact est_new T I2 ea hno r1 fun dx s3 n ne J3 => ⟨σ, _, J3, q dx n ne⟩
  · exact est_old T I2 ea ed hl hno r1 fun s3 J3 => ⟨σ, _, J3, q⟩
/-- what an exception's __init__ of one (two) stored arguments promises -/
def spX1 (K : PySem.W.Frag) (f : Str) : Sp := fun vs H Q _ => ∃ (a C : Addr) (y : V), vs = [.ref a, y] ∧ ExE K C ∧ PySem.W.takerIn K C f = some none ∧ H a = some (exo a C none) ∧
  ∀ dx, H dx = none → dx ≠ a → Q .non (upd (upd H dx (exd dx [(f, y)])) a (exo a C (some dx)))
theorem ok_x1 {P : Program} {w : World} {K : PySem.W.Frag} {mg : Str → Option Value} {base : Heap} {x qual s0 p0 : Str} {st : Stmt} {fA : Addr} {fd : FuncData} {f : Str} (Fu : Fun K x qual st fA fd) (Sc : FnScope [s0, p0] [s0, p0] (defScope st))
    (hbody : ∀ (cdv : Value) (A : Around) (outer : List Env) (s : Shared) (H : Hp) (E : XK), PSs (cxOf (L2.CX P w) P w K mg base [s0, p0] qual (defScope st) fA cdv A outer s H E) (defBody st) (tEst K f (tVar 0) (tVar 1))) :
    FnOk P w K mg base (L2.CX P w) 1 fA fd [s0, p0] (spX1 K f) := by
  refine Fu.okX Sc (fun vs H Q E h => ?_) (fun cdv A outer s H vs Q E hr h => ?_)
  · obtain ⟨a, C, y, rfl, _⟩ := h
    rfl
  · obtain ⟨a, C, y, rfl, T, hno, ha, q⟩ := h
    exact ⟨_, hbody cdv A outer s H E, y, rfl, .ref a, rfl, a, C, rfl, T, hno, .inl ⟨ha, q⟩⟩
/-- C(e, ..) of an own exception class over Exception -/
theorem pmk_ex {x : Str} {C fI : Addr} {k : Nat} {fd : FuncData} {ps : List Str} {sp : Sp} (T : ExE X.K C) (iC : PySem.W.findIn X.K (.ref C) "__init__" = some (some (.ref fI))) (tI : PySem.W.typeIn X.K (.ref fI) = some (.type "function"))
    (F1 : FnOk X.prog X.w X.K X.mg X.base (L2.CX X.prog X.w) k fI fd ps sp) (hr : Room (k + 1) X.A) (hb : Binds X.K fd ps []) (hg : Gl X x) (hm : X.mg x = some (.ref C)) (ha : PA X (e :: es) ta)
    (hdb : (x == ("__debug__" : Str)) = false := by decide) (he : starEach (e :: es) X.env = (false, eval e X.env) :: starEach es X.env := by rfl) (hpl : (backTo pos (starEach es X.env)).any (·.1) = false := by rfl) :
    PMk X (.Call (.Name x p) (e :: es) [] pos) (tMkO C sp [] ta) := by
  intro pins s σ H Q I h
  refine wpAny_Call_Name_kw (ld_glob I hg hm ?_ hdb)
  refine PySem.W.callWith_K (h₀ := X.base) I.ok.mod.kin T.keep (thn (ha.run pos pins s σ H _ I h) fun us s1 hu => ?_) he hpl
  obtain ⟨vs, H1, I1, r1, hz, q1⟩ := hu
  refine ⟨I1.kIn, ?_⟩
  obtain ⟨h0, g, dr, tk, os⟩ := s1
  obtain ⟨nm, N, qn, bs, bm, hdct, sn, sub, ab, col, dd, k0, k1, k2, k3, k5, hC, hT⟩ := PySem.W.excInit_of I1.kIn T.ini
  obtain ⟨h2, eh2⟩ : ∃ z, z = (h0.push (PySem.W.kdv_tup us)).push (PySem.HandSPX.excO C h0.objs.size) := ⟨_, rfl⟩
  have grow : h0.objs.size ≤ h0.objs.size + 1 := Nat.le_succ _
  have keepH : ∀ b ob, h0.get? b = some ob → h2.get? b = some ob := fun b ob q => by
    rw [eh2]
    exact Heap.get?_push_of_some _ (Heap.get?_push_of_some _ q)
  have there : h2.get? (h0.objs.size + 1) = some (PySem.HandSPX.excO C h0.objs.size) := by
    rw [eh2]
    heap_get
  have free : H1 (h0.objs.size + 1) = none := I1.hok.fresh grow
  have hq := q1 _ free
  have J : Inv X pins σ (upd H1 (h0.objs.size + 1) (exo (h0.objs.size + 1) C none)) ⟨h2, g, dr, tk, os⟩ := I1.laid (t' := tk) (h' := h2) keepH grow (exo_ok there)
  rw [List.append_nil] at hq
  have rr : Vals (V.ref (h0.objs.size + 1) :: vs) (Value.ref (h0.objs.size + 1) :: us) := .cons rfl r1
  have hl : (Value.ref (h0.objs.size + 1) :: us).length = ps.length := by
    have z := rr.length
    rw [F1.len _ _ _ _ hq] at z
    exact z.symm
  have hus : us.length ≤ sizeLine := by
    rw [← Paired.length r1, sizeLine_eq]
    omega
  have bd := hb ⟨h2, g, dr, tk, os⟩ (Value.ref (h0.objs.size + 1) :: us) J.kIn (by rw [List.append_nil]; exact hl)
  rw [List.append_nil] at bd
  have run := F1.run _ X.stack _ _ ⟨Value.ref (h0.objs.size + 1) :: us, []⟩ _ _ _ _ (hr.make C us []) (J.env0.make C us []) bd rr hq
  show wpAny _ _ (call (.ref C) us) _ _ _
  refine wpAny_call (PySem.HandSPX.call_own PySem.F.excBase_Exception hT hC (PySem.W.looks_findIn I1.kIn iC) (fun self => PySem.W.bind_fn I1.kIn self tI) hus ?_)
  rw [← eh2]
  refine codeAny_mono run fun r s' hr' => ?_
  cases r with
  | error er =>
    obtain ⟨_, _, _, _, _, _, _, _, _, _, _, _, z⟩ := hr'
    exact z.elim
  | ok fl =>
    cases fl with
    | ret u =>
      obtain ⟨v, H2, os2, bare2, un2, hok2, rv, ev, d, fs, ea, ed, hd1, q2⟩ := hr'
      subst ev
      obtain ⟨h3, g3, d3, t3, os3⟩ := s'
      exact ⟨rv, mk_end (raises_own T.sub T.ty) I1 grow keepH un2 hok2 os2 bare2 ea ed hd1 q2⟩
    | next => exact False.elim hr'
    | brk => exact False.elim hr'
    | cont => exact False.elim hr'
end
section
variable {X : Cx} {W : WX} {e : Expr} {es : List Expr} {fa : F (List D)} {p pos pos' : Pos}
def sRaise1 (C : Addr) (f : Str) (fa : F (List D)) : FS := fun L s => (fa L s).bindS L fun ds s1 => match ds with
  | [d] => .ex C [f] [d] L s1
  | _ => .bad
def sRaise2 (C : Addr) (f g : Str) (fa : F (List D)) : FS := fun L s => (fa L s).bindS L fun ds s1 => match ds with
  | [d, d'] => .ex C [g, f] [d', d] L s1
  | _ => .bad
theorem xd_end {H1 : Hp} {a C dx : Addr} {u : HO} {fs : List (Str × V)} (ha : H1 a = none) (hne : dx ≠ a) : upd (del (upd (upd (upd H1 a (exo a C none)) dx u) a (exo a C (some dx))) a) dx (.xd fs) = upd H1 dx (.xd fs) := by
  funext b
  by_cases hb : b = dx
  · subst hb
    rw [upd_same, upd_same]
  · rw [upd_ne hb, upd_ne hb]
    by_cases hc : b = a
    · subst hc
      rw [del_same, ha]
    · rw [del_ne hc, upd_ne hc, upd_ne hb, upd_ne hc]
theorem pS_raise1 {x f : Str} {C fI : Addr} {k : Nat} {fd : FuncData} {ps : List Str} (hc : X.calm = true) (tk : Takes X W) (T : ExE X.K C) (hf : PySem.W.takerIn X.K C f = some none) (iC : PySem.W.findIn X.K (.ref C) "__init__" = some (some (.ref fI))) (tI : PySem.W.typeIn X.K (.ref fI) = some (.type "function"))
    (F1 : FnOk X.prog X.w X.K X.mg X.base (L2.CX X.prog X.w) k fI fd ps (spX1 X.K f)) (hr : Room (k + 1) X.A) (hb : Binds X.K fd ps []) (hm : X.mg x = some (.ref C)) (ha : PA X (e :: es) (tA X.K W fa)) (hg : Gl X x := by rfl)
    (hdb : (x == ("__debug__" : Str)) = false := by decide) (he : starEach (e :: es) X.env = (false, eval e X.env) :: starEach es X.env := by rfl) (hpl : (backTo pos (starEach es X.env)).any (·.1) = false := by rfl) :
    PS X (.Raise (some (.Call (.Name x p) (e :: es) [] pos)) none pos') (tS X.K W (sRaise1 C f fa)) := by
  refine PS.weak (ps_raise hc tk (pmk_ex T iC tI F1 hr hb hg hm ha hdb he hpl)) fun D σ H ⟨mu, s, L, m, l, q⟩ => ⟨mu, s, L, m, l, Post.stepS l q fun ds s1 mu1 H1 vs g1 m1 r1 q1 => ?_⟩
  rcases ds with _ | ⟨d, _ | ⟨d', ds⟩⟩
  · exact q1.elim
  · obtain ⟨v, rfl, rd⟩ := rel1 r1
    refine ⟨by simp, fun a hn => ⟨a, C, v, rfl, T, hf, upd_same, fun dx hdx hne => ⟨rfl, dx, [(f, v)], upd_same, by rw [upd_ne hne, upd_same], by rw [upd_ne hne] at hdx; exact hdx, ?_⟩⟩⟩
    rw [upd_ne hne] at hdx
    rw [xd_end hn hne]
    exact q1 mu1 σ _ (some dx) (Ge.pure m1 hdx) (m1.pure hdx) ((l.mono g1).mono (Ge.pure m1 hdx)) (.inr ⟨dx, [v], rfl, upd_same, m1.fresh hdx, rfl, .cons (rd.mono (Ge.pure m1 hdx)) .nil⟩)
  · exact q1.elim
/-! ### try -/
def RS.drop (i : Nat) : RS → RS
  | .nx L s => .nx (L.set i none) s
  | .rt d s => .rt d s
  | .bk L s => .bk (L.set i none) s
  | .ct L s => .ct (L.set i none) s
  | .ex _ _ _ _ _ => .bad
  | .bad => .bad
open Classical in
/-- the common result, if there is one -/
noncomputable def hAll (g : Addr → Option Addr → RS) : RS := if h : ∃ r, ∀ a od, g a od = r then h.choose else .bad
def selOf : List (Addr × Bool) → Addr → Option Bool
  | [], _ => none
  | (c, b) :: r, C => if C = c then some b else selOf r C
noncomputable def sTryAs (i : Nat) (sel : List (Addr × Bool)) (b : FS) (h : Addr → Addr → Option Addr → FS) : FS := fun L s => match b L s with
  | .ex C fs vs L1 s1 => match selOf sel C with
    | some true => hAll fun a od => (h a C od (L1.set i (some (.exc a C od fs vs))) s1).drop i
    | some false => .ex C fs vs L1 s1
    | none => .bad
  | r => r
theorem PostS.drop {K : PySem.W.Frag} {W0 : WX} {D : Ends} {mu : Mu} {H : Hp} {i : Nat} {r : RS} (h : PostS K W0 D mu H (r.drop i)) :
    PostS K (fun _ _ _ _ => False) { nx := fun σ' H' => D.nx (σ'.set i none) H', rt := D.rt, bk := fun σ' H' => D.bk (σ'.set i none) H', ct := fun σ' H' => D.ct (σ'.set i none) H' } mu H r := by
  cases r with
  | nx L s => exact fun mu' σ' H' g m l => h mu' _ H' g m (l.del i)
  | rt d s => exact h
  | bk L s => exact fun mu' σ' H' g m l => h mu' _ H' g m (l.del i)
  | ct L s => exact fun mu' σ' H' g m l => h mu' _ H' g m (l.del i)
  | ex C fs vs L s => exact h.elim
  | bad => exact h
/-- e.f in the suite -/
def fXf (a0 C0 : Addr) (d0 : Option Addr) (cs : List Addr) (n : Str) (f : F D) : F D := fun L s => (f L s).bind fun d s1 => match d with
  | .exc a C od fs vs => if a = a0 ∧ C = C0 ∧ od = d0 ∧ C ∈ cs then (match (fs.zip vs).lookup n with
    | some r => .ok r s1
    | none => .bad) else .bad
  | _ => .bad
end
end SI

namespace PySem.W
open PySem PySem.Calls PyProof.Rows
section
variable {prog : Program} {w : World} {A : Around} {E : Value → Shared → Prop} {s : Shared} {K : Frag} {x C f : Addr} {ox : Obj} {od : Option Obj} {T : String}
end
end PySem.W
namespace SI
open PySem PySem.Spec PyProof.Rows L2
section
variable {X : Cx} {W : WX} {a b : Expr} {f g : F D} {pos : Pos}
/-! ### any, all of a list of bools -/
/-! ### calls without arguments -/
/-- an own exception class without own __init__ -/
structure Ex0 (K : PySem.W.Frag) (C : Addr) : Prop where
  ini : PySem.W.excIn K C exTail "Exception.__new__" = true
  sub : PySem.W.subIn K (.ref C) (.type "BaseException") = some true
  ty : PySem.W.typeIn K (.ref C) = some (.type "type")
  keep : PySem.W.keepIn K (.ref C) = true
def sRaise0 (C : Addr) : FS := fun L s => .ex C [] [] L s
theorem pS_raise0 {x : Str} {C : Addr} {p p' : Pos} (hc : X.calm = true) (tk : Takes X W) (T : Ex0 X.K C) (hm : X.mg x = some (.ref C)) (hg : Gl X x := by rfl) (hdb : (x == ("__debug__" : Str)) = false := by decide) :
    PS X (.Raise (some (.Call (.Name x p) [] [] pos)) none p') (tS X.K W (sRaise0 C)) := by
  have mk : PMk X (.Call (.Name x p) [] [] pos) (fun _ H Q => Q (.ref C) none H) := by
    intro pins s σ H Q I h
    refine wpAny_Call_Name_kw (ld_glob I hg hm ?_ hdb)
    refine PySem.W.callWith_K0 I.kIn T.keep ?_
    show wpAny _ _ (call (.ref C) []) _ _ _
    obtain ⟨bm, N, nm, qn, bs, hdct, sn, sub, ab, col, dd, k0, k1, k2, k3, k5, mN, hC, hN, hni, tl⟩ := exc_obj I.kIn T.ini
    exact wpAny_call_exc_subT PySem.F.excBase_Exception tl hC hN hni (fun h' e hx => mk_of (I.tok _) hx (raises_own T.sub T.ty) h (I.hok.gone hx.new)) (Nat.zero_le _)
  exact PS.weak (ps_raise hc tk mk) fun D σ H ⟨mu, s, L, m, l, q⟩ => q mu σ H none (Ge.refl _ _) m l (.inl ⟨rfl, rfl, rfl⟩)
def RS.calm : RS → RS
  | .ex _ _ _ _ _ => .bad
  | r => r
/-- try .. except C: -/
def sTry (sel : List (Addr × Bool)) (b h : FS) : FS := fun L s => match b L s with
  | .ex C fs vs L1 s1 => match selOf sel C with
    | some true => (h L1 s1).calm
    | some false => .ex C fs vs L1 s1
    | none => .bad
  | r => r
theorem PostS.calm {K : PySem.W.Frag} {W0 : WX} {D : Ends} {mu : Mu} {H : Hp} {r : RS} (h : PostS K W0 D mu H r.calm) : PostS K (fun _ _ _ _ => False) D mu H r := by
  cases r with
  | ex C fs vs L s => exact h.elim
  | nx L s => exact h
  | rt d s => exact h
  | bk L s => exact h
  | ct L s => exact h
  | bad => exact h
end
end SI

namespace PySem
open Sem (wp)
open AutoSeq1 (wpAny_loadPart')
section
variable {prog : Program} {w : World} {A : Around} {E : Value → Shared → Prop} {s : Shared}
end
end PySem
namespace L2
open PySem PySem.Spec PyProof.Rows
end L2
namespace SI
open PySem PySem.Spec PyProof.Rows L2
section
variable {X : Cx} {W : WX} {e : Expr} {fa : F (List D)} {pos : Pos}
def enumI : Nat → List D → List D
  | _, [] => []
  | i, x :: r => .tup [.int (i : Nat), x] :: enumI (i + 1) r
theorem enum_get : ∀ (xs : List D) (k i : Nat), (enumI k xs)[i]? = (xs[i]?).map fun x => D.tup [.int ((k + i : Nat) : Int), x]
  | [], k, i => by simp [enumI]
  | x :: r, k, 0 => by simp [enumI]
  | x :: r, k, i + 1 => by
    have := enum_get r (k + 1) i
    simp only [enumI, List.getElem?_cons_succ, this]
    rw [show k + 1 + i = k + (i + 1) by omega]
def iEnu (s : S) : D → Option Src
  | .lst xs => some ⟨enumI 0 xs, none⟩
  | .rdl xs => some ⟨enumI 0 xs, none⟩
  | .tup xs => some ⟨enumI 0 xs, none⟩
  | .ref n => match s[n]? with
    | some (.lst xs) => some ⟨enumI 0 xs, some (n, xs)⟩
    | _ => none
  | _ => none
def fEnu (fa : F (List D)) : F Src := fun L s => (fa L s).bind fun ds s1 => match ds with
  | [d] => match iEnu s1 d with
    | some r => .ok r s1
    | none => .bad
  | _ => .bad
end
end SI

namespace SI
open PySem PySem.Spec PyProof.Rows L2
section
variable {X : Cx} {W : WX} {o e : Expr} {es : List Expr} {fo : F D} {fa : F (List D)} {pos : Pos}
/-! ### append -/
def fApp (fo : F D) (fa : F (List D)) : F D := fun L s => (fo L s).bind fun d s1 => match d with
  | .ref n => match s1[n]? with
    | some (.lst _) => (fa L s1).bind fun ds s2 => match ds with
      | [y] => match s2[n]? with
        | some (.lst xs) => if xs.length < big then .ok .non (s2.set n (.lst (xs ++ [y]))) else .bad
        | _ => .bad
      | _ => .bad
    | _ => .bad
  | _ => .bad
theorem pE_append {apos : Pos} (ho : PE X o (tE X.K W fo)) (ha : PA X [e] (tA X.K W fa)) (hbase : attributeBase o "append" X.env (eval o X.env) = eval o X.env := by rfl)
    (hfew : ((backTo pos (starEach [e] X.env)).all (fun x => !x.1) && (backToKw pos (keywordEach [] X.env)).all (fun x => x.1.isSome)
      && decide ([e].length + ([] : List Keyword).length + (if ([] : List Keyword).isEmpty then 0 else 1) < 30)) = true := by rfl)
    (hline : (apos.endLine == pos.line) = true := by rfl) (hs : starEach [e] X.env = (false, eval e X.env) :: starEach [] X.env := by rfl) :
    PE X (.Call (.Attribute o "append" apos) [e] [] pos) (tE X.K W (fApp fo fa)) := by
  refine PE.weak (pe_bm PySem.F.plainAttrs_list PySem.F.slot_list_append PySem.F.type_list_append mt_append ho ha hbase hfew hline hs rfl) fun σ H Q ⟨mu, s, L, m, l, q⟩ => ?_
  refine ⟨mu, s, L, m, l, Post.step q fun d s1 mu1 H1 v1 g1 m1 r1 p1 => ?_⟩
  cases d <;> try exact p1.elim
  rename_i n
  dsimp only at p1
  cases en : s1[n]? with
  | none =>
    rw [en] at p1
    exact p1.elim
  | some ob =>
    rw [en] at p1
    cases ob <;> try exact p1.elim
    obtain ⟨a, vs, rfl, ea, eh, rs⟩ := sq_ref m1 r1 en
    refine ⟨.inl ⟨rfl, _, SqL.of eh⟩, mu1, s1, L, m1, l.mono g1, Post.step p1 fun ds s2 mu2 H2 ws g2 m2 r2 p2 => ?_⟩
    rcases ds with _ | ⟨y, _ | ⟨y2, ds⟩⟩
    · exact p2.elim
    · obtain ⟨w, rfl, rw⟩ := rel1 r2
      dsimp only at p2
      cases en2 : s2[n]? with
      | none =>
        rw [en2] at p2
        exact p2.elim
      | some ob =>
        rw [en2] at p2
        cases ob <;> try exact p2.elim
        rename_i xs
        dsimp only at p2
        split at p2
        · rename_i hlt
          have ea2 := g2.rf n a ea
          obtain ⟨b, us, eb, ec, ed, rs2⟩ := sq_ref (v := .ref a) m2 (by simp only [RelD]; exact ⟨a, ea2, rfl⟩) en2
          cases eb
          refine ⟨a, us, w, rfl, rfl, ed, ?_, ?_⟩
          · rw [← rs2.length]
            exact Nat.lt_of_lt_of_le hlt (big_le (Nat.le_refl _))
          · refine p2 mu2 _ _ (Ge.put ea2) (m2.put ea2 ?_) (rel_non.mpr rfl)
            exact ⟨us ++ [w], upd_same, (rs2.mono (Ge.put ea2)).append (.cons (rw.mono (Ge.put ea2)) .nil)⟩
        · exact p2.elim
    · exact p2.elim
/-! ### sum -/
def intsOf : List D → Option (List Int)
  | [] => some []
  | .int i :: r => (intsOf r).map (i :: ·)
  | _ => none
theorem ints_rel {K : PySem.W.Frag} {mu : Mu} {H : Hp} : ∀ {ds : List D} {vs : List V} {ns : List Int}, RelDs K mu H ds vs → intsOf ds = some ns → vs = ns.map V.int
  | [], vs, ns, r, e => by
    simp only [RelDs] at r
    cases e
    rw [r]
    rfl
  | d :: ds, vs, ns, r, e => by
    simp only [RelDs] at r
    obtain ⟨v, vr, rfl, h1, h2⟩ := r
    cases d <;> simp only [intsOf] at e <;> try cases e
    obtain ⟨ns', e', rfl⟩ := Option.map_eq_some_iff.mp e
    rw [rel_int.mp h1, ints_rel h2 e']
    rfl
def rSumT (K : PySem.W.Frag) : List V → Hp → VK → Prop := fun vs H Q => ∃ (a : Addr) (ns : List Int), vs = [V.ref a] ∧ SqT K H a (ns.map V.int) ∧ Q (.int ns.sum) H
theorem cr_sumT (hc : X.calm = true) : CallR X (.builtin "sum") (rSumT X.K) := by
  intro pins s σ H vs us Q I r h
  obtain ⟨a, ns, rfl, hs, q⟩ := h
  obtain ⟨its, rv, hl, _⟩ := I.tuple hs
  rw [Vals.ref1 r]
  have hi : IntsAre its ns := rv.ints
  obtain ⟨xs, hx⟩ := hi.allInts.items
  have hn : numsOf its.toArray.toList = ns := by rw [show its.toArray.toList = its from rfl, hi.numsOf]
  have hl' : s.heap.IsTuple a its.toArray := hl
  rw [hx] at hl' hn
  rw [nums_intItems] at hn
  refine PySem.W.ktm_sumG (I.ok.hd hc) hl' fun h' tk t' hk => ⟨.int ns.sum, H, I.kept hk, ⟨t', ?_⟩, q⟩
  rw [preSum_eq, List.take_of_length_le (by simp), hn]
def bSum (s : S) : List D → Option D
  | [d] => ((seqOf s d).bind intsOf).map fun ns => .int ns.sum
  | _ => none
theorem cbl_sum {K : PySem.W.Frag} : CbL K (fun vs H Q => rSum K vs H Q ∨ rSumT K vs H Q) bSum := by
  intro mu s H ds d vs Q m r e q
  rcases ds with _ | ⟨d1, _ | ⟨d2, ds⟩⟩
  · cases e
  · obtain ⟨v, rfl, r1⟩ := rel1 r
    obtain ⟨ns, e1, rfl⟩ := Option.map_eq_some_iff.mp e
    obtain ⟨xs, e2, e3⟩ := Option.bind_eq_some_iff.mp e1
    obtain ⟨a, vs, rfl, h2, h3⟩ := sq_seqOf m r1 e2
    have ev := ints_rel h3 e3
    subst ev
    rcases h2 with h2 | h2
    · exact .inl ⟨a, ns, rfl, h2, q mu H _ (Ge.refl _ _) m (rel_int.mpr rfl)⟩
    · exact .inr ⟨a, ns, rfl, h2, q mu H _ (Ge.refl _ _) m (rel_int.mpr rfl)⟩
  · cases e
theorem pE_sum {p : Pos} (hc : X.calm = true) (hm : X.mg "sum" = none) (ha : PA X [e] (tA X.K W fa)) (hg : Gl X "sum" := by rfl) (he : starEach [e] X.env = (false, eval e X.env) :: starEach [] X.env := by rfl) :
    PE X (.Call (.Name "sum" p) [e] [] pos) (tE X.K W (fCB bSum fa)) := pE_cb ((cr_sum hc).or (cr_sumT hc)) cbl_sum hm (by decide +kernel) ha hg (by decide) (by decide) he rfl
/-! ### calls with keywords -/
theorem PK.weak {X : Cx} {kws : List Keyword} {t t' : TA} (h : PK X kws t) (w : ∀ σ H Q, t' σ H Q → t σ H Q) : PK X kws t' := ⟨fun pos pins s σ H Q I q => h.run pos pins s σ H Q I (w _ _ _ q)⟩
/-- where a parameter's value comes from -/
inductive Pk where
  | p (i : Nat) | k (j : Nat) | d (j : Nat)
def arr {α : Type} (pk : List Pk) (xs zs ds : List α) : List α := pk.filterMap fun
  | .p i => xs[i]?
  | .k j => zs[j]?
  | .d j => ds[j]?
def fCallK (n m : Nat) (pk : List Pk) (dds : List D) (G : List D → S → R D) (fa fk : F (List D)) : F D := fun L s => (fa L s).bind fun ds s1 => (fk L s1).bind fun zs s2 => if ds.length = n ∧ zs.length = m then G (arr pk ds zs dds) s2 else .bad
end
end SI

namespace SI
open PySem L2
/-! ### evaluation, step by step -/
@[simp] theorem R_bind_ok {α β : Type} (a : α) (s : S) (k : α → S → R β) : (R.ok a s).bind k = k a s := rfl
@[simp] theorem R_bind_ex {α β : Type} (C : Addr) (fs : List Str) (vs : List D) (s : S) (k : α → S → R β) : (R.ex C fs vs s).bind k = .ex C fs vs s := rfl
@[simp] theorem R_bindS_ok {α : Type} (L : Lc) (a : α) (s : S) (k : α → S → RS) : (R.ok a s).bindS L k = k a s := rfl
@[simp] theorem R_bindS_ex {α : Type} (L : Lc) (C : Addr) (fs : List Str) (vs : List D) (s : S) (k : α → S → RS) : (R.ex (α := α) C fs vs s).bindS L k = .ex C fs vs L s := rfl
@[simp] theorem RS_bind_nx (L : Lc) (s : S) (k : Lc → S → RS) : (RS.nx L s).bind k = k L s := rfl
@[simp] theorem RS_bind_rt (d : D) (s : S) (k : Lc → S → RS) : (RS.rt d s).bind k = .rt d s := rfl
@[simp] theorem RS_bind_ex (C : Addr) (fs : List Str) (vs : List D) (L : Lc) (s : S) (k : Lc → S → RS) : (RS.ex C fs vs L s).bind k = .ex C fs vs L s := rfl
@[simp] theorem RS_bind_bk (L : Lc) (s : S) (k : Lc → S → RS) : (RS.bk L s).bind k = .bk L s := rfl
@[simp] theorem RS_bind_ct (L : Lc) (s : S) (k : Lc → S → RS) : (RS.ct L s).bind k = .ct L s := rfl
@[simp] theorem sSeq_eq (u v : FS) (L : Lc) (s : S) : sSeq u v L s = (u L s).bind v := rfl
@[simp] theorem sNext_eq (L : Lc) (s : S) : sNext L s = .nx L s := rfl
@[simp] theorem sAsg_eq (i : Nat) (f : F D) (L : Lc) (s : S) : sAsg i f L s = (f L s).bindS L fun d s1 => .nx (L.set i (some d)) s1 := rfl
@[simp] theorem sExpr_eq (f : F D) (L : Lc) (s : S) : sExpr f L s = (f L s).bindS L fun _ s1 => .nx L s1 := rfl
@[simp] theorem sRet_eq (f : F D) (L : Lc) (s : S) : sRet f L s = (f L s).bindS L fun d s1 => .rt d s1 := rfl
@[simp] theorem sRetN_eq (L : Lc) (s : S) : sRetN L s = .rt .non s := rfl
@[simp] theorem sIf_eq (t : F Bool) (u v : FS) (L : Lc) (s : S) : sIf t u v L s = (t L s).bindS L fun b s1 => if b = true then u L s1 else v L s1 := rfl
@[simp] theorem sBreak_eq (L : Lc) (s : S) : sBreak L s = .bk L s := rfl
@[simp] theorem sCont_eq (L : Lc) (s : S) : sCont L s = .ct L s := rfl
@[simp] theorem fC_eq (d : D) (L : Lc) (s : S) : fC d L s = .ok d s := rfl
@[simp] theorem fOp_eq (o : S → D → D → Option D) (f g : F D) (L : Lc) (s : S) : fOp o f g L s = (f L s).bind fun a s1 => (g L s1).bind fun b s2 => match o s2 a b with
  | some d => .ok d s2
  | none => .bad := rfl
@[simp] theorem fNotV_eq (f : F D) (L : Lc) (s : S) : fNotV f L s = (f L s).bind fun a s1 => match a with
  | .bl b => .ok (.bl (!b)) s1
  | _ => .bad := rfl
@[simp] theorem fAndV_eq (f g : F D) (L : Lc) (s : S) : fAndV f g L s = (f L s).bind fun a s1 => match a with
  | .bl true => g L s1
  | .bl false => .ok (.bl false) s1
  | _ => .bad := rfl
@[simp] theorem fOrV_eq (f g : F D) (L : Lc) (s : S) : fOrV f g L s = (f L s).bind fun a s1 => match a with
  | .bl true => .ok (.bl true) s1
  | .bl false => g L s1
  | _ => .bad := rfl
@[simp] theorem fTst_eq (f : F D) (L : Lc) (s : S) : fTst f L s = (f L s).bind fun a s1 => match a with
  | .bl b => .ok b s1
  | _ => .bad := rfl
@[simp] theorem fNot_eq (t : F Bool) (L : Lc) (s : S) : fNot t L s = (t L s).bind fun b s1 => .ok (!b) s1 := rfl
@[simp] theorem fAnd_eq (t u : F Bool) (L : Lc) (s : S) : fAnd t u L s = (t L s).bind fun b s1 => if b = true then u L s1 else .ok false s1 := rfl
@[simp] theorem fOr_eq (t u : F Bool) (L : Lc) (s : S) : fOr t u L s = (t L s).bind fun b s1 => if b = true then .ok true s1 else u L s1 := rfl
@[simp] theorem fIf_eq (t : F Bool) (f g : F D) (L : Lc) (s : S) : fIf t f g L s = (t L s).bind fun b s1 => if b = true then f L s1 else g L s1 := rfl
@[simp] theorem fNil_eq (L : Lc) (s : S) : fNil L s = .ok [] s := rfl
@[simp] theorem fCons_eq (f : F D) (r : F (List D)) (L : Lc) (s : S) : fCons f r L s = (f L s).bind fun a s1 => (r L s1).bind fun as s2 => .ok (a :: as) s2 := rfl
@[simp] theorem fTup_eq (fa : F (List D)) (L : Lc) (s : S) : fTup fa L s = (fa L s).bind fun ds s1 => if ds.length ≤ big then .ok (.tup ds) s1 else .bad := rfl
@[simp] theorem fLst_eq (fa : F (List D)) (L : Lc) (s : S) : fLst fa L s = (fa L s).bind fun ds s1 => if ds.length ≤ big then .ok (.lst ds) s1 else .bad := rfl
@[simp] theorem fLstT_eq (fa : F (List D)) (L : Lc) (s : S) : fLstT fa L s = (fa L s).bind fun ds s1 => if ds.length ≤ big then .ok (.ref s1.length) (s1 ++ [.lst ds]) else .bad := rfl
@[simp] theorem fCB_eq (o : S → List D → Option D) (fa : F (List D)) (L : Lc) (s : S) : fCB o fa L s = (fa L s).bind fun ds s1 => match o s1 ds with
  | some d => .ok d s1
  | none => .bad := rfl
@[simp] theorem fCall_eq (n : Nat) (G : List D → S → R D) (fa : F (List D)) (L : Lc) (s : S) : fCall n G fa L s = (fa L s).bind fun ds s1 => if ds.length = n then G ds s1 else .bad := rfl
@[simp] theorem fNeg_eq (f : F D) (L : Lc) (s : S) : fNeg f L s = (f L s).bind fun d s1 => match d with
  | .int i => .ok (.int (-i)) s1
  | _ => .bad := rfl
@[simp] theorem sPut_eq (o : S → D → D → D → Option S) (fe fo fi : F D) (L : Lc) (s : S) : sPut o fe fo fi L s = (fe L s).bindS L fun d s1 => (fo L s1).bindS L fun a s2 => (fi L s2).bindS L fun b s3 => match o s3 a b d with
  | some s' => .nx L s'
  | none => .bad := rfl
@[simp] theorem sAugS_eq (get op : S → D → D → Option D) (put : S → D → D → D → Option S) (fo fi fe : F D) (L : Lc) (s : S) : sAugS get op put fo fi fe L s = (fo L s).bindS L fun a s1 => (fi L s1).bindS L fun b s2 => match get s2 a b with
  | some d0 => (fe L s2).bindS L fun d1 s3 => match op s3 d0 d1 with
    | some d => match put s3 a b d with
      | some s' => .nx L s'
      | none => .bad
    | none => .bad
  | none => .bad := rfl
@[simp] theorem sAsgG_eq (q : Tg) (f : F D) (L : Lc) (s : S) : sAsgG q f L s = (f L s).bindS L fun d s1 => match q d L with
  | some L' => .nx L' s1
  | none => .bad := rfl
@[simp] theorem sFor_eq (f : F Src) (q : Tg) (body : FS) (L : Lc) (s : S) : sFor f q body L s = (f L s).bindS L fun r s1 => forL q body r r.items L s1 := rfl
@[simp] theorem fSrc_eq (f : F D) (L : Lc) (s : S) : fSrc f L s = (f L s).bind fun d s1 => match iSeq s1 d with
  | some r => .ok r s1
  | none => .bad := rfl
@[simp] theorem fRng_eq (o : List D → Option Src) (fa : F (List D)) (L : Lc) (s : S) : fRng o fa L s = (fa L s).bind fun ds s1 => match o ds with
  | some r => .ok r s1
  | none => .bad := rfl
theorem fin_rt {r : RS} {d : D} {s : S} (h : r = .rt d s) : r.fin = .ok d s := by
  rw [h]
  rfl
@[simp] theorem fin_rt' (d : D) (s : S) : (RS.rt d s).fin = .ok d s := rfl
@[simp] theorem fin_nx' (L : Lc) (s : S) : (RS.nx L s).fin = .ok .non s := rfl
@[simp] theorem fin_ex' (C : Addr) (fs : List Str) (vs : List D) (L : Lc) (s : S) : (RS.ex C fs vs L s).fin = .ex C fs vs s := rfl
/-! values -/
@[simp] theorem dI2_int (C : Int → Int → Bool) (g : Int → Int → D) (s : S) (i j : Int) : dI2 C g s (.int i) (.int j) = if C i j = true then some (g i j) else none := rfl
@[simp] theorem yes2_eq (i j : Int) : yes2 i j = true := rfl
@[simp] theorem dSub_int (s : S) (i j : Int) : dSub s (.int i) (.int j) = some (.int (i - j)) := rfl
@[simp] theorem dAddI_int (s : S) (i j : Int) : dAddI s (.int i) (.int j) = some (.int (i + j)) := rfl
@[simp] theorem dAdd_int (s : S) (i j : Int) : dAdd s (.int i) (.int j) = some (.int (i + j)) := rfl
@[simp] theorem dMul_int (s : S) (i j : Int) : dMul s (.int i) (.int j) = if mulOk i j = true then some (.int (i * j)) else none := rfl
@[simp] theorem dLt_int (s : S) (i j : Int) : dLt s (.int i) (.int j) = some (.bl (decide (i < j))) := rfl
@[simp] theorem dLe_int (s : S) (i j : Int) : dLe s (.int i) (.int j) = some (.bl (decide (i ≤ j))) := rfl
@[simp] theorem dGt_int (s : S) (i j : Int) : dGt s (.int i) (.int j) = some (.bl (decide (j < i))) := rfl
@[simp] theorem dGe_int (s : S) (i j : Int) : dGe s (.int i) (.int j) = some (.bl (decide (j ≤ i))) := rfl
theorem log2_small {i : Int} {k : Nat} (h0 : 0 < k) (h : i.natAbs < 2 ^ k) : i.natAbs.log2 < k := PySem.Flt.log2_lt_of h0 h
theorem divOk_of {i j : Int} (h0 : 0 < j) (h : j < 2 ^ 200) : divOk i j = true := by
  unfold divOk
  rw [decide_eq_true_eq]
  refine ⟨h0, Nat.lt_of_lt_of_le (log2_small (k := 200) (by decide) ?_) (by decide)⟩
  have : (j.natAbs : Int) < 2 ^ 200 := by
    rw [Int.natAbs_of_nonneg (Int.le_of_lt h0)]
    exact h
  exact_mod_cast this
theorem dDiv_int {s : S} {i j : Int} (h0 : 0 < j) (h : j < 2 ^ 200) : dDiv s (.int i) (.int j) = some (.int (i / j)) := by
  unfold dDiv
  rw [dI2_int, if_pos (divOk_of h0 h)]
theorem dMod_int {s : S} {i j : Int} (h0 : 0 < j) : dMod s (.int i) (.int j) = some (.int (i % j)) := by
  unfold dMod
  rw [dI2_int, if_pos (by unfold modOk; exact decide_eq_true h0)]
theorem eqv_int (i j : Int) : PyData.eqv (.int i) (.int j) = decide (i = j) := by
  rw [PyData.eqv]
  by_cases h : i = j
  · simp [h]
  · simp [h]
@[simp] theorem dEqD_int (neg : Bool) (s : S) (i j : Int) : dEqD neg s (.int i) (.int j) = some (.bl (if neg = true then !decide (i = j) else decide (i = j))) := by
  unfold dEqD
  simp only [toPyT, toPy, eqv_int]
  rw [if_pos]
  simp [SeqAt.shaped, PyData.canLay0, PyData.depth]
@[simp] theorem bInt_int (s : S) (i : Int) : bInt s [.int i] = some (.int i) := rfl
@[simp] theorem big_eq : big = 1000000 := rfl
/-! ### the source of the draws -/
structure SrcV where
  cs : List Int
  i : Int
  a : Int
  b : Int
  d : Int
def SrcV.o (v : SrcV) : O := .lst [.lst (v.cs.map D.int), .int v.i, .int v.a, .int v.b, .int v.d]
structure SrcV.Ok (v : SrcV) (n : Nat) : Prop where
  i0 : 0 ≤ v.i
  a0 : 0 ≤ v.a
  b0 : 0 ≤ v.b
  bn : v.b ≤ n
  d0 : 0 ≤ v.d
  dn : v.d < 2147483629
  cs : ∀ z ∈ v.cs, Builtin.Int.intBits z ≤ 1048576
theorem get_set {s : S} {k : Nat} {o o' : O} (h : s[k]? = some o) : (s.set k o')[k]? = some o' := by
  have := (List.getElem?_eq_some_iff.mp h).1
  rw [List.getElem?_set_self this]
theorem srcIx {s : S} {k : Nat} {v : SrcV} (h : s[k]? = some v.o) : dIx s (.ref k) (.int 0) = some (.lst (v.cs.map D.int)) ∧ dIx s (.ref k) (.int 1) = some (.int v.i) ∧ dIx s (.ref k) (.int 2) = some (.int v.a) ∧ dIx s (.ref k) (.int 3) = some (.int v.b) ∧ dIx s (.ref k) (.int 4) = some (.int v.d) ∧ dIxL s (.ref k) (.int 1) = some (.int v.i) ∧ dIxL s (.ref k) (.int 3) = some (.int v.b) := by
  unfold SrcV.o at h
  refine ⟨?_, ?_, ?_, ?_, ?_, ?_, ?_⟩ <;> simp only [dIx, dIxL, seqOf, lstOf, h] <;> rfl
theorem srcPut {s : S} {k : Nat} {v : SrcV} (h : s[k]? = some v.o) (x : Int) : dPut s (.ref k) (.int 1) (.int x) = some (s.set k ({ v with i := x } : SrcV).o) ∧ dPut s (.ref k) (.int 2) (.int x) = some (s.set k ({ v with a := x } : SrcV).o) ∧ dPut s (.ref k) (.int 3) (.int x) = some (s.set k ({ v with b := x } : SrcV).o) ∧ dPut s (.ref k) (.int 4) (.int x) = some (s.set k ({ v with d := x } : SrcV).o) := by
  unfold SrcV.o at h
  refine ⟨?_, ?_, ?_, ?_⟩ <;> simp only [dPut, h] <;> rfl
@[simp] theorem bLen_lst (s : S) (xs : List D) : bLen s [.lst xs] = some (.int xs.length) := rfl
@[simp] theorem bLen_tup (s : S) (xs : List D) : bLen s [.tup xs] = some (.int xs.length) := rfl
theorem dIx_lst (s : S) (xs : List D) (i : Int) : dIx s (.lst xs) (.int i) = L2.atI xs i := rfl
theorem dIx_tup (s : S) (xs : List D) (i : Int) : dIx s (.tup xs) (.int i) = L2.atI xs i := rfl
theorem atI_in {α : Type} {xs : List α} {i : Int} (h0 : 0 ≤ i) (h : i < xs.length) : L2.atI xs i = xs[i.toNat]? := by
  unfold L2.atI ixN
  rw [if_pos h0, if_pos h]
  rfl
@[simp] theorem dPow_lit (s : S) (i j : Int) : dPow s (.int i) (.int j) = if powOk i j = true then some (.int (i ^ j.toNat)) else none := rfl
def drawG : List D → S → R D := runF 7
  (sSeq (sAugS dIxL dAddI dPut (fVar 0) (fC (.int 3)) (fC (.int 1)))
    (sSeq (sIf (fAnd (fTst (fOp (dEqD false) (fOp dIx (fVar 0) (fC (.int 2))) (fC (.int 0)))) (fTst (fOp dLt (fOp dIx (fVar 0) (fC (.int 1))) (fCB bLen (fCons (fOp dIx (fVar 0) (fC (.int 0))) fNil))))) (sSeq (sAsg 2 (fOp dIx (fOp dIx (fVar 0) (fC (.int 0))) (fOp dIx (fVar 0) (fC (.int 1)))))
    (sSeq (sAugS dIxL dAddI dPut (fVar 0) (fC (.int 1)) (fC (.int 1)))
    (sIf (fTst (fOp dGe (fVar 2) (fOp dPow (fC (.int 10)) (fC (.int 18))))) (sPut dPut (fVar 2) (fVar 0) (fC (.int 2))) (sPut dPut (fOp dMod (fCB bInt (fCons (fOp dAdd (fOp dAdd (fOp dMul (fOp dIx (fVar 0) (fC (.int 4))) (fC (.int 48271))) (fOp dMul (fVar 2) (fC (.int 16)))) (fC (.int 30011))) fNil)) (fC (.int 2147483629))) (fVar 0) (fC (.int 4)))))) sNext)
    (sSeq (sIf (fTst (fOp dGt (fOp dIx (fVar 0) (fC (.int 2))) (fC (.int 0)))) (sSeq (sAsg 3 (fOp dMod (fCB bInt (fCons (fOp dIx (fVar 0) (fC (.int 2))) fNil)) (fVar 1)))
    (sSeq (sPut dPut (fOp dDiv (fOp dIx (fVar 0) (fC (.int 2))) (fVar 1)) (fVar 0) (fC (.int 2)))
    (sRet (fVar 3)))) sNext)
    (sSeq (sAsg 4 (fOp dMod (fCB bInt (fCons (fOp dMul (fOp dAdd (fOp dIx (fVar 0) (fC (.int 4))) (fOp dMul (fC (.int 104729)) (fOp dIx (fVar 0) (fC (.int 3))))) (fC (.int 69621))) fNil)) (fC (.int 2147483647))))
    (sSeq (sAsg 5 (fOp dMod (fCB bInt (fCons (fOp dMul (fVar 4) (fOp dAdd (fOp dDiv (fVar 4) (fC (.int 1021))) (fC (.int 40692)))) fNil)) (fC (.int 2147483399))))
    (sSeq (sAsg 6 (fOp dMod (fCB bInt (fCons (fOp dMul (fVar 5) (fOp dAdd (fOp dDiv (fVar 5) (fC (.int 2011))) (fC (.int 52774)))) fNil)) (fC (.int 2147483563))))
    (sRet (fOp dMod (fCB bInt (fCons (fOp dDiv (fVar 6) (fC (.int 8))) fNil)) (fVar 1)))))))))
theorem natAbs_lt {i : Int} {k : Nat} (h0 : 0 ≤ i) (h : i < 2 ^ k) : i.natAbs < 2 ^ k := by
  have e : (i.natAbs : Int) < 2 ^ k := by
    rw [Int.natAbs_of_nonneg h0]
    exact h
  exact_mod_cast e
theorem log_bits {z : Int} {n : Nat} (h : Builtin.Int.intBits z ≤ n) : z.natAbs.log2 ≤ n := by
  unfold Builtin.Int.intBits at h
  split at h
  · rename_i hz
    have e : z = 0 := by simpa using hz
    subst e
    exact Nat.zero_le _
  · omega
theorem mulOk_log {i j : Int} {a b : Nat} (ha : i.natAbs.log2 ≤ a) (hb : j.natAbs.log2 ≤ b) (h : a + b < 100000000) : mulOk i j = true := by
  unfold mulOk
  rw [decide_eq_true_eq]
  omega
theorem log_of {i : Int} {k : Nat} (h0 : 0 ≤ i) (h : i < 2 ^ k) (hk : 0 < k) : i.natAbs.log2 ≤ k := Nat.le_of_lt (log2_small hk (natAbs_lt h0 h))
/-- a draw: some number below the limit, the source goes on -/
theorem draw_ok {s : S} {k n : Nat} {v : SrcV} {lim : Int} (h : s[k]? = some v.o) (ok : v.Ok n) (hn : n < 2 ^ 60) (h0 : 0 < lim) (h1 : lim < 2 ^ 200) :
    ∃ (r : Int) (v' : SrcV), 0 ≤ r ∧ r < lim ∧ v'.Ok (n + 1) ∧ drawG [.ref k, .int lim] s = .ok (.int r) (s.set k v'.o) := by
  have hb : v.b + 1 < 2 ^ 61 := by
    have := ok.bn
    omega
  have hb0 := ok.b0
  -- the last part: the digits of the hash
  have tail : ∀ (w : SrcV) (s1 : S), s1[k]? = some w.o → w.a = 0 → 0 ≤ w.d → w.d < 2147483629 → 0 ≤ w.b → w.b < 2 ^ 61 → ∀ (x2 x3 : Option D), ∃ r : Int, 0 ≤ r ∧ r < lim ∧
      sSeq (sAsg 4 (fOp dMod (fCB bInt (fCons (fOp dMul (fOp dAdd (fOp dIx (fVar 0) (fC (.int 4))) (fOp dMul (fC (.int 104729)) (fOp dIx (fVar 0) (fC (.int 3))))) (fC (.int 69621))) fNil)) (fC (.int 2147483647))))
    (sSeq (sAsg 5 (fOp dMod (fCB bInt (fCons (fOp dMul (fVar 4) (fOp dAdd (fOp dDiv (fVar 4) (fC (.int 1021))) (fC (.int 40692)))) fNil)) (fC (.int 2147483399))))
    (sSeq (sAsg 6 (fOp dMod (fCB bInt (fCons (fOp dMul (fVar 5) (fOp dAdd (fOp dDiv (fVar 5) (fC (.int 2011))) (fC (.int 52774)))) fNil)) (fC (.int 2147483563))))
    (sRet (fOp dMod (fCB bInt (fCons (fOp dDiv (fVar 6) (fC (.int 8))) fNil)) (fVar 1))))) [some (.ref k), some (.int lim), x2, x3, none, none, none] s1 = .rt (.int r) s1 := by
    intro w s1 hs ha hd0 hd1 hw0 hw1 x2 x3
    obtain ⟨i0, i1, i2, i3, i4, _, _⟩ := srcIx hs
    have m1 : mulOk 104729 w.b = true := mulOk_log (a := 17) (b := 61) (by decide) (log_of hw0 hw1 (by decide)) (by decide)
    have m2 : mulOk (w.d + 104729 * w.b) 69621 = true := mulOk_log (a := 100) (b := 17) (log_of (by omega) (by omega) (by decide)) (by decide) (by decide)
    obtain ⟨one, hone⟩ : ∃ z, z = (w.d + 104729 * w.b) * 69621 % 2147483647 := ⟨_, rfl⟩
    have o0 : 0 ≤ one := by rw [hone]; exact Int.emod_nonneg _ (by decide)
    have o1 : one < 2147483647 := by rw [hone]; exact Int.emod_lt_of_pos _ (by decide)
    have q0 : 0 ≤ one / 1021 := Int.ediv_nonneg o0 (by decide)
    have q1 : one / 1021 ≤ one := Int.ediv_le_self _ o0
    have m3 : mulOk one (one / 1021 + 40692) = true := mulOk_log (a := 31) (b := 33) (log_of o0 (by omega) (by decide)) (log_of (by omega) (by omega) (by decide)) (by decide)
    obtain ⟨two, htwo⟩ : ∃ z, z = one * (one / 1021 + 40692) % 2147483399 := ⟨_, rfl⟩
    have t0 : 0 ≤ two := by rw [htwo]; exact Int.emod_nonneg _ (by decide)
    have t1 : two < 2147483399 := by rw [htwo]; exact Int.emod_lt_of_pos _ (by decide)
    have u0 : 0 ≤ two / 2011 := Int.ediv_nonneg t0 (by decide)
    have u1 : two / 2011 ≤ two := Int.ediv_le_self _ t0
    have m4 : mulOk two (two / 2011 + 52774) = true := mulOk_log (a := 31) (b := 33) (log_of t0 (by omega) (by decide)) (log_of (by omega) (by omega) (by decide)) (by decide)
    refine ⟨two * (two / 2011 + 52774) % 2147483563 / 8 % lim, Int.emod_nonneg _ (by omega), Int.emod_lt_of_pos _ h0, ?_⟩
    simp [fVar, i4, i3, m1, m2, dMod_int, dDiv_int, ← hone, m3, ← htwo, m4, h0]
  -- the second part: a great number gives its digits
  have mid : ∀ (w : SrcV) (s1 : S), s1[k]? = some w.o → w.Ok (n + 1) → ∀ (x2 : Option D), ∃ (r : Int) (v' : SrcV), 0 ≤ r ∧ r < lim ∧ v'.Ok (n + 1) ∧
      (sSeq (sIf (fTst (fOp dGt (fOp dIx (fVar 0) (fC (.int 2))) (fC (.int 0)))) (sSeq (sAsg 3 (fOp dMod (fCB bInt (fCons (fOp dIx (fVar 0) (fC (.int 2))) fNil)) (fVar 1)))
    (sSeq (sPut dPut (fOp dDiv (fOp dIx (fVar 0) (fC (.int 2))) (fVar 1)) (fVar 0) (fC (.int 2)))
    (sRet (fVar 3)))) sNext)
    (sSeq (sAsg 4 (fOp dMod (fCB bInt (fCons (fOp dMul (fOp dAdd (fOp dIx (fVar 0) (fC (.int 4))) (fOp dMul (fC (.int 104729)) (fOp dIx (fVar 0) (fC (.int 3))))) (fC (.int 69621))) fNil)) (fC (.int 2147483647))))
    (sSeq (sAsg 5 (fOp dMod (fCB bInt (fCons (fOp dMul (fVar 4) (fOp dAdd (fOp dDiv (fVar 4) (fC (.int 1021))) (fC (.int 40692)))) fNil)) (fC (.int 2147483399))))
    (sSeq (sAsg 6 (fOp dMod (fCB bInt (fCons (fOp dMul (fVar 5) (fOp dAdd (fOp dDiv (fVar 5) (fC (.int 2011))) (fC (.int 52774)))) fNil)) (fC (.int 2147483563))))
    (sRet (fOp dMod (fCB bInt (fCons (fOp dDiv (fVar 6) (fC (.int 8))) fNil)) (fVar 1)))))) [some (.ref k), some (.int lim), x2, none, none, none, none] s1) = .rt (.int r) (s1.set k v'.o) := by
    intro w s1 hs hw x2
    obtain ⟨i0, i1, i2, i3, i4, _, _⟩ := srcIx hs
    by_cases ha : 0 < w.a
    · refine ⟨w.a % lim, { w with a := w.a / lim }, Int.emod_nonneg _ (by omega), Int.emod_lt_of_pos _ h0, ⟨hw.i0, Int.ediv_nonneg hw.a0 (Int.le_of_lt h0), hw.b0, hw.bn, hw.d0, hw.dn, hw.cs⟩, ?_⟩
      have hp := (srcPut hs (w.a / lim)).2.1
      simp [fVar, i2, ha, dMod_int, h0, dDiv_int h0 h1, hp]
    · have ha0 : w.a = 0 := by
        have := hw.a0
        omega
      have hbn := hw.bn
      obtain ⟨r, r0, r1, e⟩ := tail w s1 hs ha0 hw.d0 hw.dn hw.b0 (by omega) x2 none
      refine ⟨r, w, r0, r1, hw, ?_⟩
      have hset : s1.set k w.o = s1 := by
        have hk := (List.getElem?_eq_some_iff.mp hs)
        obtain ⟨hk1, hk2⟩ := hk
        rw [← hk2]
        exact List.set_getElem_self hk1
      rw [hset, ← e]
      simp [fVar, i2, ha]
  -- the first part
  obtain ⟨_, _, _, _, _, _, j3⟩ := srcIx h
  have p3 := (srcPut h (v.b + 1)).2.2.1
  obtain ⟨w, hw⟩ : ∃ w : SrcV, w = { v with b := v.b + 1 } := ⟨_, rfl⟩
  rw [← hw] at p3
  have gw : (s.set k w.o)[k]? = some w.o := get_set h
  have okw : w.Ok (n + 1) := by
    subst hw
    exact ⟨ok.i0, ok.a0, by show 0 ≤ v.b + 1; omega, by show v.b + 1 ≤ ((n + 1 : Nat) : Int); have := ok.bn; omega, ok.d0, ok.dn, ok.cs⟩
  obtain ⟨i0, i1, i2, i3, i4, k1, k3⟩ := srcIx gw
  unfold drawG runF startD
  by_cases hc : w.a = 0 ∧ w.i < (w.cs.length : Int)
  · -- a cell is taken
    obtain ⟨ca, ci⟩ := hc
    have hlt : w.i.toNat < w.cs.length := by
      have := okw.i0
      omega
    obtain ⟨cell, hcell⟩ : ∃ z, w.cs[w.i.toNat]? = some z := ⟨_, List.getElem?_eq_getElem hlt⟩
    have hix : dIx (s.set k w.o) (.lst (w.cs.map D.int)) (.int w.i) = some (.int cell) := by
      rw [dIx_lst, atI_in okw.i0 (by rw [List.length_map]; exact ci), List.getElem?_map, hcell]
      rfl
    have q1 := (srcPut gw (w.i + 1)).1
    obtain ⟨u, hu⟩ : ∃ u : SrcV, u = { w with i := w.i + 1 } := ⟨_, rfl⟩
    rw [← hu] at q1
    have gu : ((s.set k w.o).set k u.o)[k]? = some u.o := get_set gw
    rw [List.set_set] at gu q1
    have oku : u.Ok (n + 1) := by
      subst hu
      exact ⟨by show 0 ≤ w.i + 1; have := okw.i0; omega, okw.a0, okw.b0, okw.bn, okw.d0, okw.dn, okw.cs⟩
    obtain ⟨a0, a1, a2, a3, a4, b1, b3⟩ := srcIx gu
    have hbits := okw.cs cell (List.mem_of_getElem? hcell)
    by_cases hbig : (1000000000000000000 : Int) ≤ cell
    · have q2 := (srcPut gu cell).2.1
      rw [List.set_set] at q2
      obtain ⟨r, v', r0, r1, ov, e⟩ := mid { u with a := cell } _ (get_set h) ⟨oku.i0, by show 0 ≤ cell; omega, oku.b0, oku.bn, oku.d0, oku.dn, oku.cs⟩ (some (.int cell))
      refine ⟨r, v', r0, r1, ov, ?_⟩
      rw [List.set_set] at e
      refine fin_rt ?_
      rw [← e]
      simp [fVar, j3, p3, i2, ca, i1, i0, ci, hix, k1, q1, powOk, hbig, q2]
    · have m1 : mulOk u.d 48271 = true := mulOk_log (a := 31) (b := 16) (log_of oku.d0 (by have := oku.dn; omega) (by decide)) (by decide) (by decide)
      have m2 : mulOk cell 16 = true := mulOk_log (a := 1048576) (b := 5) (log_bits hbits) (by decide) (by decide)
      obtain ⟨dd, hdd⟩ : ∃ z, z = (u.d * 48271 + cell * 16 + 30011) % 2147483629 := ⟨_, rfl⟩
      have q4 := (srcPut gu dd).2.2.2
      rw [List.set_set] at q4
      obtain ⟨r, v', r0, r1, ov, e⟩ := mid { u with d := dd } _ (get_set h) ⟨oku.i0, oku.a0, oku.b0, oku.bn, by show 0 ≤ dd; rw [hdd]; exact Int.emod_nonneg _ (by decide), by show dd < 2147483629; rw [hdd]; exact Int.emod_lt_of_pos _ (by decide), oku.cs⟩ (some (.int cell))
      refine ⟨r, v', r0, r1, ov, ?_⟩
      rw [List.set_set] at e
      refine fin_rt ?_
      rw [← e]
      simp [fVar, j3, p3, i2, ca, i1, i0, ci, hix, k1, q1, powOk, hbig, a4, m1, m2, dMod_int, ← hdd, q4]
  · obtain ⟨r, v', r0, r1, ov, e⟩ := mid w _ gw okw none
    refine ⟨r, v', r0, r1, ov, ?_⟩
    rw [List.set_set] at e
    refine fin_rt ?_
    rw [← e]
    by_cases ca : w.a = 0
    · have ci : ¬ w.i < (w.cs.length : Int) := fun z => hc ⟨ca, z⟩
      simp [fVar, j3, p3, i2, ca, i1, i0, ci]
    · simp [fVar, j3, p3, i2, ca]
end SI

namespace SI
open PySem L2
@[simp] theorem dRng1_int {j : Int} : dRng1 [.int j] = if rgOk j = true then some ⟨rgItems 0 j.toNat, none⟩ else none := rfl
@[simp] theorem dRng2_int {i j : Int} : dRng2 [.int i, .int j] = if rgOk i = true ∧ rgOk j = true then some ⟨rgItems i (j - i).toNat, none⟩ else none := rfl
@[simp] theorem chk_none (ds : List D) (s : S) : chk ⟨ds, none⟩ s = true := rfl
@[simp] theorem gN_eq (i : Nat) (d : D) (L : Lc) : gN i d L = some (L.set i (some d)) := rfl
end SI

namespace SI
open PySem L2
theorem lc_intsC (xs : List D) (L0 : Lc) (h : 1 < L0.length) : ∀ (ds : List Int) (acc : List D), acc.length + ds.length ≤ 1000000 → lcL (gN 1) fYes (fCB bInt (fCons (fVar 1) fNil)) ⟨xs, none⟩ L0 0 (ds.map D.int) [.lst acc] = .ok () [.lst (acc ++ ds.map D.int)]
  | [], acc, _ => by
    simp [lcL]
  | d :: ds, acc, hl => by
    have ih := lc_intsC xs L0 h ds (acc ++ [.int d]) (by simp at hl ⊢; omega)
    have hlt : acc.length < 1000000 := by simp at hl; omega
    have hv : ∀ s, fVar 1 (L0.set 1 (some (.int d))) s = .ok (.int d) s := by
      intro s
      unfold fVar
      rw [List.getElem?_set_self h]
    simp [lcL, fYes, hv, hlt, ih]
theorem bels_intsC (n : Nat) : ∀ (ds : List Int), D.bels n (ds.map D.int) = true
  | [] => rfl
  | d :: ds => by simp [D.bels, D.bel, bels_intsC n ds]
def srcG : List D → S → R D := runF 2
  ((sRet (fLstT (fCons (fLc (fSrc (fSl (fVar 0) fNo (fPt (fC (.int 63))))) (gN 1) fYes (fCB bInt (fCons (fVar 1) fNil)) [1]) (fCons (fC (.int 0)) (fCons (fC (.int 0)) (fCons (fC (.int 0)) (fCons (fC (.int 7)) fNil))))))))
theorem src_ok (ns : List Int) (hl : ns.length ≤ 63) : srcG [.rdl (ns.map D.int)] [] = .ok (.ref 0) [SrcV.o ⟨ns, 0, 0, 0, 7⟩] := by
  have hc : cutD (ns.map D.int) none (some 63) = ns.map D.int := by
    unfold cutD
    rw [HT.sIx_none, List.drop_zero, show (some (63 : Int)) = some ((63 : Nat) : Int) from rfl, HT.sIx_nat, List.take_of_length_le]
    rw [List.length_map]
    omega
  have e := lc_intsC (ns.map D.int) [some (.rdl (ns.map D.int)), none] (Nat.lt_succ_self 1) ns [] (by simp; omega)
  unfold srcG runF startD
  have hi : iSeq [] (.lst (ns.map D.int)) = some ⟨ns.map D.int, none⟩ := rfl
  simp [fVar, fLc, fSl, fNo, fPt, dSl, lstOf, hc, hi, wipeD, e, bels_intsC, SrcV.o]
theorem src_start {ns : List Int} (hb : ∀ z ∈ ns, Builtin.Int.intBits z ≤ 1048576) : SrcV.Ok ⟨ns, 0, 0, 0, 7⟩ 0 := ⟨Int.le_refl 0, Int.le_refl 0, Int.le_refl 0, Int.le_refl 0, show (0 : Int) ≤ 7 by decide, show (7 : Int) < 2147483629 by decide, hb⟩
theorem src_bel (w : SrcV) (n : Nat) : O.bel n w.o = true := by
  unfold SrcV.o O.bel
  simp [D.bels, D.bel, bels_intsC]
end SI

/-! a, b, .. = a tuple or a list -/
namespace SI
open PySem PySem.Spec PyProof.Rows L2
variable {X : Cx} {pos : Pos}
def gTl (r : Tgs) : Tg := fun d L => match d with
  | .tup ds => r ds L
  | .lst ds => r ds L
  | _ => none
end SI

/-! o.m(..) of a tracked own instance; C() as a tracked instance -/
namespace SI
open PySem PySem.Spec PyProof.Rows L2
section
variable {X : Cx} {W : WX} {o e : Expr} {es : List Expr} {fo : F D} {fa : F (List D)} {pos : Pos}
end
end SI

/-! weakest preconditions at the data level -/
namespace SI
open PySem L2
class Cn (α : Sort u) where
  f : α
instance {α : Sort u} {β : Sort v} : CoeFun (Cn (α → β)) (fun _ => α → β) := ⟨fun c => c.f⟩
class Bs where
  nx : Lc → S → Prop
  rt : D → S → Prop
  bk : Lc → S → Prop
  ct : Lc → S → Prop
  ex : Addr → List Str → List D → Lc → S → Prop
def WR {α : Type} (r : R α) {Q : Cn (α → S → Prop)} {E : Cn (Addr → List Str → List D → S → Prop)} : Prop := match r with
  | .ok a s => Q a s
  | .ex C fs vs s => E C fs vs s
  | .bad => False
def WS (r : RS) {B : Bs} : Prop := match r with
  | .nx L s => B.nx L s
  | .rt d s => B.rt d s
  | .bk L s => B.bk L s
  | .ct L s => B.ct L s
  | .ex C fs vs L s => B.ex C fs vs L s
  | .bad => False
def WO {α : Type} (o : Option α) {Q : Cn (α → Prop)} : Prop := match o with
  | some a => Q a
  | none => False
def WV (o : Option (Option D)) {Q : Cn (D → Prop)} : Prop := match o with
  | some (some a) => Q a
  | _ => False
def WB (b : Bool) {P Q : Cn Prop} : Prop := match b with
  | true => P.f
  | false => Q.f
def WT (d : D) {Q : Cn (Bool → Prop)} : Prop := match d with
  | .bl b => Q b
  | _ => False
/-- the names stand as a list of cells -/
def WL (L : Lc) {Q : Cn (Lc → Prop)} : Prop := Q L
def WI (d : D) {Q : Cn (Int → Prop)} : Prop := match d with
  | .int b => Q b
  | _ => False
abbrev nE : Addr → List Str → List D → S → Prop := fun _ _ _ _ => False
section
variable {α β : Type} {L : Lc} {s : S} {B : Bs} {Q : Cn (D → S → Prop)} {E : Cn (Addr → List Str → List D → S → Prop)}
theorem cn_f {α : Sort u} (x : α) : Cn.f (self := ⟨x⟩) = x := rfl
theorem w_ok (a : α) (s : S) (Q : Cn (α → S → Prop)) (E) : @WR _ (.ok a s) Q E = Q a s := rfl
theorem w_ex (C fs vs) (s : S) (Q : Cn (α → S → Prop)) (E) : @WR _ (.ex C fs vs s) Q E = E C fs vs s := rfl
theorem w_nx (L : Lc) (s : S) (B : Bs) : @WS (.nx L s) B = B.nx L s := rfl
theorem w_rt (d : D) (s : S) (B : Bs) : @WS (.rt d s) B = B.rt d s := rfl
theorem w_bk (L : Lc) (s : S) (B : Bs) : @WS (.bk L s) B = B.bk L s := rfl
theorem w_ct (L : Lc) (s : S) (B : Bs) : @WS (.ct L s) B = B.ct L s := rfl
theorem w_exS (C fs vs) (L : Lc) (s : S) (B : Bs) : @WS (.ex C fs vs L s) B = B.ex C fs vs L s := rfl
theorem w_some (a : α) (Q : Cn (α → Prop)) : @WO _ (some a) Q = Q a := rfl
theorem w_v (a : D) (Q : Cn (D → Prop)) : @WV (some (some a)) Q = Q a := rfl
theorem w_tr (P Q : Cn Prop) : @WB true P Q = P.f := rfl
theorem w_fa (P Q : Cn Prop) : @WB false P Q = Q.f := rfl
theorem w_tb (b : Bool) (Q : Cn (Bool → Prop)) : @WT (.bl b) Q = Q b := rfl
theorem w_L (a : Option D) (L : Lc) (Q : Cn (Lc → Prop)) : @WL (a :: L) Q = Q (a :: L) := rfl
theorem w_L0 (Q : Cn (Lc → Prop)) : @WL [] Q = Q [] := rfl
theorem w_ti (b : Int) (Q : Cn (Int → Prop)) : @WI (.int b) Q = Q b := rfl
theorem w_bind (r : R α) (k : α → S → R β) (Q) (E) : @WR _ (r.bind k) Q E = @WR _ r ⟨fun a s => @WR _ (k a s) Q E⟩ E := by cases r <;> rfl
theorem w_bindS (L : Lc) (r : R α) (k : α → S → RS) (B) : @WS (r.bindS L k) B = @WR _ r ⟨fun a s => @WS (k a s) B⟩ ⟨fun C fs vs s => B.ex C fs vs L s⟩ := by cases r <;> rfl
theorem w_bindT (r : RS) (k : Lc → S → RS) (B : Bs) : @WS (r.bind k) B = @WS r { B with nx := fun L s => @WS (k L s) B } := by cases r <;> rfl
/-! statements -/
theorem w_seq (u v : FS) : @WS (sSeq u v L s) B = @WS (u L s) { B with nx := fun L s => @WS (v L s) B } := w_bindT ..
theorem wq_asg (i : Nat) (f : F D) (v : FS) : @WS (sSeq (sAsg i f) v L s) B = @WS (sAsg i f L s) { B with nx := fun L s => @WS (v L s) B } := w_seq ..
theorem wq_asgG (q : Tg) (f : F D) (v : FS) : @WS (sSeq (sAsgG q f) v L s) B = @WS (sAsgG q f L s) { B with nx := fun L s => @WS (v L s) B } := w_seq ..
theorem wq_expr (f : F D) (v : FS) : @WS (sSeq (sExpr f) v L s) B = @WS (sExpr f L s) { B with nx := fun L s => @WS (v L s) B } := w_seq ..
theorem wq_put (o fe fo fi) (v : FS) : @WS (sSeq (sPut o fe fo fi) v L s) B = @WS (sPut o fe fo fi L s) { B with nx := fun L s => @WS (v L s) B } := w_seq ..
theorem wq_aug (o i f) (v : FS) : @WS (sSeq (sAug o i f) v L s) B = @WS (sAug o i f L s) { B with nx := fun L s => @WS (v L s) B } := w_seq ..
theorem wq_augS (a b d e f g) (v : FS) : @WS (sSeq (sAugS a b d e f g) v L s) B = @WS (sAugS a b d e f g L s) { B with nx := fun L s => @WS (v L s) B } := w_seq ..
theorem wq_for (a b d) (v : FS) : @WS (sSeq (sFor a b d) v L s) B = @WS (sFor a b d L s) { B with nx := fun L s => @WS (v L s) B } := w_seq ..
theorem w_next : @WS (sNext L s) B = B.nx L s := rfl
theorem w_break : @WS (sBreak L s) B = B.bk L s := rfl
theorem w_cont : @WS (sCont L s) B = B.ct L s := rfl
theorem w_retN : @WS (sRetN L s) B = B.rt .non s := rfl
theorem w_asg (i : Nat) (f : F D) : @WS (sAsg i f L s) B = @WR _ (f L s) ⟨fun d s1 => @WL (L.set i (some d)) ⟨fun L' => B.nx L' s1⟩⟩ ⟨fun C fs vs s => B.ex C fs vs L s⟩ := w_bindS ..
theorem w_expr (f : F D) : @WS (sExpr f L s) B = @WR _ (f L s) ⟨fun d s1 => B.nx L s1⟩ ⟨fun C fs vs s => B.ex C fs vs L s⟩ := w_bindS ..
theorem w_ret (f : F D) : @WS (sRet f L s) B = @WR _ (f L s) ⟨fun d s1 => B.rt d s1⟩ ⟨fun C fs vs s => B.ex C fs vs L s⟩ := w_bindS ..
theorem w_if (t : F Bool) (u v : FS) : @WS (sIf t u v L s) B = @WR _ (t L s) ⟨fun b s1 => @WB b ⟨@WS (u L s1) B⟩ ⟨@WS (v L s1) B⟩⟩ ⟨fun C fs vs s => B.ex C fs vs L s⟩ := by
  refine (w_bindS ..).trans (congrArg (fun z => @WR _ (t L s) ⟨z⟩ _) ?_)
  funext b s1
  cases b <;> rfl
theorem w_asgG (q : Tg) (f : F D) : @WS (sAsgG q f L s) B = @WR _ (f L s) ⟨fun d s1 => @WO _ (q d L) ⟨fun L' => B.nx L' s1⟩⟩ ⟨fun C fs vs s => B.ex C fs vs L s⟩ := by
  refine (w_bindS ..).trans (congrArg (fun z => @WR _ (f L s) ⟨z⟩ _) ?_)
  funext d s1
  cases q d L <;> rfl
theorem w_for (f : F Src) (q : Tg) (body : FS) : @WS (sFor f q body L s) B = @WR _ (f L s) ⟨fun r s1 => @WS (forL q body r r.items L s1) B⟩ ⟨fun C fs vs s => B.ex C fs vs L s⟩ := w_bindS ..
theorem w_put (o : S → D → D → D → Option S) (fe fo fi : F D) : @WS (sPut o fe fo fi L s) B = @WR _ (fe L s) ⟨fun d s1 => @WR _ (fo L s1) ⟨fun a s2 => @WR _ (fi L s2) ⟨fun b s3 => @WO _ (o s3 a b d) ⟨fun s' => B.nx L s'⟩⟩ ⟨fun C fs vs s => B.ex C fs vs L s⟩⟩ ⟨fun C fs vs s => B.ex C fs vs L s⟩⟩ ⟨fun C fs vs s => B.ex C fs vs L s⟩ := by
  refine (w_bindS ..).trans (congrArg (fun z => @WR _ (fe L s) ⟨z⟩ _) ?_)
  funext d s1
  refine (w_bindS ..).trans (congrArg (fun z => @WR _ (fo L s1) ⟨z⟩ _) ?_)
  funext a s2
  refine (w_bindS ..).trans (congrArg (fun z => @WR _ (fi L s2) ⟨z⟩ _) ?_)
  funext b s3
  cases o s3 a b d <;> rfl
theorem w_aug (o : S → D → D → Option D) (i : Nat) (f : F D) : @WS (sAug o i f L s) B = @WV (L[i]?) ⟨fun d0 => @WR _ (f L s) ⟨fun d1 s1 => @WO _ (o s1 d0 d1) ⟨fun d => @WL (L.set i (some d)) ⟨fun L' => B.nx L' s1⟩⟩⟩ ⟨fun C fs vs s => B.ex C fs vs L s⟩⟩ := by
  unfold sAug
  cases L[i]? with
  | none => rfl
  | some z => cases z with
    | none => rfl
    | some d0 =>
      refine (w_bindS ..).trans (congrArg (fun z => @WR _ (f L s) ⟨z⟩ _) ?_)
      funext d s1
      cases o s1 d0 d <;> rfl
theorem w_augS (get op : S → D → D → Option D) (put : S → D → D → D → Option S) (fo fi fe : F D) : @WS (sAugS get op put fo fi fe L s) B = @WR _ (fo L s) ⟨fun a s1 => @WR _ (fi L s1) ⟨fun b s2 => @WO _ (get s2 a b) ⟨fun d0 => @WR _ (fe L s2) ⟨fun d1 s3 => @WO _ (op s3 d0 d1) ⟨fun d => @WO _ (put s3 a b d) ⟨fun s' => B.nx L s'⟩⟩⟩ ⟨fun C fs vs s => B.ex C fs vs L s⟩⟩⟩ ⟨fun C fs vs s => B.ex C fs vs L s⟩⟩ ⟨fun C fs vs s => B.ex C fs vs L s⟩ := by
  refine (w_bindS ..).trans (congrArg (fun z => @WR _ (fo L s) ⟨z⟩ _) ?_)
  funext a s1
  refine (w_bindS ..).trans (congrArg (fun z => @WR _ (fi L s1) ⟨z⟩ _) ?_)
  funext b s2
  cases get s2 a b with
  | none => rfl
  | some d0 =>
    refine (w_bindS ..).trans (congrArg (fun z => @WR _ (fe L s2) ⟨z⟩ _) ?_)
    funext d1 s3
    cases op s3 d0 d1 with
    | none => rfl
    | some d =>
      show @WS (match put s3 a b d with
        | some s' => RS.nx L s'
        | none => .bad) B = @WO _ (put s3 a b d) _
      cases put s3 a b d <;> rfl
theorem w_raise0 (C : Addr) : @WS (sRaise0 C L s) B = B.ex C [] [] L s := rfl
theorem w_raise1 (C : Addr) (f : Str) (x : F D) : @WS (sRaise1 C f (fCons x fNil) L s) B = @WR _ (x L s) ⟨fun d s1 => B.ex C [f] [d] L s1⟩ ⟨fun C fs vs s => B.ex C fs vs L s⟩ := by
  unfold sRaise1 fCons
  cases x L s <;> rfl
theorem w_raise2 (C : Addr) (f g : Str) (x y : F D) : @WS (sRaise2 C f g (fCons x (fCons y fNil)) L s) B = @WR _ (x L s) ⟨fun d s1 => @WR _ (y L s1) ⟨fun d' s2 => B.ex C [g, f] [d', d] L s2⟩ ⟨fun C fs vs s => B.ex C fs vs L s⟩⟩ ⟨fun C fs vs s => B.ex C fs vs L s⟩ := by
  unfold sRaise2 fCons
  cases x L s with
  | ok d s1 =>
    simp only [R_bind_ok, WR]
    cases y L s1 <;> rfl
  | ex => rfl
  | bad => rfl
theorem w_try (sel : List (Addr × Bool)) (b h : FS) : @WS (sTry sel b h L s) B = @WS (b L s) { B with ex := fun C fs vs L1 s1 => @WO _ (selOf sel C) ⟨fun z => @WB z ⟨@WS (h L1 s1) { B with ex := fun _ _ _ _ _ => False }⟩ ⟨B.ex C fs vs L1 s1⟩⟩ } := by
  unfold sTry
  cases b L s with
  | ex C fs vs L1 s1 =>
    show @WS (match selOf sel C with
      | some true => (h L1 s1).calm
      | some false => RS.ex C fs vs L1 s1
      | none => .bad) B = @WO _ (selOf sel C) _
    cases selOf sel C with
    | none => rfl
    | some z => cases z with
      | false => rfl
      | true =>
        show @WS ((h L1 s1).calm) B = @WS (h L1 s1) _
        cases h L1 s1 <;> rfl
  | nx => rfl
  | rt => rfl
  | bk => rfl
  | ct => rfl
  | bad => rfl
/-- a suite's end: the name is gone, and nothing is raised -/
theorem w_drop (i : Nat) (r : RS) : @WS (r.drop i) B = @WS r ⟨fun L s => B.nx (L.set i none) s, B.rt, fun L s => B.bk (L.set i none) s, fun L s => B.ct (L.set i none) s, fun _ _ _ _ _ => False⟩ := by
  cases r <;> rfl
def xfOf (a0 C0 : Addr) (d0 : Option Addr) (cs : List Addr) (n : Str) (d : D) : Option D := match d with
  | .exc a C od fs vs => if a = a0 ∧ C = C0 ∧ od = d0 ∧ C ∈ cs then (fs.zip vs).lookup n else none
  | _ => none
theorem w_xf (a0 C0 : Addr) (d0 : Option Addr) (cs : List Addr) (n : Str) (f : F D) : @WR _ (fXf a0 C0 d0 cs n f L s) Q E = @WR _ (f L s) ⟨fun d s1 => @WO _ (xfOf a0 C0 d0 cs n d) ⟨fun r => Q r s1⟩⟩ E := by
  refine (w_bind ..).trans (congrArg (fun z => @WR _ (f L s) ⟨z⟩ _) ?_)
  funext d s1
  cases d <;> try rfl
  rename_i a C od fs vs
  unfold xfOf
  dsimp only
  by_cases h : a = a0 ∧ C = C0 ∧ od = d0 ∧ C ∈ cs
  · rw [if_pos h, if_pos h]
    cases List.lookup n (fs.zip vs) <;> rfl
  · rw [if_neg h, if_neg h]
    rfl
theorem w_tryAs (i : Nat) (sel : List (Addr × Bool)) (b : FS) (h : Addr → Addr → Option Addr → FS) : @WS (sTryAs i sel b h L s) B = @WS (b L s) { B with ex := fun C fs vs L1 s1 => @WO _ (selOf sel C) ⟨fun z => @WB z ⟨@WS (hAll fun a od => (h a C od (L1.set i (some (.exc a C od fs vs))) s1).drop i) B⟩ ⟨B.ex C fs vs L1 s1⟩⟩ } := by
  unfold sTryAs
  cases b L s with
  | ex C fs vs L1 s1 =>
    show @WS (match selOf sel C with
      | some true => hAll fun a od => (h a C od (L1.set i (some (.exc a C od fs vs))) s1).drop i
      | some false => RS.ex C fs vs L1 s1
      | none => .bad) B = @WO _ (selOf sel C) _
    cases selOf sel C with
    | none => rfl
    | some z => cases z <;> rfl
  | nx => rfl
  | rt => rfl
  | bk => rfl
  | ct => rfl
  | bad => rfl
/-! expressions -/
theorem w_var (i : Nat) : @WR _ (fVar i L s) Q E = @WV (L[i]?) ⟨fun d => Q d s⟩ := by
  unfold fVar
  cases L[i]? with
  | none => rfl
  | some z => cases z <;> rfl
theorem w_c (d : D) : @WR _ (fC d L s) Q E = Q d s := rfl
theorem w_op (o : S → D → D → Option D) (f g : F D) : @WR _ (fOp o f g L s) Q E = @WR _ (f L s) ⟨fun a s1 => @WR _ (g L s1) ⟨fun b s2 => @WO _ (o s2 a b) ⟨fun d => Q d s2⟩⟩ E⟩ E := by
  refine (w_bind ..).trans (congrArg (fun z => @WR _ (f L s) ⟨z⟩ _) ?_)
  funext a s1
  refine (w_bind ..).trans (congrArg (fun z => @WR _ (g L s1) ⟨z⟩ _) ?_)
  funext b s2
  cases o s2 a b <;> rfl
theorem w_chain (o o' : S → D → D → Option D) (f g h : F D) : @WR _ (fChain o o' f g h L s) Q E = @WR _ (f L s) ⟨fun a s1 => @WR _ (g L s1) ⟨fun b s2 => @WO _ (o s2 a b) ⟨fun d => @WT d ⟨fun z => @WB z ⟨@WR _ (h L s2) ⟨fun c s3 => @WO _ (o' s3 b c) ⟨fun d => Q d s3⟩⟩ E⟩ ⟨Q (.bl false) s2⟩⟩⟩⟩ E⟩ E := by
  refine (w_bind ..).trans (congrArg (fun z => @WR _ (f L s) ⟨z⟩ _) ?_)
  funext a s1
  refine (w_bind ..).trans (congrArg (fun z => @WR _ (g L s1) ⟨z⟩ _) ?_)
  funext b s2
  cases o s2 a b with
  | none => rfl
  | some d => cases d <;> try rfl
              rename_i z
              cases z with
              | false => rfl
              | true =>
                refine (w_bind ..).trans (congrArg (fun z => @WR _ (h L s2) ⟨z⟩ _) ?_)
                funext c s3
                cases o' s3 b c <;> rfl
theorem w_notV (f : F D) : @WR _ (fNotV f L s) Q E = @WR _ (f L s) ⟨fun a s1 => @WT a ⟨fun b => Q (.bl (!b)) s1⟩⟩ E := by
  refine (w_bind ..).trans (congrArg (fun z => @WR _ (f L s) ⟨z⟩ _) ?_)
  funext a s1
  cases a <;> rfl
theorem w_andV (f g : F D) : @WR _ (fAndV f g L s) Q E = @WR _ (f L s) ⟨fun a s1 => @WT a ⟨fun b => @WB b ⟨@WR _ (g L s1) Q E⟩ ⟨Q (.bl false) s1⟩⟩⟩ E := by
  refine (w_bind ..).trans (congrArg (fun z => @WR _ (f L s) ⟨z⟩ _) ?_)
  funext a s1
  cases a <;> try rfl
  rename_i b
  cases b <;> rfl
theorem w_orV (f g : F D) : @WR _ (fOrV f g L s) Q E = @WR _ (f L s) ⟨fun a s1 => @WT a ⟨fun b => @WB b ⟨Q (.bl true) s1⟩ ⟨@WR _ (g L s1) Q E⟩⟩⟩ E := by
  refine (w_bind ..).trans (congrArg (fun z => @WR _ (f L s) ⟨z⟩ _) ?_)
  funext a s1
  cases a <;> try rfl
  rename_i b
  cases b <;> rfl
theorem w_ifE (t : F Bool) (f g : F D) : @WR _ (fIf t f g L s) Q E = @WR _ (t L s) ⟨fun b s1 => @WB b ⟨@WR _ (f L s1) Q E⟩ ⟨@WR _ (g L s1) Q E⟩⟩ E := by
  refine (w_bind ..).trans (congrArg (fun z => @WR _ (t L s) ⟨z⟩ _) ?_)
  funext b s1
  cases b <;> rfl
theorem w_tst (f : F D) {Q : Cn (Bool → S → Prop)} : @WR _ (fTst f L s) Q E = @WR _ (f L s) ⟨fun a s1 => @WT a ⟨fun b => Q b s1⟩⟩ E := by
  refine (w_bind ..).trans (congrArg (fun z => @WR _ (f L s) ⟨z⟩ _) ?_)
  funext a s1
  cases a <;> rfl
theorem w_not (t : F Bool) {Q : Cn (Bool → S → Prop)} : @WR _ (fNot t L s) Q E = @WR _ (t L s) ⟨fun b s1 => Q (!b) s1⟩ E := w_bind ..
theorem w_and (t u : F Bool) {Q : Cn (Bool → S → Prop)} : @WR _ (fAnd t u L s) Q E = @WR _ (t L s) ⟨fun b s1 => @WB b ⟨@WR _ (u L s1) Q E⟩ ⟨Q false s1⟩⟩ E := by
  refine (w_bind ..).trans (congrArg (fun z => @WR _ (t L s) ⟨z⟩ _) ?_)
  funext b s1
  cases b <;> rfl
theorem w_or (t u : F Bool) {Q : Cn (Bool → S → Prop)} : @WR _ (fOr t u L s) Q E = @WR _ (t L s) ⟨fun b s1 => @WB b ⟨Q true s1⟩ ⟨@WR _ (u L s1) Q E⟩⟩ E := by
  refine (w_bind ..).trans (congrArg (fun z => @WR _ (t L s) ⟨z⟩ _) ?_)
  funext b s1
  cases b <;> rfl
theorem w_yes {Q : Cn (Bool → S → Prop)} : @WR _ (fYes L s) Q E = Q true s := rfl
theorem w_nil {Q : Cn (List D → S → Prop)} : @WR _ (fNil L s) Q E = Q [] s := rfl
theorem w_cons (f : F D) (r : F (List D)) {Q : Cn (List D → S → Prop)} : @WR _ (fCons f r L s) Q E = @WR _ (f L s) ⟨fun a s1 => @WR _ (r L s1) ⟨fun as s2 => Q (a :: as) s2⟩ E⟩ E := by
  refine (w_bind ..).trans (congrArg (fun z => @WR _ (f L s) ⟨z⟩ _) ?_)
  funext a s1
  exact w_bind ..
theorem w_tup (fa : F (List D)) : @WR _ (fTup fa L s) Q E = @WR _ (fa L s) ⟨fun ds s1 => ds.length ≤ big ∧ Q (.tup ds) s1⟩ E := by
  refine (w_bind ..).trans (congrArg (fun z => @WR _ (fa L s) ⟨z⟩ _) ?_)
  funext ds s1
  by_cases h : ds.length ≤ big
  · simp only [h, if_true, true_and]
    rfl
  · simp only [h, if_false, false_and]
    rfl
theorem w_lst (fa : F (List D)) : @WR _ (fLst fa L s) Q E = @WR _ (fa L s) ⟨fun ds s1 => ds.length ≤ big ∧ Q (.lst ds) s1⟩ E := by
  refine (w_bind ..).trans (congrArg (fun z => @WR _ (fa L s) ⟨z⟩ _) ?_)
  funext ds s1
  by_cases h : ds.length ≤ big
  · simp only [h, if_true, true_and]
    rfl
  · simp only [h, if_false, false_and]
    rfl
theorem w_lstT (fa : F (List D)) : @WR _ (fLstT fa L s) Q E = @WR _ (fa L s) ⟨fun ds s1 => ds.length ≤ big ∧ Q (.ref s1.length) (s1 ++ [.lst ds])⟩ E := by
  refine (w_bind ..).trans (congrArg (fun z => @WR _ (fa L s) ⟨z⟩ _) ?_)
  funext ds s1
  by_cases h : ds.length ≤ big
  · simp only [h, if_true, true_and]
    rfl
  · simp only [h, if_false, false_and]
    rfl
theorem w_cb (o : S → List D → Option D) (fa : F (List D)) : @WR _ (fCB o fa L s) Q E = @WR _ (fa L s) ⟨fun ds s1 => @WO _ (o s1 ds) ⟨fun d => Q d s1⟩⟩ E := by
  refine (w_bind ..).trans (congrArg (fun z => @WR _ (fa L s) ⟨z⟩ _) ?_)
  funext ds s1
  cases o s1 ds <;> rfl
theorem w_call (n : Nat) (G : List D → S → R D) (fa : F (List D)) : @WR _ (fCall n G fa L s) Q E = @WR _ (fa L s) ⟨fun ds s1 => ds.length = n ∧ @WR _ (G ds s1) Q E⟩ E := by
  refine (w_bind ..).trans (congrArg (fun z => @WR _ (fa L s) ⟨z⟩ _) ?_)
  funext ds s1
  by_cases h : ds.length = n
  · simp only [h, if_true, true_and]
  · simp only [h, if_false, false_and]
    rfl
theorem w_callK (n m : Nat) (pk : List Pk) (dds : List D) (G : List D → S → R D) (fa fk : F (List D)) : @WR _ (fCallK n m pk dds G fa fk L s) Q E = @WR _ (fa L s) ⟨fun ds s1 => @WR _ (fk L s1) ⟨fun zs s2 => (ds.length = n ∧ zs.length = m) ∧ @WR _ (G (arr pk ds zs dds) s2) Q E⟩ E⟩ E := by
  refine (w_bind ..).trans (congrArg (fun z => @WR _ (fa L s) ⟨z⟩ _) ?_)
  funext ds s1
  refine (w_bind ..).trans (congrArg (fun z => @WR _ (fk L s1) ⟨z⟩ _) ?_)
  funext zs s2
  by_cases h : ds.length = n ∧ zs.length = m
  · rw [if_pos h]
    simp only [h, and_self, true_and]
  · rw [if_neg h]
    simp only [h, false_and]
    rfl
theorem w_neg (f : F D) : @WR _ (fNeg f L s) Q E = @WR _ (f L s) ⟨fun d s1 => @WI d ⟨fun i => Q (.int (-i)) s1⟩⟩ E := by
  refine (w_bind ..).trans (congrArg (fun z => @WR _ (f L s) ⟨z⟩ _) ?_)
  funext a s1
  cases a <;> rfl
theorem w_no {Q : Cn (Option Int → S → Prop)} : @WR _ (fNo L s) Q E = Q none s := rfl
theorem w_pt (f : F D) {Q : Cn (Option Int → S → Prop)} : @WR _ (fPt f L s) Q E = @WR _ (f L s) ⟨fun d s1 => @WI d ⟨fun i => Q (some i) s1⟩⟩ E := by
  refine (w_bind ..).trans (congrArg (fun z => @WR _ (f L s) ⟨z⟩ _) ?_)
  funext a s1
  cases a <;> rfl
theorem w_sl (f : F D) (l h : F (Option Int)) : @WR _ (fSl f l h L s) Q E = @WR _ (f L s) ⟨fun d s1 => @WR _ (l L s1) ⟨fun lo s2 => @WR _ (h L s2) ⟨fun hi s3 => @WO _ (dSl s3 d lo hi) ⟨fun r => Q r s3⟩⟩ E⟩ E⟩ E := by
  refine (w_bind ..).trans (congrArg (fun z => @WR _ (f L s) ⟨z⟩ _) ?_)
  funext d s1
  refine (w_bind ..).trans (congrArg (fun z => @WR _ (l L s1) ⟨z⟩ _) ?_)
  funext lo s2
  refine (w_bind ..).trans (congrArg (fun z => @WR _ (h L s2) ⟨z⟩ _) ?_)
  funext hi s3
  cases dSl s3 d lo hi <;> rfl
def fldOf (s : S) (cs : List Addr) (n : Str) (d : D) : Option D := match insOf s d with
  | some (C, fs, vs) => if C ∈ cs then (fs.zip vs).lookup n else none
  | none => none
theorem w_fld (cs : List Addr) (n : Str) (f : F D) : @WR _ (fFld cs n f L s) Q E = @WR _ (f L s) ⟨fun d s1 => @WO _ (fldOf s1 cs n d) ⟨fun r => Q r s1⟩⟩ E := by
  refine (w_bind ..).trans (congrArg (fun z => @WR _ (f L s) ⟨z⟩ _) ?_)
  funext d s1
  unfold fldOf
  cases insOf s1 d with
  | none => rfl
  | some z =>
    obtain ⟨C, fs, vs⟩ := z
    dsimp only
    by_cases h : C ∈ cs
    · rw [if_pos h, if_pos h]
      cases List.lookup n (fs.zip vs) <;> rfl
    · rw [if_neg h, if_neg h]
      rfl
theorem w_src (f : F D) {Q : Cn (Src → S → Prop)} : @WR _ (fSrc f L s) Q E = @WR _ (f L s) ⟨fun d s1 => @WO _ (iSeq s1 d) ⟨fun r => Q r s1⟩⟩ E := by
  refine (w_bind ..).trans (congrArg (fun z => @WR _ (f L s) ⟨z⟩ _) ?_)
  funext d s1
  cases iSeq s1 d <;> rfl
theorem w_rng (o : List D → Option Src) (fa : F (List D)) {Q : Cn (Src → S → Prop)} : @WR _ (fRng o fa L s) Q E = @WR _ (fa L s) ⟨fun ds s1 => @WO _ (o ds) ⟨fun r => Q r s1⟩⟩ E := by
  refine (w_bind ..).trans (congrArg (fun z => @WR _ (fa L s) ⟨z⟩ _) ?_)
  funext ds s1
  cases o ds <;> rfl
theorem w_enu (f : F D) {Q : Cn (Src → S → Prop)} : @WR _ (fEnu (fCons f fNil) L s) Q E = @WR _ (f L s) ⟨fun d s1 => @WO _ (iEnu s1 d) ⟨fun r => Q r s1⟩⟩ E := by
  unfold fEnu fCons
  cases f L s with
  | ok d s1 =>
    show @WR _ (match iEnu s1 d with
      | some r => .ok r s1
      | none => .bad) Q E = @WO _ (_) _
    cases iEnu s1 d <;> rfl
  | ex => rfl
  | bad => rfl
theorem w_listT (f : F D) : @WR _ (fListT (fCons f fNil) L s) Q E = @WR _ (f L s) ⟨fun d s1 => @WO _ (seqOf s1 d) ⟨fun xs => Q (.ref s1.length) (s1 ++ [.lst xs])⟩⟩ E := by
  unfold fListT fCons
  cases f L s with
  | ok d s1 =>
    show @WR _ (match seqOf s1 d with
      | some xs => R.ok (.ref s1.length) (s1 ++ [.lst xs])
      | none => .bad) Q E = @WO _ (_) _
    cases seqOf s1 d <;> rfl
  | ex => rfl
  | bad => rfl
def appOf (n : Nat) (y : D) (s : S) : Option S := match s[n]? with
  | some (.lst xs) => if xs.length < big then some (s.set n (.lst (xs ++ [y]))) else none
  | _ => none
def isLst (n : Nat) (s : S) : Bool := match s[n]? with
  | some (.lst _) => true
  | _ => false
def WN (d : D) {Q : Cn (Nat → Prop)} : Prop := match d with
  | .ref n => Q n
  | _ => False
theorem w_tn (n : Nat) (Q : Cn (Nat → Prop)) : @WN (.ref n) Q = Q n := rfl
theorem w_app (fo f : F D) : @WR _ (fApp fo (fCons f fNil) L s) Q E = @WR _ (fo L s) ⟨fun d s1 => @WN d ⟨fun n => isLst n s1 = true ∧ @WR _ (f L s1) ⟨fun y s2 => @WO _ (appOf n y s2) ⟨fun s3 => Q .non s3⟩⟩ E⟩⟩ E := by
  refine (w_bind ..).trans (congrArg (fun z => @WR _ (fo L s) ⟨z⟩ _) ?_)
  funext d s1
  cases d <;> try rfl
  rename_i n
  show @WR _ (match s1[n]? with
    | some (.lst _) => _
    | _ => .bad) Q E = (isLst n s1 = true ∧ _)
  unfold isLst
  cases s1[n]? with
  | none => simp only [Bool.false_eq_true, false_and]; rfl
  | some o =>
    cases o <;> try (simp only [Bool.false_eq_true, false_and]; rfl)
    simp only [true_and]
    unfold fCons
    cases f L s1 with
    | ok y s2 =>
      show @WR _ (match s2[n]? with
        | some (.lst xs) => _
        | _ => .bad) Q E = @WO _ (appOf n y s2) _
      unfold appOf
      cases s2[n]? with
      | none => rfl
      | some o2 =>
        cases o2 <;> try rfl
        rename_i xs
        dsimp only
        by_cases h : xs.length < big
        · rw [if_pos h, if_pos h]
          rfl
        · rw [if_neg h, if_neg h]
          rfl
    | ex => rfl
    | bad => rfl
def fldPut (s : S) (cs : List Addr) (n : Str) (o d : D) : Option S := match o with
  | .ref k => match s[k]? with
    | some (.ins C fs vs) => if C ∈ cs ∧ fs.length < 1000 then some (s.set k (.ins C (putN n d fs vs).1 (putN n d fs vs).2)) else none
    | _ => none
  | _ => none
theorem w_fldT (cs : List Addr) (n : Str) (fo f : F D) : @WS (sFldT cs n fo f L s) B = @WR _ (f L s) ⟨fun d s1 => @WR _ (fo L s1) ⟨fun o s2 => @WO _ (fldPut s2 cs n o d) ⟨fun s' => B.nx L s'⟩⟩ ⟨fun C fs vs s => B.ex C fs vs L s⟩⟩ ⟨fun C fs vs s => B.ex C fs vs L s⟩ := by
  refine (w_bindS ..).trans (congrArg (fun z => @WR _ (f L s) ⟨z⟩ _) ?_)
  funext d s1
  refine (w_bindS ..).trans (congrArg (fun z => @WR _ (fo L s1) ⟨z⟩ _) ?_)
  funext o s2
  cases o <;> try rfl
  rename_i k
  unfold fldPut
  dsimp only
  cases s2[k]? with
  | none => rfl
  | some o =>
    cases o <;> try rfl
    rename_i C fs vs
    dsimp only
    by_cases h : C ∈ cs ∧ fs.length < 1000
    · rw [if_pos h, if_pos h]
      rfl
    · rw [if_neg h, if_neg h]
      rfl
theorem w_make (C : Addr) (n : Nat) (G : List D → S → R D) (fa : F (List D)) : @WR _ (fMake C n G fa L s) Q E = @WR _ (fa L s) ⟨fun ds s1 => @WR _ (mkD C n G ds s1) Q E⟩ E := w_bind ..
theorem w_makeL (i : Nat) (C : Addr) (n : Nat) (G : List D → S → R D) (fa : F (List D)) : @WR _ (fMakeL i C n G fa L s) Q E = @WV (L[i]?) ⟨fun d => d = .gl C ∧ @WR _ (fMake C n G fa L s) Q E⟩ := by
  unfold fMakeL
  cases L[i]? with
  | none => rfl
  | some z => cases z with
    | none => rfl
    | some d =>
      show _ = (d = .gl C ∧ _)
      cases d <;> try (simp only [reduceCtorEq, false_and]; rfl)
      rename_i C'
      by_cases h : C' = C
      · subst h
        simp only [if_true, true_and]
      · simp only [h, if_false, D.gl.injEq, false_and]
        rfl
theorem w_mk (C : Addr) (n : Nat) (G : List D → S → R D) (ds : List D) : @WR _ (mkD C n G ds s) Q E = (ds.length + 1 = n ∧ @WR _ (G (.ref s.length :: ds) (s ++ [.ins C [] []])) ⟨fun d s2 => @WO _ (insOf s2 (.ref s.length)) ⟨fun z => (d = .non ∧ z.1 = C ∧ s2.take s.length = s ∧ D.bels s.length z.2.2 = true) ∧ Q (.ins C z.2.1 z.2.2) s⟩⟩ ⟨fun C' fs vs s2 => (s2.take s.length = s ∧ D.bels s.length vs = true) ∧ E C' fs vs s⟩) := by
  unfold mkD
  by_cases h : ds.length + 1 = n
  · rw [if_pos h]
    simp only [h, true_and]
    cases G (.ref s.length :: ds) (s ++ [.ins C [] []]) with
    | ok d s2 =>
      show @WR _ (match s2[s.length]? with
        | some (.ins C' fs vs) => _
        | _ => .bad) Q E = @WO _ (insOf s2 (.ref s.length)) _
      unfold insOf
      dsimp only
      cases s2[s.length]? with
      | none => rfl
      | some o =>
        cases o <;> try rfl
        rename_i C' fs vs
        show @WR _ (if _ then _ else _) Q E = ((d = .non ∧ C' = C ∧ s2.take s.length = s ∧ D.bels s.length vs = true) ∧ _)
        by_cases h2 : d = .non ∧ C' = C ∧ s2.take s.length = s ∧ D.bels s.length vs = true
        · rw [if_pos h2]
          simp only [h2, true_and, and_self]
          rfl
        · rw [if_neg h2]
          simp only [h2, false_and]
          rfl
    | ex C' fs vs s2 =>
      show @WR _ (if _ then _ else _) Q E = (_ ∧ _)
      by_cases h2 : s2.take s.length = s ∧ D.bels s.length vs = true
      · rw [if_pos h2]
        simp only [h2, true_and, and_self]
        rfl
      · rw [if_neg h2]
        simp only [h2, false_and]
        rfl
    | bad => rfl
  · rw [if_neg h]
    simp only [h, false_and]
    rfl
theorem get_app (s : S) (o : O) : (s ++ [o])[s.length]? = some o := by simp
theorem set_app (s : S) (o o' : O) : (s ++ [o]).set s.length o' = s ++ [o'] := by simp
theorem fld_app {C : Addr} {cs : List Addr} {n : Str} {d : D} {fs : List Str} {vs : List D} (s : S) (h : C ∈ cs) (hl : fs.length < 1000) : fldPut (s ++ [.ins C fs vs]) cs n (.ref s.length) d = some (s ++ [.ins C (putN n d fs vs).1 (putN n d fs vs).2]) := by
  unfold fldPut
  simp only [get_app, set_app, h, hl, and_self, if_true]
/-- a comprehension behind its source -/
def lcE (q : Tg) (t : F Bool) (f : F D) (vs : List Nat) (L : Lc) (r : Src) (s1 : S) : R D := match lcL q t f r (wipeD L vs) s1.length r.items (s1 ++ [.lst []]) with
  | .ok _ s2 => match s2[s1.length]? with
    | some (.lst ys) => if (s2.take s1.length).all (O.bel s1.length) = true ∧ D.bels s1.length ys = true then .ok (.lst ys) (s2.take s1.length) else .bad
    | _ => .bad
  | _ => .bad
theorem w_lc (fi : F Src) (q : Tg) (t : F Bool) (f : F D) (vs : List Nat) : @WR _ (fLc fi q t f vs L s) Q E = @WR _ (fi L s) ⟨fun r s1 => @WR _ (lcE q t f vs L r s1) Q E⟩ E := w_bind ..
theorem w_run (N : Nat) (body : FS) (ds : List D) (s : S) : @WR _ (runF N body ds s) Q E = @WL (startD N ds) ⟨fun L => @WS (body L s) ⟨fun _ s => Q .non s, Q, fun _ _ => False, fun _ _ => False, fun C fs vs _ s => E C fs vs s⟩⟩ := by
  show @WR _ ((body (startD N ds) s).fin) Q E = @WS (body (startD N ds) s) _
  cases body (startD N ds) s <;> rfl
theorem w_cut (G : List D → S → R D) (ds : List D) (s : S) : @WR _ (cutF G ds s) Q E = @WR _ (G ds s) ⟨fun d s' => (s'.take s.length).all (O.bel s.length) = true ∧ @WO _ (fin2 s.length s' d) ⟨fun d' => Q d' (s'.take s.length)⟩⟩ ⟨fun C fs vs s' => ((s'.take s.length).all (O.bel s.length) = true ∧ D.bels s.length vs = true) ∧ E C fs vs (s'.take s.length)⟩ := by
  unfold cutF
  cases G ds s with
  | ok d s' =>
    show @WR _ (if _ then _ else _) Q E = (_ ∧ _)
    by_cases h : (s'.take s.length).all (O.bel s.length) = true
    · rw [if_pos h]
      simp only [h, true_and]
      cases fin2 s.length s' d <;> rfl
    · rw [if_neg h]
      simp only [h, Bool.false_eq_true, false_and]
      rfl
  | ex C fs vs s' =>
    show @WR _ (if _ then _ else _) Q E = (_ ∧ _)
    by_cases h : (s'.take s.length).all (O.bel s.length) = true ∧ D.bels s.length vs = true
    · rw [if_pos h]
      simp only [h, true_and]
      rfl
    · rw [if_neg h]
      simp only [h, false_and]
      rfl
  | bad => rfl
theorem w_pure (G : List D → S → R D) (ds : List D) (s : S) : @WR _ (pureF G ds s) Q E = @WR _ (G ds s) ⟨fun d s' => s'.take s.length = s ∧ @WO _ (fin2 s.length s' d) ⟨fun d' => Q d' s⟩⟩ ⟨fun C fs vs s' => (s'.take s.length = s ∧ D.bels s.length vs = true) ∧ E C fs vs s⟩ := by
  unfold pureF
  cases G ds s with
  | ok d s' =>
    show @WR _ (if _ then _ else _) Q E = (_ ∧ _)
    by_cases h : s'.take s.length = s
    · rw [if_pos h]
      simp only [h, true_and]
      cases fin2 s.length s' d <;> rfl
    · rw [if_neg h]
      simp only [h, false_and]
      rfl
  | ex C fs vs s' =>
    show @WR _ (if _ then _ else _) Q E = (_ ∧ _)
    by_cases h : s'.take s.length = s ∧ D.bels s.length vs = true
    · rw [if_pos h]
      simp only [h, true_and]
      rfl
    · rw [if_neg h]
      simp only [h, false_and]
      rfl
  | bad => rfl
end
/-! ### weakening, results -/
theorem WR.mono {α : Type} {r : R α} {Q Q' : Cn (α → S → Prop)} {E E' : Cn (Addr → List Str → List D → S → Prop)} (h : @WR _ r Q E) (hq : ∀ a s, Q a s → Q' a s) (he : ∀ C fs vs s, E C fs vs s → E' C fs vs s) : @WR _ r Q' E' := by
  cases r with
  | ok a s => exact hq _ _ h
  | ex C fs vs s => exact he _ _ _ _ h
  | bad => exact h
theorem WS.mono {r : RS} {B B' : Bs} (h : @WS r B) (h1 : ∀ L s, B.nx L s → B'.nx L s) (h2 : ∀ d s, B.rt d s → B'.rt d s) (h3 : ∀ L s, B.bk L s → B'.bk L s) (h4 : ∀ L s, B.ct L s → B'.ct L s) (h5 : ∀ C fs vs L s, B.ex C fs vs L s → B'.ex C fs vs L s) : @WS r B' := by
  cases r with
  | nx L s => exact h1 _ _ h
  | rt L s => exact h2 _ _ h
  | bk L s => exact h3 _ _ h
  | ct L s => exact h4 _ _ h
  | ex C fs vs L s => exact h5 _ _ _ _ _ h
  | bad => exact h
/-- from a wp of just one result to the equation -/
theorem eq_ok {α : Type} {r : R α} {a : α} {s : S} (h : @WR _ r ⟨fun a' s' => a' = a ∧ s' = s⟩ ⟨nE⟩) : r = .ok a s := by
  cases r with
  | ok b t =>
    obtain ⟨rfl, rfl⟩ := h
    rfl
  | ex => exact h.elim
  | bad => exact h.elim
theorem ex_ok {α : Type} {r : R α} {P : α → S → Prop} (h : @WR _ r ⟨P⟩ ⟨nE⟩) : ∃ a s, r = .ok a s ∧ P a s := by
  cases r with
  | ok b t => exact ⟨b, t, rfl, h⟩
  | ex => exact h.elim
  | bad => exact h.elim
theorem wb_intro {b : Bool} {P Q : Cn Prop} (h1 : b = true → P.f) (h2 : b = false → Q.f) : @WB b P Q := by
  cases b with
  | true => exact h1 rfl
  | false => exact h2 rfl
theorem wb_dec {p : Prop} [Decidable p] {P Q : Cn Prop} (h1 : p → P.f) (h2 : ¬ p → Q.f) : @WB (decide p) P Q := wb_intro (fun h => h1 (of_decide_eq_true h)) (fun h => h2 (of_decide_eq_false h))
theorem wb_not {b : Bool} {P Q : Cn Prop} : @WB (!b) P Q = @WB b Q P := by cases b <;> rfl
theorem ws_cut {u v : FS} {L : Lc} {s : S} {B : Bs} (M : Lc → S → Prop) (h1 : @WS (u L s) { B with nx := M }) (h2 : ∀ L s, M L s → @WS (v L s) B) : @WS (sSeq u v L s) B := by
  rw [w_seq]
  exact h1.mono h2 (fun _ _ h => h) (fun _ _ h => h) (fun _ _ h => h) (fun _ _ _ _ _ h => h)
/-! ### loops -/
theorem ws_for {q : Tg} {body : FS} {r : Src} {B : Bs} (I : Nat → Lc → S → Prop) : ∀ (ds : List D) (k : Nat) {L : Lc} {s : S}, I k L s →
    (∀ i d L s, ds[i]? = some d → I (k + i) L s → chk r s = true ∧ @WO _ (q d L) ⟨fun L1 => @WS (body L1 s) ⟨I (k + i + 1), B.rt, B.nx, I (k + i + 1), B.ex⟩⟩) →
    (∀ L s, I (k + ds.length) L s → chk r s = true ∧ B.nx L s) → @WS (forL q body r ds L s) B
  | [], k, L, s, h0, _, he => by
    have := he L s h0
    unfold forL
    rw [if_pos this.1]
    exact this.2
  | d :: ds, k, L, s, h0, hs, he => by
    have h1 := hs 0 d L s rfl h0
    unfold forL
    rw [if_pos h1.1]
    have h2 := h1.2
    cases eq : q d L with
    | none =>
      rw [eq] at h2
      exact h2.elim
    | some L1 =>
      rw [eq] at h2
      have h3 : @WS (body L1 s) ⟨I (k + 0 + 1), B.rt, B.nx, I (k + 0 + 1), B.ex⟩ := h2
      dsimp only
      have go : ∀ L2 s2, I (k + 0 + 1) L2 s2 → @WS (forL q body r ds L2 s2) B := fun L2 s2 h4 =>
        ws_for I ds (k + 1) h4 (fun i d L s e hi => by
          have z := hs (i + 1) d L s e
          rw [show k + (i + 1) = k + 1 + i by omega] at z
          exact z hi) (fun L s hi => by
          refine he L s ?_
          rw [List.length_cons, show k + (ds.length + 1) = k + 1 + ds.length by omega]
          exact hi)
      cases eb : body L1 s with
      | nx L2 s2 =>
        rw [eb] at h3
        exact go L2 s2 h3
      | ct L2 s2 =>
        rw [eb] at h3
        exact go L2 s2 h3
      | bk L2 s2 =>
        rw [eb] at h3
        exact h3
      | rt d s2 =>
        rw [eb] at h3
        exact h3
      | ex C fs ds L2 s2 =>
        rw [eb] at h3
        exact h3
      | bad =>
        rw [eb] at h3
        exact h3.elim
/-- for i in range: lo, lo + 1, .. -/
theorem ws_rng {q : Tg} {body : FS} {lo : Int} {n : Nat} {B : Bs} {L : Lc} {s : S} (I : Nat → Lc → S → Prop) (h0 : I 0 L s)
    (hs : ∀ i L s, i < n → I i L s → @WO _ (q (.int (lo + i)) L) ⟨fun L1 => @WS (body L1 s) ⟨I (i + 1), B.rt, B.nx, I (i + 1), B.ex⟩⟩)
    (he : ∀ L s, I n L s → B.nx L s) : @WS (forL q body ⟨rgItems lo n, none⟩ (rgItems lo n) L s) B := by
  have hl : (rgItems lo n).length = n := by simp [rgItems]
  refine ws_for I (rgItems lo n) 0 h0 (fun i d L s e hi => ⟨rfl, ?_⟩) (fun L s hi => ⟨rfl, he L s ?_⟩)
  · rw [Nat.zero_add] at hi ⊢
    unfold rgItems at e
    rw [List.getElem?_map] at e
    obtain ⟨j, ej, rfl⟩ := Option.map_eq_some_iff.mp e
    obtain ⟨hj, ej⟩ := List.getElem?_eq_some_iff.mp ej
    rw [List.getElem_range] at ej
    subst ej
    rw [List.length_range] at hj
    exact hs i L s hj hi
  · rw [Nat.zero_add, hl] at hi
    exact hi
/-- for x in a list that is not tracked -/
theorem ws_lst {α : Type} {f : α → D} {q : Tg} {body : FS} {B : Bs} {xs : List α} {on : List D} {L : Lc} {s : S} (I : Nat → Lc → S → Prop) (h0 : I 0 L s)
    (hs : ∀ i (hi : i < xs.length) L s, I i L s → @WO _ (q (f xs[i]) L) ⟨fun L1 => @WS (body L1 s) ⟨I (i + 1), B.rt, B.nx, I (i + 1), B.ex⟩⟩)
    (he : ∀ L s, I xs.length L s → B.nx L s) : @WS (forL q body ⟨on, none⟩ (xs.map f) L s) B := by
  refine ws_for I (xs.map f) 0 h0 (fun i d L s e hi => ⟨rfl, ?_⟩) (fun L s hi => ⟨rfl, he L s ?_⟩)
  · rw [Nat.zero_add] at hi ⊢
    rw [List.getElem?_map] at e
    obtain ⟨x, ex, rfl⟩ := Option.map_eq_some_iff.mp e
    obtain ⟨hj, ej⟩ := List.getElem?_eq_some_iff.mp ex
    subst ej
    exact hs i hj L s hi
  · rw [Nat.zero_add, List.length_map] at hi
    exact hi
/-- while, by a measure -/
theorem ws_while {t : F Bool} {body : FS} {B : Bs} (I : Nat → Lc → S → Prop) : ∀ (n k : Nat) {L : Lc} {s : S}, I k L s → k < n →
    (∀ k L s, I k L s → @WR _ (t L s) ⟨fun b s1 => @WB b ⟨@WS (body L s1) ⟨fun L s => ∃ j, j < k ∧ I j L s, B.rt, B.nx, fun L s => ∃ j, j < k ∧ I j L s, B.ex⟩⟩ ⟨B.nx L s1⟩⟩ ⟨fun C fs vs s => B.ex C fs vs L s⟩) → @WS (sWhile n t body L s) B
  | 0, k, L, s, _, hk, _ => absurd hk (Nat.not_lt_zero _)
  | n + 1, k, L, s, h0, hk, hs => by
    have h1 := hs k L s h0
    unfold sWhile whileL
    rw [w_bindS]
    refine h1.mono (fun b s1 h2 => ?_) (fun _ _ _ _ h => h)
    cases b with
    | false => exact h2
    | true =>
      have h3 : @WS (body L s1) ⟨fun L s => ∃ j, j < k ∧ I j L s, B.rt, B.nx, fun L s => ∃ j, j < k ∧ I j L s, B.ex⟩ := h2
      simp only [if_true]
      have go : ∀ L2 s2, (∃ j, j < k ∧ I j L2 s2) → @WS (whileL t body n L2 s2) B := fun L2 s2 ⟨j, hj, h4⟩ => ws_while I n j h4 (by omega) hs
      cases eb : body L s1 with
      | nx L2 s2 =>
        rw [eb] at h3
        exact go L2 s2 h3
      | ct L2 s2 =>
        rw [eb] at h3
        exact go L2 s2 h3
      | bk L2 s2 =>
        rw [eb] at h3
        exact h3
      | rt d s2 =>
        rw [eb] at h3
        exact h3
      | ex C fs ds L2 s2 =>
        rw [eb] at h3
        exact h3
      | bad =>
        rw [eb] at h3
        exact h3.elim
end SI

/-! keyword-only parameters with defaults -/
namespace SI
open PySem PySem.Spec PyProof.Rows L2
end SI

/-! comprehensions whose list is changed later -/
namespace SI
open PySem PySem.Spec PyProof.Rows L2
section
variable {X : Cx} {W : WX} {a b c e : Expr} {f g h : F D} {t : F Bool} {fa : F (List D)} {es : List Expr} {pos : Pos} {st : Stmt} {sts : List Stmt} {u v : FS}
/-- a comprehension's list, tracked -/
def fLcT (fi : F Src) (q : Tg) (t : F Bool) (f : F D) (vs : List Nat) : F D := fun L s => (fi L s).bind fun r s1 => match lcL q t f r (wipeD L vs) s1.length r.items (s1 ++ [.lst []]) with
  | .ok _ s2 => match s2[s1.length]? with
    | some (.lst _) => .ok (.ref s1.length) s2
    | _ => .bad
  | _ => .bad
end
end SI

/-! methods of lists -/
namespace SI
open PySem PySem.Spec PyProof.Rows L2
section
variable {X : Cx} {W : WX} {o e : Expr} {es : List Expr} {fo : F D} {fa : F (List D)} {pos : Pos}
def fMth (m : S → D → List D → Option (D × S)) (fo : F D) (fa : F (List D)) : F D := fun L s => (fo L s).bind fun d s1 => match lstOf s1 d with
  | some _ => (fa L s1).bind fun ds s2 => match m s2 d ds with
    | some z => .ok z.1 z.2
    | none => .bad
  | none => .bad
def MthL (K : PySem.W.Frag) (r : V → List V → Hp → VK → Prop) (m : S → D → List D → Option (D × S)) : Prop :=
  ∀ (mu : Mu) (s : S) (H : Hp) (d : D) (ds : List D) (v : V) (vs : List V) (Q : VK) (z : D × S), Sim K mu s H → RelD K mu H d v → RelDs K mu H ds vs → m s d ds = some z → (∀ mu' H' u, Ge mu H mu' H' → Sim K mu' z.2 H' → RelD K mu' H' z.1 u → Q u H') → r v vs H Q
theorem pE_mth {name : Str} {id : String} {r : V → List V → Hp → VK → Prop} {m : S → D → List D → Option (D × S)} {apos : Pos} (slot : Slot "list" name id) (hty : typeOf (.builtin id) = pure (.type "method_descriptor")) (hm : MtR X id r) (hl : MthL X.K r m)
    (ho : PE X o (tE X.K W fo)) (ha : PA X (e :: es) (tA X.K W fa)) (hbase : attributeBase o name X.env (eval o X.env) = eval o X.env := by rfl)
    (hfew : ((backTo pos (starEach (e :: es) X.env)).all (fun x => !x.1) && (backToKw pos (keywordEach [] X.env)).all (fun x => x.1.isSome)
      && decide ((e :: es).length + ([] : List Keyword).length + (if ([] : List Keyword).isEmpty then 0 else 1) < 30)) = true := by rfl)
    (hline : (apos.endLine == pos.line) = true := by rfl) (hs : starEach (e :: es) X.env = (false, eval e X.env) :: starEach es X.env := by rfl) (hplain : (backTo pos (starEach es X.env)).any (·.1) = false := by rfl) :
    PE X (.Call (.Attribute o name apos) (e :: es) [] pos) (tE X.K W (fMth m fo fa)) := by
  refine PE.weak (pe_bm PySem.F.plainAttrs_list slot hty hm ho ha hbase hfew hline hs hplain) fun σ H Q ⟨mu, s, L, m0, l, q⟩ => ?_
  refine ⟨mu, s, L, m0, l, Post.step q fun d s1 mu1 H1 v1 g1 m1 r1 p1 => ?_⟩
  cases en : lstOf s1 d with
  | none =>
    rw [en] at p1
    exact p1.elim
  | some ys =>
    rw [en] at p1
    obtain ⟨a, vs, rfl, sq, rs⟩ := sq_lstOf m1 r1 en
    refine ⟨.inl ⟨rfl, _, sq⟩, mu1, s1, L, m1, l.mono g1, Post.step p1 fun ds s2 mu2 H2 ws g2 m2 r2 p2 => ?_⟩
    cases em : m s2 d ds with
    | none =>
      rw [em] at p2
      exact p2.elim
    | some z =>
      rw [em] at p2
      exact hl mu2 s2 H2 d ds _ ws Q z m2 (r1.mono g2) r2 em fun mu' H' u g3 m3 r3 => p2 mu' H' u g3 m3 r3
theorem RelDs.eraseIdx {K : PySem.W.Frag} {mu : Mu} {H : Hp} : ∀ {ds : List D} {vs : List V} (i : Nat), RelDs K mu H ds vs → RelDs K mu H (ds.eraseIdx i) (vs.eraseIdx i)
  | [], vs, i, h => by
    simp only [RelDs] at h
    subst h
    exact .nil
  | x :: xs, vs, 0, h => by
    simp only [RelDs] at h
    obtain ⟨w, r, rfl, h1, h2⟩ := h
    exact h2
  | x :: xs, vs, i + 1, h => by
    simp only [RelDs] at h
    obtain ⟨w, r, rfl, h1, h2⟩ := h
    exact .cons h1 (RelDs.eraseIdx i h2)
end
end SI

/-! sorted(xs, key=lambda at: rows[at][2]): a lambda that captures a name of the def -/
namespace SI
open PySem PySem.Spec PyProof.Rows L2
/-- the written part's code objects of the names tabNs: their tables are among the tables ts -/
def tabsIn (K : PySem.W.Frag) (ts : List Addr) : Bool := K.all fun p => match p.2.data with
  | .fields vs => (match (vs[1]? : Option Value) with
    | some (.str q _) => if q ∈ tabNs then (match (vs[11]? : Option Value) with
        | some (.ref P) => decide (P ∈ ts)
        | _ => true) else true
    | _ => true)
  | _ => true
/-- no two code objects of other names share the table P -/
def tabU (K : PySem.W.Frag) (P : Addr) (q : Str) : Bool := K.all fun p => match p.2.data with
  | .fields vs => (match (vs[11]? : Option Value) with
    | some (.ref P') => if P' = P then (match (vs[1]? : Option Value) with
        | some (.str q' _) => decide (q' = q)
        | _ => true) else true
    | _ => true)
  | _ => true
theorem tabK_start {K : PySem.W.Frag} {ts : List Addr} {mu : Mu} {H : Hp} (h : tabsIn K ts = true) (hP : ∀ P ∈ ts, H P = some (.tbl #[]) ∧ ¬ Live mu P) : TabK K mu H := by
  intro c oc vs q t P h1 h2 h3 h4 h5
  have z := List.all_eq_true.mp h _ (PySem.W.mem_of_lookupK h1)
  dsimp only at z
  rw [h2] at z
  dsimp only at z
  rw [h3] at z
  dsimp only at z
  rw [if_pos h5, h4] at z
  obtain ⟨e, n⟩ := hP P (of_decide_eq_true z)
  refine ⟨n, #[], e, True.intro, fun pos cv hc => ?_⟩
  have hc : codeAmong pos [] = some cv := hc
  simp [codeAmong] at hc
/-- what the text says of a def that makes a lambda: c its code object, P the table -/
structure LamT (K : PySem.W.Frag) (base : Heap) (mg : Str → Option Value) (q : Str) (c P : Addr) : Prop where
  tb : LamX.TabB base mg c P
  at_ : ∃ (oc : Obj) (vs : Array Value) (t : Tok), K.lookup c = some oc ∧ oc.data = .fields vs ∧ vs[1]? = some (.str q t) ∧ vs[11]? = some (.ref P)
  nm : q ∈ tabNs
  un : tabU K P q = true
section
variable {X : Cx} {pins : List (Addr × Obj)} {σ : L2.St} {H : Hp} {s : Shared}
end
/-! ### its call -/
/-- one parameter, no name of its own but that -/
structure LamS1 (sc scope : Scope) (x : Str) : Prop where
  kind : scope.kind = .function
  co : scope.isCoroutine = false
  gen : scope.isGenerator = false
  cell : ∀ y ∈ scope.names, y.2 ≠ .cell
  own : scope.names.lookup x = some .local
  free : ∀ y ∈ scope.names, y.2 = .free → sc.names.lookup y.1 = some .cell ∨ sc.names.lookup y.1 = some .free
theorem LamS1.has {X : Cx} {scope : Scope} {x : Str} (L : LamS1 X.env.scope scope x) (ok : X.Ok) : ∀ y ∈ scope.names, y.2 = .free → ∃ c, X.env.cells.lookup y.1 = some c := fun y hy e => ok.has _ (L.free y hy e)
section
variable {prog : Program} {w : World} {A : Around} {s : Shared} {f c' : Addr} {qual x : Str} {params : Arguments} {body : Expr} {scope sc : Scope} {cl : List (Str × Addr)} {pm ctv v : Value} {Q : Value → Shared → Prop}
end
/-! ### rows[at][p] -/
section
variable {prog : Program} {w : World} {A : Around} {E : Value → Shared → Prop} {s : Shared}
end
end SI

/-! the head by one kernel run: the facts of the written part, read off the heap behind the top -/
namespace Hd
open PySem PySem.Spec PyProof.Rows L2
/-- tables of code objects and the code objects of the names ex are left out -/
def kpO (ex : List Str) (o : Obj) : Bool := match o.cls, o.data with
  | .none, .fields _ => false
  | _, .fields vs => (match (vs.toList[1]? : Option Value) with
    | some (.str q _) => (match ex with
      | [] => true
      | _ => !decide (q ∈ ex))
    | _ => true)
  | _, _ => true
/-- the objects at these addresses, without tables of code objects -/
def frK (ex : List Str) (g : Addr → Option Obj) : List Addr → PySem.W.Frag
  | [] => []
  | a :: r => match g a with
    | some o => (match kpO ex o with
      | true => (a, o) :: frK ex g r
      | false => frK ex g r)
    | none => frK ex g r
theorem frK_at {ex : List Str} {g : Addr → Option Obj} {a : Addr} {o : Obj} : ∀ as : List Addr, (frK ex g as).lookup a = some o → g a = some o
  | [], e => nomatch (show (none : Option Obj) = some o from e)
  | b :: r, e => by
    unfold frK at e
    cases hb : g b with
    | none =>
      rw [hb] at e
      exact frK_at r e
    | some ob =>
      rw [hb] at e
      dsimp only at e
      cases hk : kpO ex ob with
      | false =>
        rw [hk] at e
        exact frK_at r e
      | true =>
        rw [hk] at e
        have e2 : (match a == b with | true => some ob | false => (frK ex g r).lookup a) = some o := e
        cases q : (a == b) with
        | true =>
          rw [q] at e2
          have eo : ob = o := Option.some.inj e2
          rw [beq_iff_eq.mp q, hb, eo]
        | false =>
          rw [q] at e2
          exact frK_at r e2
def rgA (lo : Nat) : Nat → List Addr
  | 0 => []
  | n + 1 => lo :: rgA (lo + 1) n
def asR (lo cnt : Nat) : List Addr := rgA lo cnt
/-! ### addresses by names -/
def ga (K : PySem.W.Frag) (x : Str) : Addr := match PySem.W.nsIn K mainGlobals x with
  | some (some (.ref a)) => a
  | _ => 0
def tkA (K : PySem.W.Frag) (x : Str) : Tok := match PySem.W.nsIn K mainGlobals x with
  | some (some (.int _ t)) => t
  | some (some (.str _ t)) => t
  | _ => 0
def ma (K : PySem.W.Frag) (C : Addr) (m : Str) : Addr := match PySem.W.findIn K (.ref C) m with
  | some (some (.ref a)) => a
  | _ => 0
def fnA (K : PySem.W.Frag) (f : Addr) : Option FuncData := match K.lookup f with
  | some ⟨_, _, .func fd, _⟩ => some fd
  | _ => none
def kwV (K : PySem.W.Frag) (f : Addr) : Value := match fnA K f with
  | some fd => fd.kwdefaults
  | none => .none
def cdV (K : PySem.W.Frag) (f : Addr) : Value := match fnA K f with
  | some fd => fd.code
  | none => .none
/-! ### facts -/
/-! ### functions -/
abbrev FnV : Type := Option (Str × Str × Arguments × FuncBody × Scope × Addr × List (Str × Addr) × Value × Addr)
def fnOb (K : PySem.W.Frag) (f : Addr) : FnV := match fnA K f with
  | some fd => some (fd.name, fd.qualname, fd.params, fd.body, fd.scope, fd.globals, fd.closure, fd.defaults, fd.builtins)
  | none => none
structure FnD where
  at_ : PySem.W.Frag → Addr
  name : Str
  qual : Str
  params : Arguments
  body : List Stmt
  scope : Scope
def FnD.val (d : FnD) : FnV := some (d.name, d.qual, d.params, .stmts d.body, d.scope, mainGlobals, [], .none, builtinsNs)
theorem fn_ok {K : PySem.W.Frag} {d : FnD} (e : fnOb K (d.at_ K) = d.val) :
    ∃ oc od osl doc pm an ct, K.lookup (d.at_ K) = some ⟨oc, od, .func (PySem.W.fnOf d.name d.qual d.params d.body d.scope .none (kwV K (d.at_ K)) doc pm an (cdV K (d.at_ K)) ct), osl⟩ := by
  obtain ⟨kV, ek⟩ : ∃ k, kwV K (d.at_ K) = k := ⟨_, rfl⟩
  obtain ⟨cV, ec⟩ : ∃ k, cdV K (d.at_ K) = k := ⟨_, rfl⟩
  rw [ek, ec]
  unfold fnOb at e
  unfold kwV at ek
  unfold cdV at ec
  unfold fnA at e ek ec
  generalize K.lookup (d.at_ K) = o at *
  cases o with
  | none => cases e
  | some o =>
    obtain ⟨oc, od, dt, osl⟩ := o
    cases dt with
    | func fd =>
      obtain ⟨n1, n2, n3, n4, n5, n6, n7, n8, n9, n10, n11, n12, n13, n14, n15⟩ := fd
      dsimp only at e ek ec
      simp only [FnD.val, Option.some.injEq, Prod.mk.injEq] at e
      obtain ⟨h1, h2, h3, h4, h5, h6, h7, h8, h9⟩ := e
      subst h1 h2 h3 h4 h5 h6 h7 h8 h9 ek ec
      exact ⟨oc, od, osl, n10, n11, n12, n14, rfl⟩
    | _ => cases e
/-! ### the Hook -/
structure Dat where
  fns : List FnD
  chk : PySem.W.Frag → List Bool
  tab : PySem.W.Frag → List Addr
  ex : List Str
def isTab (o : Option Obj) : Bool := match o with
  | some ⟨.none, none, .fields vs, sl⟩ => vs.toList.isEmpty && sl.toList.isEmpty
  | _ => false
theorem isTab_ok {o : Option Obj} (h : isTab o = true) : o = some { cls := .none, data := .fields #[] } := by
  unfold isTab at h
  split at h
  · rename_i vs sl
    simp only [Bool.and_eq_true, List.isEmpty_iff] at h
    obtain ⟨h1, h2⟩ := h
    obtain ⟨v⟩ := vs
    obtain ⟨l⟩ := sl
    dsimp only at h1 h2
    subst h1 h2
    rfl
  · cases h
abbrev Al : Type := Bool × List FnV
def allB : List Bool → Bool
  | [] => true
  | b :: r => match b with
    | true => allB r
    | false => false
theorem allB_get : ∀ {l : List Bool} {i : Nat} {b : Bool}, allB l = true → l[i]? = some b → b = true
  | [], i, b, _, e => by simp at e
  | a :: r, 0, b, h, e => by
    cases a with
    | true => simpa using e.symm
    | false => cases h
  | a :: r, i + 1, b, h, e => by
    cases a with
    | true => exact allB_get (l := r) (i := i) h (by simpa using e)
    | false => cases h
def tabB (g : Addr → Option Obj) : List Addr → Bool
  | [] => true
  | P :: r => isTab (g P) && tabB g r
theorem tabB_mem {g : Addr → Option Obj} : ∀ {l : List Addr}, tabB g l = true → ∀ P ∈ l, g P = some { cls := .none, data := .fields #[] }
  | [], _, P, h => by cases h
  | Q :: r, h, P, hP => by
    obtain ⟨h1, h2⟩ := Bool.and_eq_true_iff.mp (show (isTab (g Q) && tabB g r) = true from h)
    rcases List.mem_cons.mp hP with rfl | hP
    · exact isTab_ok h1
    · exact tabB_mem h2 P hP
def obsK (D : Dat) (g : Addr → Option Obj) (K : PySem.W.Frag) : Al := (allB (D.chk K) && tabB g (D.tab K), D.fns.map fun d => fnOb K (d.at_ K))
def obsG (lo cnt : Nat) (D : Dat) (g : Addr → Option Obj) : Al := obsK D g (frK D.ex g (asR lo cnt))
def valD (D : Dat) : Al := (true, D.fns.map FnD.val)
/-- what the end leans on -/
structure Says (D : Dat) (K : PySem.W.Frag) (h : Heap) : Prop where
  inn : K.In h
  chk : allB (D.chk K) = true
  fns : D.fns.map (fun d => fnOb K (d.at_ K)) = D.fns.map FnD.val
  tab : ∀ P ∈ D.tab K, h.get? P = some { cls := .none, data := .fields #[] }
def hook (lo cnt : Nat) (D : Dat) : PySem.W.Hook where
  α := Al
  obs := fun s => obsG lo cnt D s.heap.get?
  val := fun _ => valD D
  says := fun _ h => ∃ K : PySem.W.Frag, Says D K h
  of := fun w s e => by
    have e1 := Prod.mk.inj e
    have e2 := Bool.and_eq_true_iff.mp e1.1
    exact ⟨frK D.ex s.heap.get? (asR lo cnt), fun a o h => frK_at _ h, e2.1, e1.2, tabB_mem e2.2⟩
  keeps := fun _ _ _ ⟨K, hK⟩ k => ⟨K, PySem.W.Frag.In.keeps hK.inn k, hK.chk, hK.fns, fun P hP => k _ _ (hK.tab P hP)⟩
def ob (lo cnt : Nat) (D : Dat) (s : PySem.W.SharedT) : Al := obsG lo cnt D (HandSHeadRun.getT s)
theorem ob_eq {lo cnt : Nat} {D : Dat} (s : PySem.W.SharedT) : ob lo cnt D s = (hook lo cnt D).obs s.abs := by
  have e : HandSHeadRun.getT s = s.abs.heap.get? := funext fun a => HandSHeadRun.getT_eq s a
  show obsG lo cnt D (HandSHeadRun.getT s) = obsG lo cnt D s.abs.heap.get?
  rw [e]
section
variable {D : Dat} {K : PySem.W.Frag} {h : Heap}
theorem Says.b (c : Says D K h) (i : Nat) {b : Bool} (e : (D.chk K)[i]? = some b := by rfl) : b = true := allB_get c.chk e
theorem Says.e {α : Type} [DecidableEq α] {x y : α} (c : Says D K h) (i : Nat) (e : (D.chk K)[i]? = some (decide (x = y)) := by rfl) : x = y := of_decide_eq_true (allB_get c.chk e)
theorem Says.f (c : Says D K h) (i : Nat) {d : FnD} (e : D.fns[i]? = some d := by rfl) :
    ∃ oc od osl doc pm an ct, K.lookup (d.at_ K) = some ⟨oc, od, .func (PySem.W.fnOf d.name d.qual d.params d.body d.scope .none (kwV K (d.at_ K)) doc pm an (cdV K (d.at_ K)) ct), osl⟩ := by
  have e2 : (D.fns.map fun d => fnOb K (d.at_ K))[i]? = (D.fns.map FnD.val)[i]? := by rw [c.fns]
  rw [List.getElem?_map, List.getElem?_map, e] at e2
  exact fn_ok (Option.some.inj e2)
end
end Hd
namespace Hd
open PySem
structure SaysL (l : List Bool) : Prop where
  all : allB l = true
theorem SaysL.b {l : List Bool} (c : SaysL l) (i : Nat) {b : Bool} (e : l[i]? = some b := by rfl) : b = true := allB_get c.all e
theorem SaysL.e {α : Type} [DecidableEq α] {x y : α} {l : List Bool} (c : SaysL l) (i : Nat) (e : l[i]? = some (decide (x = y)) := by rfl) : x = y := of_decide_eq_true (allB_get c.all e)
end Hd

namespace Lw
open PySem PySem.Spec PyProof.Rows L2 SI
def topS (i : Nat) : Stmt := PySem.Challenge.pw_tellontree_k80_whole_sums_by_all_schedul.main.body.getD i (.Pass ⟨0, 0, 0, 0⟩)
abbrev s_InvalidMachine___init__ : Stmt := (inClass (topS 2) 0)
abbrev s_is_integer : Stmt := (topS 6)
abbrev s_between : Stmt := (topS 7)
abbrev s_checked_count : Stmt := (topS 8)
abbrev s_Machine___init__ : Stmt := (inClass (topS 11) 0)
abbrev s_checked_end : Stmt := (topS 15)
abbrev s_first_hands : Stmt := (topS 16)
abbrev s_greatest : Stmt := (topS 17)
abbrev s_most_summed : Stmt := (topS 18)
abbrev s__law_source : Stmt := (topS 20)
abbrev s__law_draw : Stmt := (topS 21)
abbrev s__law_small : Stmt := (topS 22)
abbrev s__law_is : Stmt := (topS 23)
abbrev s__law_letters : Stmt := (topS 25)
abbrev s__law_best : Stmt := (topS 24)
abbrev s_law : Stmt := (topS 26)
def zCInvalidCount (K : PySem.W.Frag) : Addr := Hd.ga K "InvalidCount"
def zCInvalidMachine (K : PySem.W.Frag) : Addr := Hd.ga K "InvalidMachine"
def zCInvalidTime (K : PySem.W.Frag) : Addr := Hd.ga K "InvalidTime"
def zCMachine (K : PySem.W.Frag) : Addr := Hd.ga K "Machine"
def zCTellError (K : PySem.W.Frag) : Addr := Hd.ga K "TellError"
def zf0 (K : PySem.W.Frag) : Addr := Hd.ma K (zCInvalidMachine K) "__init__"
def zf1 (K : PySem.W.Frag) : Addr := Hd.ga K "is_integer"
def zf10 (K : PySem.W.Frag) : Addr := Hd.ga K "_law_draw"
def zf11 (K : PySem.W.Frag) : Addr := Hd.ga K "_law_small"
def zf12 (K : PySem.W.Frag) : Addr := Hd.ga K "_law_is"
def zf13 (K : PySem.W.Frag) : Addr := Hd.ga K "_law_letters"
def zf14 (K : PySem.W.Frag) : Addr := Hd.ga K "_law_best"
def zf15 (K : PySem.W.Frag) : Addr := Hd.ga K "law"
def zf2 (K : PySem.W.Frag) : Addr := Hd.ga K "between"
def zf3 (K : PySem.W.Frag) : Addr := Hd.ga K "checked_count"
def zf4 (K : PySem.W.Frag) : Addr := Hd.ma K (zCMachine K) "__init__"
def zf5 (K : PySem.W.Frag) : Addr := Hd.ga K "checked_end"
def zf6 (K : PySem.W.Frag) : Addr := Hd.ga K "first_hands"
def zf7 (K : PySem.W.Frag) : Addr := Hd.ga K "greatest"
def zf8 (K : PySem.W.Frag) : Addr := Hd.ga K "most_summed"
def zf9 (K : PySem.W.Frag) : Addr := Hd.ga K "_law_source"
def zcd0 (K : PySem.W.Frag) : Value := Hd.cdV K (zf0 K)
def zcd1 (K : PySem.W.Frag) : Value := Hd.cdV K (zf1 K)
def zcd10 (K : PySem.W.Frag) : Value := Hd.cdV K (zf10 K)
def zcd11 (K : PySem.W.Frag) : Value := Hd.cdV K (zf11 K)
def zcd12 (K : PySem.W.Frag) : Value := Hd.cdV K (zf12 K)
def zcd13 (K : PySem.W.Frag) : Value := Hd.cdV K (zf13 K)
def zcd14 (K : PySem.W.Frag) : Value := Hd.cdV K (zf14 K)
def zcd15 (K : PySem.W.Frag) : Value := Hd.cdV K (zf15 K)
def zcd2 (K : PySem.W.Frag) : Value := Hd.cdV K (zf2 K)
def zcd3 (K : PySem.W.Frag) : Value := Hd.cdV K (zf3 K)
def zcd4 (K : PySem.W.Frag) : Value := Hd.cdV K (zf4 K)
def zcd5 (K : PySem.W.Frag) : Value := Hd.cdV K (zf5 K)
def zcd6 (K : PySem.W.Frag) : Value := Hd.cdV K (zf6 K)
def zcd7 (K : PySem.W.Frag) : Value := Hd.cdV K (zf7 K)
def zcd8 (K : PySem.W.Frag) : Value := Hd.cdV K (zf8 K)
def zcd9 (K : PySem.W.Frag) : Value := Hd.cdV K (zf9 K)
def ztk_GREATEST (K : PySem.W.Frag) : Tok := Hd.tkA K "GREATEST"
def ztk_LAST_TIME (K : PySem.W.Frag) : Tok := Hd.tkA K "LAST_TIME"
def ztk_MOST_HANDS (K : PySem.W.Frag) : Tok := Hd.tkA K "MOST_HANDS"
abbrev R0 : PySem.W.OpenRow := PySem.W.OpenLaw.row PySem.Challenge.rw_tellontree_k80_whole_sums_by_all_schedul
def dk0 : Hd.FnD := ⟨zf0, "__init__", "InvalidMachine.__init__", defArgs s_InvalidMachine___init__, defBody s_InvalidMachine___init__, defScope s_InvalidMachine___init__⟩
def dk1 : Hd.FnD := ⟨zf1, "is_integer", "is_integer", defArgs s_is_integer, defBody s_is_integer, defScope s_is_integer⟩
def dk2 : Hd.FnD := ⟨zf2, "between", "between", defArgs s_between, defBody s_between, defScope s_between⟩
def dk3 : Hd.FnD := ⟨zf3, "checked_count", "checked_count", defArgs s_checked_count, defBody s_checked_count, defScope s_checked_count⟩
def dk4 : Hd.FnD := ⟨zf4, "__init__", "Machine.__init__", defArgs s_Machine___init__, defBody s_Machine___init__, defScope s_Machine___init__⟩
def dk5 : Hd.FnD := ⟨zf5, "checked_end", "checked_end", defArgs s_checked_end, defBody s_checked_end, defScope s_checked_end⟩
def dk6 : Hd.FnD := ⟨zf6, "first_hands", "first_hands", defArgs s_first_hands, defBody s_first_hands, defScope s_first_hands⟩
def dk7 : Hd.FnD := ⟨zf7, "greatest", "greatest", defArgs s_greatest, defBody s_greatest, defScope s_greatest⟩
def dk8 : Hd.FnD := ⟨zf8, "most_summed", "most_summed", defArgs s_most_summed, defBody s_most_summed, defScope s_most_summed⟩
def dk9 : Hd.FnD := ⟨zf9, "_law_source", "_law_source", defArgs s__law_source, defBody s__law_source, defScope s__law_source⟩
def dk10 : Hd.FnD := ⟨zf10, "_law_draw", "_law_draw", defArgs s__law_draw, defBody s__law_draw, defScope s__law_draw⟩
def dk11 : Hd.FnD := ⟨zf11, "_law_small", "_law_small", defArgs s__law_small, defBody s__law_small, defScope s__law_small⟩
def dk12 : Hd.FnD := ⟨zf12, "_law_is", "_law_is", defArgs s__law_is, defBody s__law_is, defScope s__law_is⟩
def dk13 : Hd.FnD := ⟨zf13, "_law_letters", "_law_letters", defArgs s__law_letters, defBody s__law_letters, defScope s__law_letters⟩
def dk14 : Hd.FnD := ⟨zf14, "_law_best", "_law_best", defArgs s__law_best, defBody s__law_best, defScope s__law_best⟩
def dk15 : Hd.FnD := ⟨zf15, "law", "law", defArgs s_law, defBody s_law, defScope s_law⟩
def chk0 (K : PySem.W.Frag) : List Bool := [decide (PySem.W.nsIn K mainGlobals "Machine" = some (some (.ref (zCMachine K)))),
  decide (PySem.W.nsIn K mainGlobals "InvalidCount" = some (some (.ref (zCInvalidCount K)))),
  decide (PySem.W.nsIn K mainGlobals "InvalidMachine" = some (some (.ref (zCInvalidMachine K)))),
  decide (PySem.W.nsIn K mainGlobals "InvalidTime" = some (some (.ref (zCInvalidTime K)))),
  decide (PySem.W.nsIn K mainGlobals "TellError" = some (some (.ref (zCTellError K)))),
  decide (PySem.W.findIn K (.ref (zCInvalidMachine K)) "__init__" = some (some (.ref (zf0 K)))),
  PySem.W.codeIn K (zcd0 K) "InvalidMachine.__init__",
  PySem.W.keepIn K (.ref (zf0 K)),
  decide (PySem.W.nsIn K mainGlobals "is_integer" = some (some (.ref (zf1 K)))),
  PySem.W.codeIn K (zcd1 K) "is_integer",
  PySem.W.keepIn K (.ref (zf1 K)),
  decide (PySem.W.nsIn K mainGlobals "between" = some (some (.ref (zf2 K)))),
  PySem.W.codeIn K (zcd2 K) "between",
  PySem.W.keepIn K (.ref (zf2 K)),
  decide (PySem.W.nsIn K mainGlobals "checked_count" = some (some (.ref (zf3 K)))),
  PySem.W.codeIn K (zcd3 K) "checked_count",
  PySem.W.keepIn K (.ref (zf3 K)),
  decide (PySem.W.findIn K (.ref (zCMachine K)) "__init__" = some (some (.ref (zf4 K)))),
  PySem.W.codeIn K (zcd4 K) "Machine.__init__",
  PySem.W.keepIn K (.ref (zf4 K)),
  decide (PySem.W.nsIn K mainGlobals "checked_end" = some (some (.ref (zf5 K)))),
  PySem.W.codeIn K (zcd5 K) "checked_end",
  PySem.W.keepIn K (.ref (zf5 K)),
  decide (PySem.W.nsIn K mainGlobals "first_hands" = some (some (.ref (zf6 K)))),
  PySem.W.codeIn K (zcd6 K) "first_hands"]
def chk1 (K : PySem.W.Frag) : List Bool := [PySem.W.keepIn K (.ref (zf6 K)),
  decide (PySem.W.nsIn K mainGlobals "greatest" = some (some (.ref (zf7 K)))),
  PySem.W.codeIn K (zcd7 K) "greatest",
  PySem.W.keepIn K (.ref (zf7 K)),
  decide (PySem.W.nsIn K mainGlobals "most_summed" = some (some (.ref (zf8 K)))),
  PySem.W.codeIn K (zcd8 K) "most_summed",
  PySem.W.keepIn K (.ref (zf8 K)),
  decide (PySem.W.nsIn K mainGlobals "_law_source" = some (some (.ref (zf9 K)))),
  PySem.W.codeIn K (zcd9 K) "_law_source",
  PySem.W.keepIn K (.ref (zf9 K)),
  decide (PySem.W.nsIn K mainGlobals "_law_draw" = some (some (.ref (zf10 K)))),
  PySem.W.codeIn K (zcd10 K) "_law_draw",
  PySem.W.keepIn K (.ref (zf10 K)),
  decide (PySem.W.nsIn K mainGlobals "_law_small" = some (some (.ref (zf11 K)))),
  PySem.W.codeIn K (zcd11 K) "_law_small",
  PySem.W.keepIn K (.ref (zf11 K)),
  decide (PySem.W.nsIn K mainGlobals "_law_is" = some (some (.ref (zf12 K)))),
  PySem.W.codeIn K (zcd12 K) "_law_is",
  PySem.W.keepIn K (.ref (zf12 K)),
  decide (PySem.W.nsIn K mainGlobals "_law_letters" = some (some (.ref (zf13 K)))),
  PySem.W.codeIn K (zcd13 K) "_law_letters",
  PySem.W.keepIn K (.ref (zf13 K)),
  decide (PySem.W.nsIn K mainGlobals "_law_best" = some (some (.ref (zf14 K)))),
  PySem.W.codeIn K (zcd14 K) "_law_best",
  PySem.W.keepIn K (.ref (zf14 K))]
def chk2 (K : PySem.W.Frag) : List Bool := [decide (PySem.W.nsIn K mainGlobals "law" = some (some (.ref (zf15 K)))),
  PySem.W.codeIn K (zcd15 K) "law",
  PySem.W.keepIn K (.ref (zf15 K)),
  decide (PySem.W.nsIn K mainGlobals "bool" = some none),
  decide (PySem.W.nsIn K mainGlobals "int" = some none),
  decide (PySem.W.nsIn K mainGlobals "isinstance" = some none),
  decide (PySem.W.nsIn K mainGlobals "len" = some none),
  decide (PySem.W.nsIn K mainGlobals "max" = some none),
  decide (PySem.W.nsIn K mainGlobals "min" = some none),
  decide (PySem.W.nsIn K mainGlobals "range" = some none),
  decide (PySem.W.nsIn K mainGlobals "sum" = some none),
  decide (PySem.W.nsIn K mainGlobals "GREATEST" = some (some (.int 1000000000 (ztk_GREATEST K)))),
  decide (PySem.W.nsIn K mainGlobals "LAST_TIME" = some (some (.int 1000000000000 (ztk_LAST_TIME K)))),
  decide (PySem.W.nsIn K mainGlobals "MOST_HANDS" = some (some (.int 40 (ztk_MOST_HANDS K)))),
  PySem.W.makesIn K (zCMachine K),
  PySem.W.isFn K (.ref (zf4 K)),
  PySem.W.keepIn K (.ref (zCMachine K)),
  PySem.W.plainGet K (zCMachine K) Str.empty,
  PySem.W.hasDictIn K (zCMachine K),
  PySem.W.plainOver K (zCMachine K),
  decide (PySem.W.findIn K (.ref (zCMachine K)) "__setattr__" = some (some (.builtin "object.__setattr__"))),
  decide (PySem.W.findIn K (.ref (zCMachine K)) "__class__" = some (some (.builtin "object.__class__"))),
  decide (PySem.W.specialIn K (.builtin "object.__class__") "__get__" = some (some (.builtin "getset_descriptor.__get__"))),
  decide (PySem.W.takesIn K (.builtin "object.__class__") = some true),
  decide (PySem.W.mroIn K (zCMachine K) (.type "object") = some true)]
def chk3 (K : PySem.W.Frag) : List Bool := [nyB K (zCMachine K),
  ynB K (zCMachine K),
  nfB K (zCMachine K),
  decide (PySem.W.findIn K (.ref (zCMachine K)) "g" = some none),
  decide (PySem.W.findIn K (.ref (zCMachine K)) "gap" = some none),
  decide (PySem.W.findIn K (.ref (zCMachine K)) "l" = some none),
  decide (PySem.W.findIn K (.ref (zCMachine K)) "letter" = some none),
  decide (PySem.W.findIn K (.ref (zCMachine K)) "o" = some none),
  PySem.W.hasDictIn K (zCInvalidCount K),
  decide (PySem.W.subIn K (.ref (zCInvalidCount K)) (.type "BaseException") = some true),
  decide (PySem.W.typeIn K (.ref (zCInvalidCount K)) = some (.type "type")),
  PySem.W.keepIn K (.ref (zCInvalidCount K)),
  PySem.W.excIn K (zCInvalidCount K) exTail "Exception.__new__",
  PySem.W.hasDictIn K (zCInvalidMachine K),
  decide (PySem.W.subIn K (.ref (zCInvalidMachine K)) (.type "BaseException") = some true),
  decide (PySem.W.typeIn K (.ref (zCInvalidMachine K)) = some (.type "type")),
  PySem.W.keepIn K (.ref (zCInvalidMachine K)),
  PySem.W.excInitIn K (zCInvalidMachine K) exTail "Exception.__new__",
  PySem.W.excOver K (zCInvalidMachine K) exTail,
  decide (PySem.W.findIn K (.ref (zCInvalidMachine K)) "__setattr__" = some (some (.builtin "object.__setattr__"))),
  decide (PySem.W.typeIn K (.ref (zf0 K)) = some (.type "function")),
  decide (PySem.W.takerIn K (zCInvalidMachine K) "part" = some none),
  PySem.W.hasDictIn K (zCInvalidTime K),
  decide (PySem.W.subIn K (.ref (zCInvalidTime K)) (.type "BaseException") = some true),
  decide (PySem.W.typeIn K (.ref (zCInvalidTime K)) = some (.type "type"))]
def chk4 (K : PySem.W.Frag) : List Bool := [PySem.W.keepIn K (.ref (zCInvalidTime K)),
  PySem.W.excIn K (zCInvalidTime K) exTail "Exception.__new__",
  tabsIn K []]
def dat : Hd.Dat := ⟨[dk0, dk1, dk2, dk3, dk4, dk5, dk6, dk7, dk8, dk9, dk10, dk11, dk12, dk13, dk14, dk15], fun K => [Hd.allB (chk0 K), Hd.allB (chk1 K), Hd.allB (chk2 K), Hd.allB (chk3 K), Hd.allB (chk4 K)], fun K => [], ["by_start", "crossings"]⟩
def nmL0 : List PySem.Str := ["__name__", "TellError", "InvalidMachine", "InvalidCount", "InvalidTime", "is_integer", "between", "checked_count", "GREATEST", "Machine", "MOST_HANDS", "LAST_TIME", "checked_end", "first_hands", "greatest", "most_summed", "_law_source", "_law_draw", "_law_small", "_law_is"]
def nmL1 : List PySem.Str := ["_law_best", "_law_letters"]
def nmL : List PySem.Str := nmL0 ++ nmL1
set_option maxHeartbeats 0 in
theorem head_run (w : World) : HandSHeadRun.RunEq R0 (PySem.W.view R0.prog [26]) (Hd.hook 0 4000 dat) (Hd.ob 0 4000 dat) 40000 nmL w := by
  intro os
  kernel_rfl
end Lw

/-! several except clauses, with and without a name -/
namespace SI
open PySem PySem.Spec PyProof.Rows L2
/-- a clause: the class, the place of its name, its suite -/
abbrev Cla := Value × Option Nat × (Addr → Value → Option Addr → TS)
inductive HdX (X : Cx) : List ExceptHandler → List Cla → Prop
  | nil : HdX X [] []
  | cons {x : Str} {c : Value} {ts : Addr → Value → Option Addr → TS} {b0 : Stmt} {su : List Stmt} {q1 q2 : Pos} {hs : List ExceptHandler} {l : List Cla} (nm : Names X x c)
      (go : ∀ (a : Addr) (oe : Obj) (k : Value) (d : Option Addr) (pn : List (Addr × Obj)), Zc k d oe → (∃ vs, oe.data = .fields vs) → PSs (X.suite a ((a, oe) :: pn)) (b0 :: su) (ts a k d)) (r : HdX X hs l) :
      HdX X (.ExceptHandler (some (.Name x q1)) none (b0 :: su) q2 :: hs) ((c, none, ts) :: l)
  | consAs {x n : Str} {i : Nat} {c : Value} {ts : Addr → Value → Option Addr → TS} {b0 : Stmt} {su : List Stmt} {q1 q2 : Pos} {hs : List ExceptHandler} {l : List Cla} (nm : Names X x c) (nd : X.N.Nodup) (hi : X.N[i]? = some n) (hk : X.env.kindOf n = some .local)
      (go : ∀ (a : Addr) (oe : Obj) (k : Value) (d : Option Addr) (pn : List (Addr × Obj)), Zc k d oe → (∃ vs, oe.data = .fields vs) → PSs (X.suite a ((a, oe) :: pn)) (b0 :: su) (ts a k d)) (r : HdX X hs l) :
      HdX X (.ExceptHandler (some (.Name x q1)) (some n) (b0 :: su) q2 :: hs) ((c, some i, ts) :: l)
section
variable {X : Cx} {body : List Stmt} {hd0 : ExceptHandler} {hds : List ExceptHandler} {l : List Cla} {pos : Pos} {tb : WX → TS} {Wo : WX}
end
/-! ### at the data level -/
abbrev Cld := List (Addr × Bool) × Option Nat × (Addr → Addr → Option Addr → FS)
noncomputable def tryM : List Cld → Addr → List Str → List D → Lc → S → RS
  | [], C, fs, vs, L, s => .ex C fs vs L s
  | (sel, none, h) :: r, C, fs, vs, L, s => match selOf sel C with
    | some true => hAll fun a od => (h a C od L s).calm
    | some false => tryM r C fs vs L s
    | none => .bad
  | (sel, some i, h) :: r, C, fs, vs, L, s => match selOf sel C with
    | some true => hAll fun a od => (h a C od (L.set i (some (.exc a C od fs vs))) s).drop i
    | some false => tryM r C fs vs L s
    | none => .bad
noncomputable def sTryM (hs : List Cld) (b : FS) : FS := fun L s => match b L s with
  | .ex C fs vs L1 s1 => tryM hs C fs vs L1 s1
  | r => r
section
variable {X : Cx} {W : WX} {pos : Pos}
inductive HdD (X : Cx) : List ExceptHandler → List Cld → Prop
  | nil : HdD X [] []
  | cons {x : Str} {Ca : Addr} {sel : List (Addr × Bool)} {fh : Addr → Addr → Option Addr → FS} {b0 : Stmt} {su : List Stmt} {q1 q2 : Pos} {hs : List ExceptHandler} {l : List Cld} (hm : X.mg x = some (.ref Ca)) (hsel : ∀ p ∈ sel, PySem.W.exmOne X.K (.ref p.1) (.ref Ca) = some p.2)
      (go : ∀ (a : Addr) (oe : Obj) (C : Addr) (d : Option Addr) (pn : List (Addr × Obj)), Zc (.ref C) d oe → (∃ vs, oe.data = .fields vs) → PSs (X.suite a ((a, oe) :: pn)) (b0 :: su) (tS X.K (fun _ _ _ _ => False) (fh a C d))) (r : HdD X hs l)
      (hg : Gl X x := by rfl) (hdb : (x == ("__debug__" : Str)) = false := by decide) :
      HdD X (.ExceptHandler (some (.Name x q1)) none (b0 :: su) q2 :: hs) ((sel, none, fh) :: l)
  | consAs {x n : Str} {i : Nat} {Ca : Addr} {sel : List (Addr × Bool)} {fh : Addr → Addr → Option Addr → FS} {b0 : Stmt} {su : List Stmt} {q1 q2 : Pos} {hs : List ExceptHandler} {l : List Cld} (nd : X.N.Nodup) (hm : X.mg x = some (.ref Ca)) (hsel : ∀ p ∈ sel, PySem.W.exmOne X.K (.ref p.1) (.ref Ca) = some p.2)
      (go : ∀ (a : Addr) (oe : Obj) (C : Addr) (d : Option Addr) (pn : List (Addr × Obj)), Zc (.ref C) d oe → (∃ vs, oe.data = .fields vs) → PSs (X.suite a ((a, oe) :: pn)) (b0 :: su) (tS X.K (fun _ _ _ _ => False) (fh a C d))) (r : HdD X hs l)
      (hi : X.N[i]? = some n := by rfl) (hk : X.env.kindOf n = some .local := by rfl) (hg : Gl X x := by rfl) (hdb : (x == ("__debug__" : Str)) = false := by decide) :
      HdD X (.ExceptHandler (some (.Name x q1)) (some n) (b0 :: su) q2 :: hs) ((sel, some i, fh) :: l)
end
end SI

/-! range(i, j, -1) -/
namespace SI
open PySem PySem.Spec PyProof.Rows L2
section
variable {X : Cx} {W : WX} {fa : F (List D)} {pos : Pos}
def dnItems (hi : Int) (n : Nat) : List D := (List.range n).map fun (k : Nat) => .int (hi - (k : Int))
def dRngD : List D → Option Src
  | [.int i, .int j, .int k] => if k = -1 ∧ rgOk i = true ∧ rgOk j = true then some ⟨dnItems i (i - j).toNat, none⟩ else none
  | _ => none
end
end SI

/-! min, max, sorted of one list of ints; index; in -/
namespace SI
open PySem PySem.Spec PyProof.Rows L2
section
variable {X : Cx} {W : WX} {o e : Expr} {es : List Expr} {fo : F D} {fa : F (List D)} {pos : Pos}
/-- the least -/
def lsI : List Int → Option Int
  | [] => none
  | n :: ns => some (ns.foldl min n)
def gsI : List Int → Option Int
  | [] => none
  | n :: ns => some (ns.foldl max n)
theorem fold_min : ∀ (ns : List Int) (n : Int), (ns.foldl min n = n ∨ ns.foldl min n ∈ ns) ∧ ns.foldl min n ≤ n ∧ ∀ y ∈ ns, ns.foldl min n ≤ y
  | [], n => ⟨.inl rfl, Int.le_refl _, fun y h => by cases h⟩
  | m :: ns, n => by
    obtain ⟨h1, h2, h3⟩ := fold_min ns (min n m)
    rw [List.foldl_cons]
    refine ⟨?_, by omega, fun y hy => ?_⟩
    · rcases h1 with h1 | h1
      · rcases Int.le_total n m with z | z
        · exact .inl (by rw [h1]; omega)
        · exact .inr (by rw [h1, Int.min_eq_right z]; simp)
      · exact .inr (List.mem_cons_of_mem _ h1)
    · rcases List.mem_cons.mp hy with rfl | e
      · omega
      · exact h3 y e
theorem lsI_mem {ns : List Int} {m : Int} (h : lsI ns = some m) : m ∈ ns ∧ ∀ y ∈ ns, m ≤ y := by
  cases ns with
  | nil => cases h
  | cons n ns =>
    cases h
    obtain ⟨h1, h2, h3⟩ := fold_min ns n
    refine ⟨?_, fun y hy => ?_⟩
    · rcases h1 with h1 | h1
      · rw [h1]; simp
      · exact List.mem_cons_of_mem _ h1
    · rcases List.mem_cons.mp hy with rfl | e
      · exact h2
      · exact h3 y e
def bMin1 (s : S) : List D → Option D
  | [d] => ((lstOf s d).bind intsOf).bind fun ns => (lsI ns).map .int
  | _ => none
theorem cbl_min1 {K : PySem.W.Frag} : CbL K (rMin K) bMin1 := by
  intro mu s H ds d vs Q m r e q
  rcases ds with _ | ⟨d1, _ | ⟨d2, ds⟩⟩
  · cases e
  · obtain ⟨v, rfl, r1⟩ := rel1 r
    obtain ⟨ns, e1, e4⟩ := Option.bind_eq_some_iff.mp e
    obtain ⟨k, e5, rfl⟩ := Option.map_eq_some_iff.mp e4
    obtain ⟨xs, e2, e3⟩ := Option.bind_eq_some_iff.mp e1
    obtain ⟨a, vs, rfl, h2, h3⟩ := sq_lstOf m r1 e2
    have h5 := lsI_mem e5
    refine ⟨a, ns, rfl, by rw [← ints_rel h3 e3]; exact h2, List.length_pos_of_mem h5.1, fun z hz hl => ?_⟩
    have : z = k := Int.le_antisymm (hl k h5.1) (h5.2 z hz)
    subst this
    exact q mu H _ (Ge.refl _ _) m (rel_int.mpr rfl)
  · cases e
theorem pE_min1 {p : Pos} (hc : X.calm = true) (hm : X.mg "min" = none) (ha : PA X [e] (tA X.K W fa)) (hg : Gl X "min" := by rfl) (he : starEach [e] X.env = (false, eval e X.env) :: starEach [] X.env := by rfl) :
    PE X (.Call (.Name "min" p) [e] [] pos) (tE X.K W (fCB bMin1 fa)) := pE_cb (cr_min hc) cbl_min1 hm (by decide +kernel) ha hg (by decide) (by decide) he rfl
/-! index -/
def ixI (k : Int) : List Int → Option Nat
  | [] => none
  | n :: ns => if n = k then some 0 else (ixI k ns).map (· + 1)
theorem ixI_at {k : Int} : ∀ {ns : List Int} {j : Nat}, ixI k ns = some j → ns[j]? = some k ∧ ∀ m, m < j → ∀ z, ns[m]? = some z → z ≠ k
  | [], j, h => by cases h
  | n :: ns, j, h => by
    unfold ixI at h
    split at h
    · rename_i e
      cases h
      exact ⟨by simp [e], fun m hm => by omega⟩
    · rename_i e
      obtain ⟨i, e1, rfl⟩ := Option.map_eq_some_iff.mp h
      obtain ⟨h1, h2⟩ := ixI_at e1
      refine ⟨by simpa using h1, fun m hm z hz => ?_⟩
      cases m with
      | zero => simp at hz; omega
      | succ m => exact h2 m (by omega) z (by simpa using hz)
theorem ixI_mem {k : Int} {ns : List Int} (h : k ∈ ns) : ∃ j, ixI k ns = some j := by
  induction ns with
  | nil => cases h
  | cons n ns ih =>
    unfold ixI
    by_cases e : n = k
    · exact ⟨0, by rw [if_pos e]⟩
    · obtain ⟨j, hj⟩ := ih (by rcases List.mem_cons.mp h with z | z; exact absurd z.symm e; exact z)
      exact ⟨j + 1, by rw [if_neg e, hj]; rfl⟩
def mIndex (s : S) (d : D) : List D → Option (D × S)
  | [.int k] => ((lstOf s d).bind intsOf).bind fun ns => (ixI k ns).map fun j => (.int (j : Nat), s)
  | _ => none
theorem ml_index {K : PySem.W.Frag} : MthL K (rIndex K) mIndex := by
  intro mu s H d ds v vs Q z m r rs e q
  unfold mIndex at e
  split at e
  · rename_i k
    obtain ⟨ns, e1, e4⟩ := Option.bind_eq_some_iff.mp e
    obtain ⟨j, e5, rfl⟩ := Option.map_eq_some_iff.mp e4
    obtain ⟨xs, e2, e3⟩ := Option.bind_eq_some_iff.mp e1
    obtain ⟨a, us, rfl, sq, rr⟩ := sq_lstOf m r e2
    have := ints_rel rr e3
    subst this
    obtain ⟨w, rfl, rw⟩ := rel1 rs
    have ew := rel_int.mp rw
    subst ew
    obtain ⟨h1, h2⟩ := ixI_at e5
    refine ⟨a, ns.map V.int, .int k, j, .int k, rfl, rfl, sq, rfl, ?_, ?_, ?_, fun i z' hi hz => ?_, q mu H _ (Ge.refl _ _) m (rel_int.mpr rfl)⟩
    · rw [List.all_eq_true]
      intro x hx
      obtain ⟨n, _, rfl⟩ := List.mem_map.mp hx
      rfl
    · rw [List.getElem?_map, h1]
      rfl
    · simp [eqV]
    · rw [List.getElem?_map] at hz
      obtain ⟨n, hn, rfl⟩ := Option.map_eq_some_iff.mp hz
      have := h2 i hi n hn
      simp [eqV, this]
  · cases e
theorem pE_index {apos : Pos} (ho : PE X o (tE X.K W fo)) (ha : PA X [e] (tA X.K W fa)) (hbase : attributeBase o "index" X.env (eval o X.env) = eval o X.env := by rfl)
    (hfew : ((backTo pos (starEach [e] X.env)).all (fun x => !x.1) && (backToKw pos (keywordEach [] X.env)).all (fun x => x.1.isSome)
      && decide ([e].length + ([] : List Keyword).length + (if ([] : List Keyword).isEmpty then 0 else 1) < 30)) = true := by rfl)
    (hline : (apos.endLine == pos.line) = true := by rfl) (hs : starEach [e] X.env = (false, eval e X.env) :: starEach [] X.env := by rfl) :
    PE X (.Call (.Attribute o "index" apos) [e] [] pos) (tE X.K W (fMth mIndex fo fa)) := pE_mth PySem.F.slot_list_index PySem.F.type_list_index mt_index ml_index ho ha hbase hfew hline hs rfl
/-! sorted -/
def srI (ns : List Int) : List Int := ns.mergeSort (fun a b => decide (a ≤ b))
end
end SI

/-! tracked dicts whose keys are ints or texts -/
namespace SI
open PySem PySem.Spec PyProof.Rows L2
def keyD : D → Option Key
  | .int i => some (.inl i)
  | .str x => some (.inr x)
  | _ => none
def lkD : List Key → List D → Key → Option D
  | k :: ks, v :: vs, k' => if k = k' then some v else lkD ks vs k'
  | _, _, _ => none
def ptD : List Key → List D → Key → D → List Key × List D
  | k :: ks, v :: vs, k', d => if k = k' then (k :: ks, d :: vs) else ((k :: (ptD ks vs k' d).1), (v :: (ptD ks vs k' d).2))
  | _, _, k', d => ([k'], [d])
def dicOf (s : S) (d : D) : Option (List Key × List D) := match d with
  | .dk ks vs => some (ks, vs)
  | .ref n => match s[n]? with
    | some (.dk ks vs) => some (ks, vs)
    | _ => none
  | _ => none
section
variable {K : PySem.W.Frag} {mu : Mu} {s : S} {H : Hp}
end
section
variable {X : Cx} {W : WX} {o i e e2 : Expr} {fo fi f g fx : F D} {pos : Pos} {k : Nat}
/-- {} that will be changed -/
def fDictT : F D := fun _ s => .ok (.ref s.length) (s ++ [.dk [] []])
/-- {i: j} that will be changed -/
def fDictI (i j : Int) : F D := fun _ s => .ok (.ref s.length) (s ++ [.dk [.inl i] [.int j]])
/-- d.get(k, x) -/
def fGet (fo fk fx : F D) : F D := fun L s => (fo L s).bind fun d s1 => match dicOf s1 d with
  | some _ => (fk L s1).bind fun a s2 => (fx L s2).bind fun x s3 => match dicOf s3 d, keyD a with
    | some (ks, vs), some k => .ok ((lkD ks vs k).getD x) s3
    | _, _ => .bad
  | none => .bad
/-! list(range(..)) -/
def rg2 (lo b : Int) : Bool := decide (0 ≤ lo ∧ lo ≤ 1000000 ∧ 0 ≤ b ∧ b ≤ 1000000)
def fLrg1 (f : F D) : F D := fun L s => (f L s).bind fun d s1 => match d with
  | .int n => if rg2 0 n = true then .ok (.lst (rgItems 0 n.toNat)) s1 else .bad
  | _ => .bad
def fLrg1T (f : F D) : F D := fun L s => (f L s).bind fun d s1 => match d with
  | .int n => if rg2 0 n = true then .ok (.ref s1.length) (s1 ++ [.lst (rgItems 0 n.toNat)]) else .bad
  | _ => .bad
def fLrg2 (f g : F D) : F D := fun L s => (f L s).bind fun d s1 => (g L s1).bind fun e s2 => match d, e with
  | .int m, .int n => if rg2 m n = true then .ok (.lst (rgItems m (n - m).toNat)) s2 else .bad
  | _, _ => .bad
def fLrg2T (f g : F D) : F D := fun L s => (f L s).bind fun d s1 => (g L s1).bind fun e s2 => match d, e with
  | .int m, .int n => if rg2 m n = true then .ok (.ref s2.length) (s2 ++ [.lst (rgItems m (n - m).toNat)]) else .bad
  | _, _ => .bad
section
variable {a b : Expr} {p p2 : Pos} {pos2 : Pos}
end
/-! pop() -/
def fPop0 (fo : F D) : F D := fun L s => (fo L s).bind fun d s1 => match d with
  | .ref n => match s1[n]? with
    | some (.lst xs) => match xs[xs.length - 1]? with
      | some y => .ok y (s1.set n (.lst xs.dropLast))
      | none => .bad
    | _ => .bad
  | _ => .bad
theorem RelDs.dropLast {K : PySem.W.Frag} {mu : Mu} {H : Hp} {ds : List D} {vs : List V} (r : RelDs K mu H ds vs) : RelDs K mu H ds.dropLast vs.dropLast := by
  rw [List.dropLast_eq_take, List.dropLast_eq_take, r.length]
  exact r.take _
/-! in: a list or tuple of ints -/
end
end SI

/-! tuples (int, int, tuple of ints) by their order -/
namespace SI
open PySem PySem.Spec PyProof.Rows L2
section
variable {A : Around} {s : Shared}
end
/-- the order of (i, j, ns) and (i', j', ms) -/
def ltK (i j : Int) (ns : List Int) (i' j' : Int) (ms : List Int) : Bool := if i = i' then (if j = j' then HT.lexLt ns ms else decide (j < j')) else decide (i < i')
section
variable {X : Cx} {W : WX} {a b : Expr} {f g : F D} {pos : Pos} {k : Nat}
end
end SI

/-! slices and sums of lists that will be changed -/
namespace SI
open PySem PySem.Spec PyProof.Rows L2
section
variable {X : Cx} {W : WX} {a b e : Expr} {f g : F D} {pos : Pos}
def fSlT (f : F D) (l h : F (Option Int)) : F D := fun L s => (f L s).bind fun d s1 => (l L s1).bind fun lo s2 => (h L s2).bind fun hi s3 => match lstOf s3 d with
  | some xs => .ok (.ref s3.length) (s3 ++ [.lst (cutD xs lo hi)])
  | none => .bad
/-- a list that is no constant of the text -/
def lsO (s : S) : D → Option (List D)
  | .lst xs => some xs
  | .ref n => match s[n]? with
    | some (.lst xs) => some xs
    | _ => none
  | _ => none
def fAddT (f g : F D) : F D := fun L s => (f L s).bind fun a s1 => (g L s1).bind fun b s2 => match lsO s2 a, lsO s2 b with
  | some xs, some ys => if xs.length + ys.length ≤ big then .ok (.ref s2.length) (s2 ++ [.lst (xs ++ ys)]) else .bad
  | _, _ => .bad
end
end SI

/-! names set side by side; setdefault; a dict of one entry -/
namespace SI
open PySem PySem.Spec PyProof.Rows L2
def sPar2 (i j : Nat) (fa : F (List D)) : FS := fun L s => (fa L s).bindS L fun ds s1 => match ds with
  | [v, w] => .nx ((L.set i (some v)).set j (some w)) s1
  | _ => .bad
def sPar3 (i j k : Nat) (fa : F (List D)) : FS := fun L s => (fa L s).bindS L fun ds s1 => match ds with
  | [u, v, w] => .nx (((L.set i (some u)).set j (some v)).set k (some w)) s1
  | _ => .bad
section
variable {X : Cx} {W : WX} {a b d o e e2 : Expr} {fa : F (List D)} {fo fk fx f : F D} {pos : Pos} {k : Nat}
/-- d.setdefault(k, x) of a tracked dict -/
def fSetd (fo fk fx : F D) : F D := fun L s => (fo L s).bind fun d s1 => match d with
  | .ref n => match s1[n]? with
    | some (.dk _ _) => (fk L s1).bind fun a s2 => (fx L s2).bind fun x s3 => match s3[n]?, keyD a with
      | some (.dk ks vs), some k => if ks.Nodup ∧ ks.length < big then match lkD ks vs k with
          | some v => .ok v s3
          | none => .ok x (s3.set n (.dk (ptD ks vs k x).1 (ptD ks vs k x).2))
        else .bad
      | _, _ => .bad
    | _ => .bad
  | _ => .bad
/-- {i: x} that will be changed -/
def fDict1 (i : Int) (f : F D) : F D := fun L s => (f L (s ++ [.dk [] []])).bind fun d s2 => match s2[s.length]? with
  | some (.dk [] []) => .ok (.ref s.length) (s2.set s.length (.dk [.inl i] [d]))
  | _ => .bad
end
end SI

/-! max(xs, default=x) of ints -/
namespace SI
open PySem PySem.Spec PyProof.Rows L2
section
variable {prog : Program} {w : World} {A : Around} {J : Addr} {fp wr : List Addr} {n : Nat} {P : Nat → Value → Prop} {St : Nat → Heap → Prop}
variable {s : Shared} {E : Value → Shared → Prop} {l : Addr}
end
def mxOf (s : S) (ds xs : List D) : Option D := match ds, xs with
  | [d], [x] => match (lstOf s d).bind intsOf with
    | some [] => some x
    | some ns => (gsI ns).map .int
    | none => none
  | _, _ => none
def fMaxDf (fa fk : F (List D)) : F D := fun L s => (fa L s).bind fun ds s1 => (fk L s1).bind fun xs s2 => match mxOf s2 ds xs with
  | some d => .ok d s2
  | none => .bad
/-! sorted(..) whose list will be changed -/
def srtOf (s : S) : List D → Option (List D)
  | [d] => ((lstOf s d).bind intsOf).map fun ns => (srI ns).map .int
  | _ => none
def fSrtT (fa : F (List D)) : F D := fun L s => (fa L s).bind fun ds s1 => match srtOf s1 ds with
  | some xs => .ok (.ref s1.length) (s1 ++ [.lst xs])
  | none => .bad
end SI

/-! min of a list of tuples (int, int, tuple of ints); list.remove of data -/
namespace SI
open PySem PySem.Spec PyProof.Rows L2
abbrev K3 := Int × Int × List Int
def ltT (a b : K3) : Bool := ltK a.1 a.2.1 a.2.2 b.1 b.2.1 b.2.2
def btT (ks : List K3) (i j : Nat) : Bool := ltT (ks.getD i (0, 0, [])) (ks.getD j (0, 0, []))
/-- which place is the least -/
def minAt (ks : List K3) : Nat := argBest (btT ks) (ks.length - 1)
section
variable {A : Around} {s : Shared}
/-- at a stands the tuple k -/
def At3 (h : Heap) (v : Value) (k : K3) : Prop := ∃ (a t : Addr) (t1 t2 : Tok) (it : List Value), v = .ref a ∧ h.IsTuple a #[.int k.1 t1, .int k.2.1 t2, .ref t] ∧ h.IsTuple t it.toArray ∧ IntsAre it k.2.2
theorem At3.keep {h h' : Heap} {v : Value} {k : K3} (x : At3 h v k) (kp : ∀ b o, h.get? b = some o → h'.get? b = some o) : At3 h' v k := by
  obtain ⟨a, t, t1, t2, it, e, ⟨o, h1, r1⟩, ⟨o2, h2, r2⟩, i⟩ := x
  exact ⟨a, t, t1, t2, it, e, ⟨o, kp _ _ h1, r1⟩, ⟨o2, kp _ _ h2, r2⟩, i⟩
end
def k3Of : D → Option K3
  | .tup [.int i, .int j, .tup xs] => (intsOf xs).map fun ns => (i, j, ns)
  | _ => none
def k3s : List D → Option (List K3)
  | [] => some []
  | d :: ds => match k3Of d, k3s ds with
    | some k, some ks => some (k :: ks)
    | _, _ => none
def bMinK (s : S) : List D → Option D
  | [d] => (lstOf s d).bind fun ds => (k3s ds).bind fun ks => ds[minAt ks]?
  | _ => none
section
variable {X : Cx} {W : WX} {o e : Expr} {es : List Expr} {fo : F D} {fa : F (List D)} {pos : Pos} {k : Nat}
/-! list.remove -/
def remAt (ds : List PyData) (d : PyData) : Option Nat := ds.findIdx? fun y => PyData.eqv y d
def mRemD (s : S) (d : D) : List D → Option (D × S)
  | [y] => match d with
    | .ref n => match s[n]? with
      | some (.lst xs) => match toPys s xs, toPy s y with
        | some ds, some dy => if SeqAt.shaped (.list ds) = true ∧ SeqAt.shaped dy = true then (remAt ds dy).map fun j => (.non, s.set n (.lst (xs.eraseIdx j))) else none
        | _, _ => none
      | _ => none
    | _ => none
  | _ => none
end
end SI

/-! generators that sleep while other code runs: code that succeeds where a sleeper cannot be woken leaves the sleeper as it is -/
namespace SI
open PySem PyProof.Rows L2
open Sem (wp)
/-- frames of calls only -/
def CallFs (fs : List Frame) : Prop := splitAtGen fs = none
/-- an entry of the table whose frames are calls -/
def CallGen : GenState → Prop
  | .suspended _ _ _ _ fs _ => CallFs fs
  | _ => True
/-- it sleeps -/
def Sleeps : GenState → Prop
  | .suspended .. => True
  | _ => False
/-- the same, but it cannot be woken -/
def lame : GenState → GenState
  | .suspended _ l c p fs cl => .suspended (fun _ => .unsupported "") l c p fs cl
  | x => x
theorem lame_bare (x : GenState) : (lame x).bare = x.bare := by cases x <;> rfl
/-- T: what sleeps; G: the table; L: the table where the sleepers are lame -/
structure Lamed (T : Nat → Option GenState) (G L : Array GenState) : Prop where
  size : G.size = L.size
  sl : ∀ i x, T i = some x → Sleeps x ∧ G[i]? = some x ∧ L[i]? = some (lame x)
  eq : ∀ i, T i = none → G[i]? = L[i]?
  cl : ∀ i x, T i = none → L[i]? = some x → CallGen x
variable {T : Nat → Option GenState} {G L : Array GenState}
theorem Lamed.set (h : Lamed T G L) {i : Nat} (ht : T i = none) {x : GenState} (hx : CallGen x) : Lamed T (G.setIfInBounds i x) (L.setIfInBounds i x) where
  size := by rw [Array.size_setIfInBounds, Array.size_setIfInBounds, h.size]
  sl j y e := by
    have hj : i ≠ j := fun z => by subst z; rw [ht] at e; cases e
    obtain ⟨a, b, d⟩ := h.sl j y e
    exact ⟨a, by rw [Array.getElem?_setIfInBounds_ne hj]; exact b, by rw [Array.getElem?_setIfInBounds_ne hj]; exact d⟩
  eq j e := by
    rw [Array.getElem?_setIfInBounds, Array.getElem?_setIfInBounds, h.size, h.eq j e]
  cl j y e q := by
    by_cases hj : i = j
    · subst hj
      rw [Array.getElem?_setIfInBounds, if_pos rfl] at q
      split at q
      · cases q
        exact hx
      · cases q
    · rw [Array.getElem?_setIfInBounds_ne hj] at q
      exact h.cl j y e q
theorem Lamed.push (h : Lamed T G L) {x : GenState} (hx : CallGen x) : Lamed T (G.push x) (L.push x) where
  size := by rw [Array.size_push, Array.size_push, h.size]
  sl j y e := by
    obtain ⟨a, b, d⟩ := h.sl j y e
    have h1 := (Array.getElem?_eq_some_iff.mp b).1
    have h2 := (Array.getElem?_eq_some_iff.mp d).1
    exact ⟨a, by rw [Array.getElem?_push, if_neg (by omega)]; exact b, by rw [Array.getElem?_push, if_neg (by omega)]; exact d⟩
  eq j e := by rw [Array.getElem?_push, Array.getElem?_push, h.size, h.eq j e]
  cl j y e q := by
    rw [Array.getElem?_push] at q
    split at q
    · cases q
      exact hx
    · exact h.cl j y e q
section
variable {M : Model} {T : Nat → Option GenState}
end
def sleepers (G : Array GenState) (i : Nat) : Option GenState := match G[i]? with
  | some (.suspended k l c p fs cl) => some (.suspended k l c p fs cl)
  | _ => none
end SI

/-! a generator def: its code from one sleep to the next -/
namespace SI
open PySem PySem.Spec PyProof.Rows L2 GenW
open Sem (wp)
/-- woken, it runs to an end that Φ describes -/
def Sg (M : Model) (A : Around) (c : Code) (t : Sem PySem.Fin) (fs : List Frame) (s : Shared) (Φ : End → Shared → Prop) : Prop :=
  ∀ Γ p, Γ.code = c → Γ.Woken A → ∃ e s', Runs M Γ p t fs s e s' ∧ Φ e s'
section
variable {M : Model} {A : Around} {c c' : Code} {fs : List Frame} {s : Shared} {Φ : End → Shared → Prop}
end
section
variable {P : Program} {w : World} {A : Around} {fs : List Frame} {s : Shared} {Φ : End → Shared → Prop} {env : Env}
/-- how a sleeper goes on -/
def GoG (M : Model) (A : Around) (gs : GenState) (s : Shared) (Φ : End → Shared → Prop) : Prop := match gs with
  | .fresh c => Sg M A c (M.den c) [] s Φ
  | .suspended k _ c _ fs _ => Sg M A c (k (.send .none)) fs s Φ
  | _ => False
end
end SI

/-! a generator def that hands out for ever: pre; while True: u; yield e; v -/
namespace SI
open PySem PySem.Spec PyProof.Rows L2 GenW
open Sem (wp)
/-- the heap's first n objects -/
def cutH (h : Heap) (n : Nat) : Heap := ⟨h.objs.extract 0 n, h.life⟩
def cutS (s : Shared) (n : Nat) : Shared := { s with heap := cutH s.heap n }
/-- a generator that a call has made: n0: the heap's size at the call; a, oa: its object -/
structure GCx where
  P : Program
  w : World
  K : PySem.W.Frag
  mg : Str → Option Value
  base : Heap
  N : List Str
  ps : List Str
  qual : Str
  scope : Scope
  f : Addr
  cdv : Value
  outer : List Env
  n0 : Nat
  a : Addr
  oa : Obj
  lv : Nat
abbrev gXE (P : Program) (w : World) (K : PySem.W.Frag) (mg : Str → Option Value) (base : Heap) (N : List Str) (qual : Str) (scope : Scope) (f : Addr) (cdv : Value) (A : Around) (outer : List Env) (s : Shared) (H : Hp) : Cx :=
  { cxOf (L2.CX P w) P w K mg base N qual scope f cdv A outer s H (fun _ _ _ => False) with xe := fun _ _ => False }
/-- its context, where it is woken at s, H -/
abbrev GCx.X (G : GCx) (A : Around) (s : Shared) (H : Hp) : Cx := gXE G.P G.w G.K G.mg G.base G.N G.qual G.scope G.f G.cdv A G.outer (cutS s G.n0) H
abbrev GCx.env (G : GCx) : Env := envOfC G.qual G.scope G.n0 G.f G.cdv
abbrev GCx.pin (G : GCx) : List (Addr × Obj) := [(G.a, G.oa)]
/-- what is always so -/
structure GCx.Ok (G : GCx) : Prop where
  sc : GScope G.N G.ps G.scope
  nc : ∀ y ∈ G.scope.names, y.2 ≠ .cell
  bs : G.base.objs.size ≤ G.n0
  fr : ∀ b ∈ frs G.outer, b < G.n0
  an : G.n0 < G.a
  oc : ∀ v, G.oa.data ≠ .cell v
def GLoc (G : GCx) (σ : L2.St) (h : Heap) : Prop := ∃ m, h.Ns G.n0 m ∧ ∀ (i : Nat) (x : Str) (v : V), G.N[i]? = some x → σ[i]? = some (some v) → Vis G.scope x → ∃ u, RelV v u ∧ G.scope.names.lookup x = some .local ∧ m x = some u
section
variable {G : GCx} {A : Around} {s s1 : Shared} {H H1 : Hp} {σ : L2.St}
theorem GLoc.keep {h h' : Heap} (l : GLoc G σ h) (k : ∀ o, h.get? G.n0 = some o → h'.get? G.n0 = some o) : GLoc G σ h' := by
  obtain ⟨m, ⟨o, es, ep, ho, r⟩, q⟩ := l
  exact ⟨m, ⟨o, es, ep, k o ho, r⟩, q⟩
end
/-- a generator at the data level: where it stands, its names, the store; what it hands out -/
abbrev GT := Nat → Lc → S → Option (D × Nat × Lc × S)
def TPost (G : GCx) (rec : Nat → Lc → L2.St → GenState → Prop) (A : Around) (s0 : Shared) (H0 : Hp) (mu0 : Mu) (r : Option (D × Nat × Lc × S)) (e : End) (s1 : Shared) : Prop := match r with
  | some (d, ph, L, sD) => ∃ v gd l k c p fs, e = .susp v gd l k c p fs ∧ e.quiet = true ∧ ∃ mu H σ x, Ge mu0 H0 mu H ∧ Sim G.K mu sD H ∧ LR G.K mu H L σ ∧ RelD G.K mu H d x ∧ RelV x v ∧ Inv (G.X A s0 H0) G.pin σ H s1 ∧ rec ph L σ e.genState
  | none => False
/-- it sleeps (or has not begun): woken n times it does as tn says -/
def Slp (G : GCx) (tn : GT) : Nat → Nat → Lc → L2.St → GenState → Prop
  | 0, _, _, _, _ => True
  | n + 1, ph, L, σ, gs => gs.bare = true ∧ ∀ (A : Around) (s s' : Shared) (H : Hp) (mu : Mu) (sD : S), Room (G.lv + 1) A → G.n0 ≤ s.heap.objs.size → Inv (G.X A s H) G.pin σ H s → s'.heap = s.heap → s'.os = s.os → AllBare s'.gens → Sim G.K mu sD H → LR G.K mu H L σ → tn ph L sD ≠ none →
      GoG (model G.P G.w) A gs s' (TPost G (Slp G tn n) A s H mu (tn ph L sD))
/-! ### for ever -/
def gLp (u : FS) (fe : F D) (L : Lc) (s : S) : Option (D × Nat × Lc × S) := match u L s with
  | .nx L1 s1 => match fe L1 s1 with
    | .ok d s2 => some (d, 1, L1, s2)
    | _ => none
  | _ => none
/-- pre; while True: u; yield e; v -/
def genA (pre u : FS) (fe : F D) (v : FS) : GT := fun ph L s => match (if ph = 0 then pre L s else v L s) with
  | .nx L1 s1 => gLp u fe L1 s1
  | _ => none
abbrev W0 : WX := fun _ _ _ _ => False
structure GBody (G : GCx) (pre : List Stmt) (test : Expr) (u : List Stmt) (e : Expr) (v : List Stmt) (dp du : FS) (de : F D) (dv : FS) : Prop where
  pre : ∀ A s H, Room G.lv (A.deeper (G.X A s H).env) → PSs (G.X A s H) pre (tS G.K W0 dp)
  tst : ∀ A s H, Room G.lv (A.deeper (G.X A s H).env) → PT (G.X A s H) test (tT G.K W0 fun _ s => .ok true s)
  u : ∀ A s H, Room G.lv (A.deeper (G.X A s H).env) → PSs (G.X A s H) u (tS G.K W0 du)
  e : ∀ A s H, Room G.lv (A.deeper (G.X A s H).env) → PE (G.X A s H) e (tE G.K W0 de)
  v : ∀ A s H, Room G.lv (A.deeper (G.X A s H).env) → PSs (G.X A s H) v (tS G.K W0 dv)
section
variable {G : GCx} {A : Around} {s0 : Shared} {H0 : Hp}
end
end SI

namespace SI
open PySem PySem.Spec PyProof.Rows L2 GenW
open Sem (wp)
section
variable {G : GCx} {pre u v : List Stmt} {test e : Expr} {yp p1 p2 : Pos} {dp du dv : FS} {de : F D}
end
end SI

/-! for .. in f(..): where f is a generator def -/
namespace SI
open PySem PySem.Spec PyProof.Rows L2 GenW
open Sem (wp)
theorem Lamed.bare {T : Nat → Option GenState} {G L : Array GenState} (h : Lamed T G L) (hb : AllBare L) : AllBare G := fun y hy => by
  obtain ⟨i, hi, e⟩ := Array.mem_iff_getElem.mp hy
  have e' : G[i]? = some y := by rw [Array.getElem?_eq_getElem hi, e]
  cases ht : T i with
  | none =>
    rw [h.eq i ht] at e'
    exact hb y (Array.mem_of_getElem? e')
  | some x =>
    obtain ⟨_, h1, h2⟩ := h.sl i x ht
    rw [e'] at h1
    cases h1
    have := hb _ (Array.mem_of_getElem? h2)
    rwa [lame_bare] at this
/-! ### the data level -/
def forG (tn : GT) (q : Tg) (body : FS) : Nat → Nat → Lc → Lc → S → RS
  | 0, _, _, _, _ => .bad
  | n + 1, ph, Lg, L, s => match tn ph Lg s with
    | some (d, ph', Lg', s1) => match q d L with
      | none => .bad
      | some L1 => match body L1 s1 with
        | .nx L2 s2 => forG tn q body n ph' Lg' L2 s2
        | .ct L2 s2 => forG tn q body n ph' Lg' L2 s2
        | .bk L2 s2 => .nx L2 s2
        | x => x
    | none => .bad
def sForG (N k n : Nat) (tn : GT) (fa : F (List D)) (q : Tg) (body : FS) : FS := fun L s => (fa L s).bindS L fun ds s1 => if ds.length = k then forG tn q body n 0 (startD N ds) L s1 else .bad
/-- a generator def -/
structure GenOk (P : Program) (w : World) (K : PySem.W.Frag) (mg : Str → Option Value) (base : Heap) (lv : Nat) (f : Addr) (fd : FuncData) (N ps : List Str) (tn : GT) : Prop where
  ex : ∃ (oc : Value) (od : Option Addr) (name qual : Str) (params : Arguments) (body : List Stmt) (scope : Scope) (dV kV doc pm : Value) (an : Option Addr) (cdv ct : Value) (osl : Array (Option Value)),
    fd = PySem.W.fnOf name qual params body scope dV kV doc pm an cdv ct ∧ K.lookup f = some ⟨oc, od, .func fd, osl⟩ ∧ PySem.W.codeIn K cdv qual = true ∧ GScope N ps scope ∧ (∀ y ∈ scope.names, y.2 ≠ .cell) ∧
    ∀ (outer : List Env) (n0 : Nat) (a : Addr) (oa : Obj) (n : Nat) (L : Lc) (σ : L2.St), Slp ⟨P, w, K, mg, base, N, ps, qual, scope, f, cdv, outer, n0, a, oa, lv⟩ tn n 0 L σ (.fresh (.func body (envOfC qual scope n0 f cdv)))
theorem GoG.up {M : Model} {A : Around} {gs : GenState} {s : Shared} {Φ Φ' : End → Shared → Prop} (h : GoG M A gs s Φ) (w : ∀ e s1, s.gens.size ≤ s1.gens.size → Φ e s1 → Φ' e s1) : GoG M A gs s Φ' := by
  cases gs with
  | fresh c =>
    intro Γ p hc hΓ
    obtain ⟨e, s1, hr, hf⟩ := h Γ p hc hΓ
    exact ⟨e, s1, hr, w e s1 (runs_gsz hr) hf⟩
  | suspended k l c p fs cl =>
    intro Γ p hc hΓ
    obtain ⟨e, s1, hr, hf⟩ := h Γ p hc hΓ
    exact ⟨e, s1, hr, w e s1 (runs_gsz hr) hf⟩
  | running => exact h
  | finished => exact h
section
variable {X : Cx} {pins : List (Addr × Obj)} {σ : L2.St} {H H4 : Hp} {s s1 : Shared} {G : GCx} {A : Around} {σg : L2.St}
/-- older than the generator -/
structure Older (X : Cx) (pins : List (Addr × Obj)) (n0 : Nat) : Prop where
  pn : ∀ p ∈ X.pn ++ pins, p.1 < n0
  cl : ∀ x c, X.env.cells.lookup x = some c → c < n0
  lo : X.env.locals < n0
  s0 : X.s_0.heap.objs.size ≤ n0
end
end SI

namespace SI
open PySem PySem.Spec PyProof.Rows L2 GenW
open Sem (wp)
section
variable {X : Cx} {W : WX} {pins : List (Addr × Obj)} {tg : Expr} {body : List Stmt} {q : Tg} {ub : FS} {G : GCx} {g : Nat} {tn : GT} {D0 : Ends}
end
end SI
namespace SI
open PySem PySem.Spec PyProof.Rows L2 GenW
section
variable {X : Cx} {W : WX} {tg e : Expr} {es : List Expr} {body : List Stmt} {q : Tg} {ub : FS} {tn : GT} {fa : F (List D)} {x : Str} {fA : Addr} {fd : FuncData} {N ps : List Str} {k : Nat} {p pos pos' : Pos}
end
end SI

/-! a generator def from the parts of its text -/
namespace SI
open PySem PySem.Spec PyProof.Rows L2 GenW
end SI

/-! tracked dicts whose keys are tuples of ints -/
namespace SI
open PySem PySem.Spec PyProof.Rows L2
def keyT : D → Option (List Int)
  | .tup xs => intsOf xs
  | _ => none
section
variable {α : Type}
def lkL : List (List Int) → List α → List Int → Option α
  | k :: ks, v :: vs, k' => if k = k' then some v else lkL ks vs k'
  | _, _, _ => none
/-- in its place, or at the end -/
def ptL : List (List Int) → List α → List Int → α → List α
  | k :: ks, v :: vs, k', d => if k = k' then d :: vs else v :: ptL ks vs k' d
  | _, _, _, d => [d]
/-- the old one stays -/
def ptO : List (List Int) → List α → List Int → α → List α
  | k :: ks, v :: vs, k', d => if k = k' then v :: vs else v :: ptO ks vs k' d
  | _, _, _, d => [d]
end
def ptK (ks : List (List Int)) (k : List Int) : List (List Int) := ptO ks ks k k
theorem ptK_eq (k : List Int) : ∀ ks, ptK ks k = if k ∈ ks then ks else ks ++ [k]
  | [] => rfl
  | k1 :: ks => by
    have ih := ptK_eq k ks
    unfold ptK at ih ⊢
    rw [ptO]
    by_cases e : k1 = k
    · rw [if_pos e, if_pos (by rw [e]; exact .head _)]
    · rw [if_neg e, ih]
      by_cases h : k ∈ ks
      · rw [if_pos h, if_pos (.tail _ h)]
      · rw [if_neg h, if_neg (fun z => by
          rcases List.mem_cons.mp z with z | z
          · exact e z.symm
          · exact h z)]
        rfl
theorem ptK_nodup {ks : List (List Int)} (k : List Int) (h : ks.Nodup) : (ptK ks k).Nodup := by
  rw [ptK_eq]
  split
  · exact h
  · rename_i hk
    exact List.nodup_append.mpr ⟨h, by simp, fun a ha b hb z => hk (by rw [← List.mem_singleton.mp hb, ← z]; exact ha)⟩
theorem ptK_len (ks : List (List Int)) (k : List Int) : (ptK ks k).length ≤ ks.length + 1 := by
  rw [ptK_eq]
  split <;> simp
section
variable {α β : Type}
theorem ptL_len (k : List Int) (x : α) : ∀ {ks : List (List Int)} {xs : List α}, ks.length = xs.length → (ptK ks k).length = (ptL ks xs k x).length
  | [], [], _ => rfl
  | [], _ :: _, h => by simp at h
  | _ :: _, [], h => by simp at h
  | k1 :: ks, y :: ys, h => by
    have ih := ptL_len k x (ks := ks) (xs := ys) (by simpa using h)
    unfold ptK at ih ⊢
    rw [ptO, ptL]
    split
    · simpa using h
    · simp [ih]
theorem ptO_len (k : List Int) (x : α) : ∀ {ks : List (List Int)} {xs : List α}, ks.length = xs.length → (ptK ks k).length = (ptO ks xs k x).length
  | [], [], _ => rfl
  | [], _ :: _, h => by simp at h
  | _ :: _, [], h => by simp at h
  | k1 :: ks, y :: ys, h => by
    have ih := ptO_len k x (ks := ks) (xs := ys) (by simpa using h)
    unfold ptK at ih ⊢
    rw [ptO, ptO]
    split
    · simpa using h
    · simp [ih]
theorem pair_ptL {F : α → β → Prop} (k : List Int) {x : α} {y : β} (hxy : F x y) : ∀ {ks : List (List Int)} {xs : List α} {ys : List β}, Paired F xs ys → Paired F (ptL ks xs k x) (ptL ks ys k y)
  | [], _, _, _ => .cons hxy .nil
  | _ :: _, _, _, .nil => .cons hxy .nil
  | k1 :: ks, _, _, .cons h t => by
    rw [ptL, ptL]
    split
    · exact .cons hxy t
    · exact .cons h (pair_ptL k hxy t)
theorem keys_put {F : List Int → β → Prop} {k : List Int} {y : β} (hxy : F k y) : ∀ {ks : List (List Int)} {ys : List β}, Paired F ks ys → Paired F (ptK ks k) (ptO ks ys k y)
  | [], _, .nil => .cons hxy .nil
  | k1 :: ks, _, .cons h t => by
    have ih := keys_put hxy t
    unfold ptK at ih ⊢
    rw [ptO, ptO]
    split
    · exact .cons h t
    · exact .cons h ih
end
theorem rels_ptL {K : PySem.W.Frag} {mu : Mu} {H : Hp} (k : List Int) {d : D} {w : V} (r : RelD K mu H d w) : ∀ {ks : List (List Int)} {ds : List D} {vs : List V}, RelDs K mu H ds vs → RelDs K mu H (ptL ks ds k d) (ptL ks vs k w)
  | [], _, _, _ => .cons r .nil
  | _ :: _, [], vs, h => by
    simp only [RelDs] at h
    subst h
    exact .cons r .nil
  | k1 :: ks, d1 :: ds, vs, h => by
    simp only [RelDs] at h
    obtain ⟨v, vr, rfl, h1, h2⟩ := h
    rw [ptL, ptL]
    split
    · exact .cons r h2
    · exact .cons h1 (rels_ptL k r h2)
theorem rels_lkL {K : PySem.W.Frag} {mu : Mu} {H : Hp} (k : List Int) : ∀ {ks : List (List Int)} {ds : List D} {vs : List V}, ks.length = vs.length → RelDs K mu H ds vs →
    (∀ d, lkL ks ds k = some d → ∃ w, lkL ks vs k = some w ∧ RelD K mu H d w) ∧ (lkL ks ds k = none → lkL ks vs k = none)
  | [], _, _, _, _ => ⟨fun d e => by simp [lkL] at e, fun _ => by simp [lkL]⟩
  | k1 :: ks, [], vs, hl, h => by
    simp only [RelDs] at h
    subst h
    simp at hl
  | k1 :: ks, d1 :: ds, vs, hl, h => by
    simp only [RelDs] at h
    obtain ⟨v, vr, rfl, h1, h2⟩ := h
    have ih := rels_lkL k (ks := ks) (by simpa using hl) h2
    simp only [lkL]
    split
    · exact ⟨fun d e => by cases e; exact ⟨v, rfl, h1⟩, fun e => by cases e⟩
    · exact ih
/-! the heap -/
theorem at_xs (k : List Int) : ∀ {ks : List (List Int)} {bs : List Addr} {us : List Value}, ks.length = bs.length → ks.length = us.length → (atKey (xsOf ks bs us) k).map (·.2) = lkL ks us k
  | [], _, _, _, _ => by simp [xsOf, atKey, lkL]
  | _ :: _, [], _, h, _ => by simp at h
  | _ :: _, _ :: _, [], _, h => by simp at h
  | k1 :: ks, b :: bs, u :: us, h1, h2 => by
    have ih := at_xs k (ks := ks) (bs := bs) (us := us) (by simpa using h1) (by simpa using h2)
    unfold xsOf atKey at ih ⊢
    rw [List.zip_cons_cons, List.zip_cons_cons, lkL]
    by_cases e : k1 = k
    · rw [if_pos e, List.find?_cons_of_pos (by simp [e])]
      rfl
    · rw [if_neg e, List.find?_cons_of_neg (by simp [e])]
      exact ih
theorem xs_keys : ∀ {ks : List (List Int)} {bs : List Addr} {us : List Value}, ks.length = bs.length → ks.length = us.length → (xsOf ks bs us).map (·.1) = ks
  | [], _, _, _, _ => by simp [xsOf]
  | _ :: _, [], _, h, _ => by simp at h
  | _ :: _, _ :: _, [], _, h => by simp at h
  | k1 :: ks, b :: bs, u :: us, h1, h2 => by
    have ih := xs_keys (ks := ks) (bs := bs) (us := us) (by simpa using h1) (by simpa using h2)
    unfold xsOf at ih ⊢
    rw [List.zip_cons_cons, List.zip_cons_cons, List.map_cons, ih]
theorem stored_xs {k : List Int} {b : Addr} {u : Value} : ∀ {ks : List (List Int)} {bs : List Addr} {us : List Value}, ks.Nodup → ks.length = bs.length → ks.length = us.length → storedH (xsOf ks bs us) k b u = xsOf (ptK ks k) (ptO ks bs k b) (ptL ks us k u)
  | [], _, _, _, _, _ => by simp [xsOf, storedH, atKey, ptK, ptO, ptL]
  | _ :: _, [], _, _, h, _ => by simp at h
  | _ :: _, _ :: _, [], _, _, h => by simp at h
  | k1 :: ks, b1 :: bs, u1 :: us, hn, h1, h2 => by
    have hn' := List.nodup_cons.mp hn
    have ih := stored_xs (k := k) (b := b) (u := u) (ks := ks) (bs := bs) (us := us) hn'.2 (by simpa using h1) (by simpa using h2)
    have hx : xsOf (k1 :: ks) (b1 :: bs) (u1 :: us) = (k1, b1, u1) :: xsOf ks bs us := rfl
    have hk := xs_keys (ks := ks) (bs := bs) (us := us) (by simpa using h1) (by simpa using h2)
    by_cases e : k1 = k
    · subst e
      have hp : xsOf (ptK (k1 :: ks) k1) (ptO (k1 :: ks) (b1 :: bs) k1 b) (ptL (k1 :: ks) (u1 :: us) k1 u) = (k1, b1, u) :: xsOf ks bs us := by
        simp only [ptK, ptO, ptL, if_true]
        rfl
      rw [hp, hx]
      unfold storedH
      rw [if_pos (by simp [atKey])]
      simp only [List.map_cons, putAt, if_true, List.cons.injEq, true_and]
      rw [List.map_congr_left (g := id) fun x hx => by
        have : ¬ x.1 = k1 := fun z => hn'.1 (by rw [← z, ← hk]; exact List.mem_map.mpr ⟨x, hx, rfl⟩)
        simp [putAt, this]]
      simp
    · have hp : xsOf (ptK (k1 :: ks) k) (ptO (k1 :: ks) (b1 :: bs) k b) (ptL (k1 :: ks) (u1 :: us) k u) = (k1, b1, u1) :: xsOf (ptK ks k) (ptO ks bs k b) (ptL ks us k u) := by
        simp only [ptK, ptO, ptL, if_neg e]
        rfl
      rw [hp, ← ih, hx]
      have ha : atKey ((k1, b1, u1) :: xsOf ks bs us) k = atKey (xsOf ks bs us) k := by
        unfold atKey
        rw [List.find?_cons_of_neg (by simp [e])]
      unfold storedH
      rw [ha]
      split
      · rw [List.map_cons, putAt, if_neg e]
      · rfl
/-- the tuple of ints k stands at b -/
def KeyB (K : PySem.W.Frag) (H : Hp) (k : List Int) (b : Addr) : Prop := KTup K b (k.map V.int) ∨ H b = some (.tup (k.map V.int))
section
variable {X : Cx} {pins : List (Addr × Obj)} {σ : List (Option V)} {H : Hp} {s : Shared} {a b : Addr} {ks : List (List Int)} {k : List Int} {bs : List Addr} {vs : List V} {v : V} {r : Value} {A : Around} {E : Value → Shared → Prop}
theorem items_int {P : Program} {w : World} : ∀ {k : List Int} {us : List Value}, Vals (k.map V.int) us → ItemsAre (PySem.intKind P w) k us
  | [], _, r => by
    rw [List.map_nil] at r
    cases r
    exact .nil
  | i :: k, _, r => by
    rw [List.map_cons] at r
    cases r with
    | cons h t =>
      refine .cons ?_ (items_int t)
      obtain ⟨tk, rfl⟩ := (show ∃ t, _ = Value.int i t from h)
      simp [PySem.intKind, Value.isInt]
theorem key_isB (I : Inv X pins σ H s) (e : KeyB X.K H k b) : (tupleKind (PySem.intKind X.prog X.w)).is s.heap k b := by
  rcases e with ⟨o, its, n, e1, e2, e3, e4, e5⟩ | e
  · exact ⟨o, its, n, I.kIn b o e1, e2, e3, items_int e5⟩
  · obtain ⟨_, its, rv, o, h1, h2, n, h3⟩ := (show ObjOk X.prog X.w H s.heap b (.tup (k.map V.int)) from I.hok b _ e)
    exact ⟨o, its.toArray, n, h1, h2, h3, items_int (by simpa using rv)⟩
theorem keys_is (I : Inv X pins σ H s) : ∀ {ks : List (List Int)} {bs : List Addr} {us : List Value}, Paired (KeyB X.K H) ks bs → ∀ x ∈ xsOf ks bs us, (tupleKind (PySem.intKind X.prog X.w)).is s.heap x.1 x.2.1
  | _, _, _, .nil, x, hx => by simp [xsOf] at hx
  | _, _, [], .cons h t, x, hx => by simp [xsOf] at hx
  | k :: ks, b :: bs, u :: us, .cons h t, x, hx => by
    rcases List.mem_cons.mp (show x ∈ (k, b, u) :: xsOf ks bs us from hx) with e | hx
    · subst e
      exact key_isB I h
    · exact keys_is I t x hx
theorem dtH_at (I : Inv X pins σ H s) (e : H a = some (dtH a ks bs vs)) (kk : Paired (KeyB X.K H) ks bs) : ∃ us, Vals vs us ∧ ks.length = bs.length ∧ ks.length = us.length ∧ ks.Nodup ∧ ks.length ≤ sizeLine ∧ (a == sysModules) = false ∧
    s.heap.DictOfH (tupleKind (PySem.intKind X.prog X.w)) a (xsOf ks bs us) := by
  obtain ⟨⟨us, h1, h2, h3, h4, h5, h6, o, es, ep, g1, g2, g3, g4⟩, _⟩ := (show ObjOk X.prog X.w H s.heap a (dtH a ks bs vs) from I.hok a _ e)
  exact ⟨us, h1, h2, h3, h4, h5, h6, o, es, ep, g1, g2, g3, g4 _ _, keys_is I kk, by rw [xs_keys h2 h3]; exact h4⟩
theorem vals_lk {k : List Int} : ∀ {ks : List (List Int)} {vs : List V} {us : List Value}, Vals vs us → RelO (lkL ks vs k) (lkL ks us k)
  | [], _, _, _ => by simp only [lkL]; exact True.intro
  | _ :: _, _, _, .nil => by simp only [lkL]; exact True.intro
  | k1 :: ks, _, _, .cons h t => by
    simp only [lkL]
    split
    · exact h
    · exact vals_lk t
theorem dt_getItem {Q : Value → Shared → Prop} (hu : A.units + 1 < cLine) (I : Inv X pins σ H s) (e : H a = some (dtH a ks bs vs)) (kk : Paired (KeyB X.K H) ks bs) (eb : KeyB X.K H k b) (hv : lkL ks vs k = some v) (h : ∀ w' s', Inv X pins σ H s' → RelV v w' → Q w' s') :
    wpAny (model X.prog X.w) A (getItem (.ref a) (.ref b)) Q E s := by
  obtain ⟨us, h1, h2, h3, _, _, _, dd⟩ := dtH_at I e kk
  have z := vals_lk (k := k) (ks := ks) h1
  rw [hv, ← at_xs k h2 h3] at z
  obtain ⟨w', hw, rw'⟩ := RelO.some_of z
  obtain ⟨p, hp, hp2⟩ := Option.map_eq_some_iff.mp hw
  refine wpAny_getItem_heap (tupleKind_room_in1 hu) (key_isB I eb) dd hp ?_
  rw [hp2]
  exact h w' _ (I.tok _) rw'
theorem lk_some (I : Inv X pins σ H s) {us : List Value} (h1 : Vals vs us) (h2 : ks.length = bs.length) (h3 : ks.length = us.length) : (atKey (xsOf ks bs us) k).isSome = (lkL ks vs k).isSome := by
  have z := (vals_lk (k := k) (ks := ks) h1).isSome_eq
  rw [← at_xs k h2 h3, Option.isSome_map] at z
  exact z.symm
theorem dt_isNot {Q : Value → Shared → Prop} (hu : A.units + 1 < cLine) (I : Inv X pins σ H s) (e : H a = some (dtH a ks bs vs)) (kk : Paired (KeyB X.K H) ks bs) (eb : KeyB X.K H k b) (h : ∀ s', Inv X pins σ H s' → Q (.bool (!(lkL ks vs k).isSome)) s') :
    wpAny (model X.prog X.w) A (compareOp .NotIn (.ref b) (.ref a)) Q E s := by
  obtain ⟨us, h1, h2, h3, _, _, hd, dd⟩ := dtH_at I e kk
  refine wpAny_notIn_heap (tupleKind_room_in1 hu) (key_isB I eb) hd dd ?_
  rw [lk_some I h1 h2 h3]
  exact h _ (I.tok _)
theorem ext_ok {h : Heap} {us : List Value} {P : Program} {w : World} (h1 : Vals vs us) (h2 : ks.length = bs.length) (h3 : ks.length = us.length) (h4 : ks.Nodup) (h5 : ks.length ≤ sizeLine) (h6 : (a == sysModules) = false)
    (hd : ∃ o es ep, h.get? a = some o ∧ o.ExactDict ∧ o.data = .dict es ep ∧ ∀ (P : Program) (w : World), es.toList = (xsOf ks bs us).map (entryOfKey (tupleKind (PySem.intKind P w)))) : ObjOk P w H h a (dtH a ks bs vs) := by
  refine ⟨⟨us, h1, h2, h3, h4, h5, h6, hd⟩, let ⟨o, _, _, e, _⟩ := hd; ⟨o, e⟩, ?_⟩
  rintro g1 g2 ⟨us, h1, h2, h3, h4, h5, h6, o, es, ep, e1, e2⟩ k
  exact ⟨us, h1, h2, h3, h4, h5, h6, o, es, ep, k _ e1, e2⟩
theorem dt_set {Q : Unit → Shared → Prop} (hu : A.units + 1 < cLine) (I : Inv X pins σ H s) (e : H a = some (dtH a ks bs vs)) (kk : Paired (KeyB X.K H) ks bs) (eb : KeyB X.K H k b) (hl : ks.length < sizeLine) (rv : RelV v r)
    (h : ∀ s', Inv X pins σ (upd H a (dtH a (ptK ks k) (ptO ks bs k b) (ptL ks vs k v))) s' → Q () s') : wpAny (model X.prog X.w) A (setItem (.ref a) (.ref b) r) Q E s := by
  obtain ⟨us, h1, h2, h3, h4, h5, hd, dd⟩ := dtH_at I e kk
  have hx := xs_keys h2 h3
  have hz : (xsOf ks bs us).length ≤ sizeLine := by
    rw [← List.length_map (f := (·.1)), hx]
    exact h5
  refine wpAny_setItem_heap (hsz := hz) (tupleKind_room_in1 hu) (key_isB I eb) dd fun h' dd' hs => h _ ?_
  rw [stored_xs h4 h2 h3] at dd'
  obtain ⟨o, es, ep, g1, g2, g3, g4, _, _⟩ := dd'
  refine d_write I (by rw [e]; exact True.intro) hs ⟨o, g1⟩ (ext_ok (pair_ptL k rv h1) ?_ ?_ (ptK_nodup k h4) ?_ hd ⟨o, es, ep, g1, g2, g3, fun P w => g4⟩)
  · exact ptO_len k b h2
  · exact ptL_len k r h3
  · have := ptK_len ks k
    omega
end
def rTIx (K : PySem.W.Frag) : R2 := fun x y H Q => ∃ a b ks bs vs k v, x = .ref a ∧ y = .ref b ∧ H a = some (dtH a ks bs vs) ∧ Paired (KeyB K H) ks bs ∧ KeyB K H k b ∧ lkL ks vs k = some v ∧ Q v H
def rTIn (K : PySem.W.Frag) (neg : Bool) : R2 := fun y x H Q => ∃ a b ks bs vs k, x = .ref a ∧ y = .ref b ∧ H a = some (dtH a ks bs vs) ∧ Paired (KeyB K H) ks bs ∧ KeyB K H k b ∧ Q (.bl (if neg = true then !(lkL ks vs k).isSome else (lkL ks vs k).isSome)) H
def sTPut (K : PySem.W.Frag) (td ty tv : TE) : TS := fun D σ H => tv σ H fun v H1 => td σ H1 fun x H2 => ty σ H2 fun y H3 => ∃ a b ks bs vs k, x = .ref a ∧ y = .ref b ∧ H3 a = some (dtH a ks bs vs) ∧ Paired (KeyB K H3) ks bs ∧ KeyB K H3 k b ∧
  ks.length < sizeLine ∧ D.nx σ (upd H3 a (dtH a (ptK ks k) (ptO ks bs k b) (ptL ks vs k v)))
def tTNew : TE := fun _ H Q => ∀ p, H p = none → Q (.ref p) (upd H p (dtH p [] [] []))
section
variable {X : Cx} {o i e value : Expr} {pos pos' : Pos} {td ty tv : TE}
theorem pe_tget (hu : X.A.units + 1 < cLine) (ho : PE X o td) (hi : PE X i ty) (hs : NoSl i) : PE X (.Subscript o i pos) (tOp (rTIx X.K) td ty) := by
  refine ⟨fun pins s σ H Q I h => ?_⟩
  refine subD_of PySem.F.slot_dict_getitem.lookup hs (thn (ho.run pins s σ H _ I h) fun u s1 ⟨x, H1, I1, rx, q1⟩ => thn (hi.run pins s1 σ H1 _ I1 q1) fun iv s2 ⟨y, H2, I2, ry, a, b, ks, bs, vs, k, v, ex, ey, g1, g2, g3, g4, q2⟩ => ?_)
  subst ex ey
  obtain rfl : u = Value.ref a := rx
  obtain rfl : iv = Value.ref b := ry
  obtain ⟨_, _, _, _, _, _, _, dd⟩ := dtH_at I2 g1 g2
  exact ⟨dd.typeIs, dt_getItem hu I2 g1 g2 g3 g4 fun w' s3 I3 rw' => ⟨v, H2, I3, rw', q2⟩⟩
theorem pc_tnin (hu : X.A.units + 1 < cLine) (hi : PE X i ty) (ho : PE X o td) : PC X .NotIn i o (tOp (rTIn X.K true) ty td) := by
  refine ⟨fun pins s σ H Q I h => ?_⟩
  refine thn (hi.run pins s σ H _ I h) fun iv s1 ⟨y, H1, I1, ry, q1⟩ => thn (ho.run pins s1 σ H1 _ I1 q1) fun u s2 ⟨x, H2, I2, rx, a, b, ks, bs, vs, k, ex, ey, g1, g2, g3, q2⟩ => ?_
  subst ex ey
  obtain rfl : u = Value.ref a := rx
  obtain rfl : iv = Value.ref b := ry
  exact dt_isNot hu I2 g1 g2 g3 fun s3 I3 => ⟨.bl (!(lkL ks vs k).isSome), H2, I3, rfl, q2⟩
theorem ps_tput (hu : X.A.units + 1 < cLine) (ho : PE X o td) (hi : PE X i ty) (hv : PE X value tv) (hs : swapsWith value (some (.Subscript o i pos')) pos.line X.env = pure false) :
    PS X (.Assign [.Subscript o i pos'] value pos) (sTPut X.K td ty tv) := by
  refine ⟨fun pins s σ H D I h => ?_⟩
  refine wpAny_Assign_Subscript (thn (hv.run pins s σ H _ I h) fun r s1 ⟨v, H1, I1, rv, q1⟩ => thn (ho.run pins s1 σ H1 _ I1 q1) fun u s2 ⟨x, H2, I2, rx, q2⟩ => thn (hi.run pins s2 σ H2 _ I2 q2) fun iv s3 ⟨y, H3, I3, ry, a, b, ks, bs, vs, k, ex, ey, g1, g2, g3, g4, q3⟩ => ?_) hs
  subst ex ey
  obtain rfl : u = Value.ref a := rx
  obtain rfl : iv = Value.ref b := ry
  exact dt_set hu I3 g1 g2 g3 g4 rv fun s4 I4 => ⟨σ, _, I4, q3⟩
theorem pe_tnew : PE X (.Dict [] [] pos) tTNew := ⟨fun pins s σ H Q I h => by
  refine wpAny_Dict_empty ⟨.ref s.heap.objs.size, _, I.laid (a := s.heap.objs.size) (o := dtH s.heap.objs.size [] [] []) (t' := s.toks) (fun _ _ q => Heap.get?_push_of_some _ q) (Nat.le_refl _) ?_, rfl, h _ (I.hok.fresh (Nat.le_refl _))⟩
  exact ext_ok (us := []) (P := X.prog) (w := X.w) .nil rfl rfl List.nodup_nil (Nat.zero_le _) (beq_eq_false_iff_ne.mpr (Ne.symm (Nat.ne_of_lt I.big))) ⟨_, #[], 0, Heap.get?_push_size _ rfl, ⟨rfl, rfl, rfl⟩, rfl, fun _ _ => rfl⟩⟩
end
/-! the data -/
def dtOf (s : S) (d : D) : Option (List (List Int) × List D) := match d with
  | .dt ks vs => some (ks, vs)
  | .ref n => match s[n]? with
    | some (.dt ks vs) => some (ks, vs)
    | _ => none
  | _ => none
section
variable {K : PySem.W.Frag} {mu : Mu} {s : S} {H : Hp}
theorem keyT_rel {d : D} {k : List Int} {v : V} (e : keyT d = some k) (r : RelD K mu H d v) : ∃ b, v = .ref b ∧ KeyA K mu H k b := by
  cases d <;> simp only [keyT] at e <;> try cases e
  simp only [RelD] at r
  obtain ⟨b, vs, rfl, h1, h2⟩ := r
  have := ints_rel h2 e
  subst this
  exact ⟨b, rfl, h1⟩
theorem KeyA.b {k : List Int} {b : Addr} (h : KeyA K mu H k b) : KeyB K H k b := h.imp id fun z => z.1
theorem Keys.b {ks : List (List Int)} {bs : List Addr} (h : Keys K mu H ks bs) : Paired (KeyB K H) ks bs := Paired.mapP h fun _ _ z => z.b
theorem Keys.mono {mu' : Mu} {H' : Hp} (g : Ge mu H mu' H') {ks : List (List Int)} {bs : List Addr} (h : Keys K mu H ks bs) : Keys K mu' H' ks bs := Paired.mapP h fun _ _ z => z.imp id g.fix
theorem dt_rel {d : D} {ks : List (List Int)} {ds : List D} {v : V} (m : Sim K mu s H) (e : dtOf s d = some (ks, ds)) (r : RelD K mu H d v) : ∃ a bs vs, v = .ref a ∧ H a = some (dtH a ks bs vs) ∧ Keys K mu H ks bs ∧ ks.length = vs.length ∧ RelDs K mu H ds vs := by
  unfold dtOf at e
  split at e
  · cases e
    simp only [RelD] at r
    obtain ⟨a, bs, vs, rfl, h, kk, l, rr⟩ := r
    exact ⟨a, bs, vs, rfl, h.1, kk, l, rr⟩
  · rename_i n
    split at e
    · rename_i en
      cases e
      simp only [RelD] at r
      obtain ⟨a, ea, ev⟩ := r
      rcases m.obj n _ en with z | ⟨b, eb, rr⟩
      · cases z
      · rw [ea] at eb
        cases eb
        obtain ⟨bs, vs, h1, kk, h2, h3⟩ := rr
        exact ⟨a, bs, vs, ev, h1, kk, h2, h3⟩
    · cases e
  · cases e
end
def dInT (neg : Bool) (s : S) (a b : D) : Option D := match keyT a, dtOf s b with
  | some k, some (ks, vs) => some (.bl (if neg = true then !(lkL ks vs k).isSome else (lkL ks vs k).isSome))
  | _, _ => none
def dIxT (s : S) (a b : D) : Option D := match dtOf s a, keyT b with
  | some (ks, vs), some k => lkL ks vs k
  | _, _ => none
def dPutT (s : S) (a b d : D) : Option S := match a, keyT b with
  | .ref n, some k => match s[n]? with
    | some (.dt ks vs) => if ks.length < big then some (s.set n (.dt (ptK ks k) (ptL ks vs k d))) else none
    | _ => none
  | _, _ => none
theorem opl_inT {K : PySem.W.Frag} (neg : Bool) : OpL K (rTIn K neg) (dInT neg) := by
  intro mu s H a b d x y Q m ra rb e q
  unfold dInT at e
  split at e
  · rename_i k ks vs ek ed
    cases e
    obtain ⟨p, bs, ws, rfl, h1, kk, h2, h3⟩ := dt_rel m ed rb
    obtain ⟨c, rfl, hk⟩ := keyT_rel ek ra
    obtain ⟨v1, v2⟩ := rels_lkL (K := K) (mu := mu) (H := H) k h2 h3
    refine ⟨p, c, ks, bs, ws, k, rfl, rfl, h1, kk.b, hk.b, ?_⟩
    have : (lkL ks ws k).isSome = (lkL ks vs k).isSome := by
      cases el : lkL ks vs k with
      | none => rw [v2 el]; rfl
      | some d =>
        obtain ⟨w, e1, _⟩ := v1 d el
        rw [e1]
        rfl
    rw [this]
    exact q mu H _ (Ge.refl _ _) m (rel_bl.mpr rfl)
  · cases e
theorem opl_ixT {K : PySem.W.Frag} : OpL K (rTIx K) dIxT := by
  intro mu s H a b d x y Q m ra rb e q
  unfold dIxT at e
  split at e
  · rename_i ks vs k ed ek
    obtain ⟨p, bs, ws, rfl, h1, kk, h2, h3⟩ := dt_rel m ed ra
    obtain ⟨c, rfl, hk⟩ := keyT_rel ek rb
    obtain ⟨v1, v2⟩ := rels_lkL (K := K) (mu := mu) (H := H) k h2 h3
    obtain ⟨w, e1, e2⟩ := v1 d e
    exact ⟨p, c, ks, bs, ws, k, w, rfl, rfl, h1, kk.b, hk.b, e1, q mu H _ (Ge.refl _ _) m e2⟩
  · cases e
section
variable {X : Cx} {W : WX} {o i e e2 : Expr} {fo fi f g fx : F D} {pos : Pos} {k : Nat}
theorem pT_tnin (hr : Room k X.A) (hi : PE X i (tE X.K W f)) (ho : PE X o (tE X.K W g)) (h1 : behindInMarks .NotIn o = false := by rfl) : PT X (.Compare i [.NotIn] [o] pos) (tT X.K W (fTst (fOp (dInT true) f g))) :=
  PT.weak (pt_cmp (pc_tnin (by have := hr.un; omega) hi ho) h1) fun σ H Q q => weak_tst σ H Q (fun σ H Q q => weak_op (opl_inT true) σ H Q q) q
theorem pE_tix (hr : Room k X.A) (ho : PE X o (tE X.K W f)) (hi : PE X i (tE X.K W g)) (hs : NoSl i := by exact fun _ _ => rfl) : PE X (.Subscript o i pos) (tE X.K W (fOp dIxT f g)) :=
  PE.weak (pe_tget (by have := hr.un; omega) ho hi hs) fun σ H Q q => weak_op opl_ixT σ H Q q
theorem pS_tput {p1 : Pos} (hr : Room k X.A) (he : PE X e (tE X.K W f)) (ho : PE X o (tE X.K W fo)) (hi : PE X i (tE X.K W fi)) (hs : swapsWith e (some (.Subscript o i p1)) pos.line X.env = pure false := by rfl) :
    PS X (.Assign [.Subscript o i p1] e pos) (tS X.K W (sPut dPutT f fo fi)) := by
  refine PS.weak (ps_tput (by have := hr.un; omega) ho hi he hs) fun D σ H ⟨mu, s, L, m, l, p⟩ => ⟨mu, s, L, m, l, ?_⟩
  refine Post.stepS l p fun d s1 mu1 H1 v1 g1 m1 r1 p1 => ⟨mu1, s1, L, m1, l.mono g1, Post.stepS (l.mono g1) p1 fun a s2 mu2 H2 v2 g2 m2 r2 p2 => ?_⟩
  refine ⟨mu2, s2, L, m2, (l.mono g1).mono g2, Post.stepS ((l.mono g1).mono g2) p2 fun b s3 mu3 H3 v3 g3 m3 r3 p3 => ?_⟩
  cases eo : dPutT s3 a b d with
  | none =>
    rw [eo] at p3
    exact p3.elim
  | some s' =>
    rw [eo] at p3
    unfold dPutT at eo
    split at eo
    · rename_i n kk ek
      split at eo
      · rename_i ks vs en
        split at eo
        · rename_i hc
          cases eo
          have ra := r2.mono g3
          have rd := (r1.mono g2).mono g3
          simp only [RelD] at ra
          obtain ⟨p, ea, rfl⟩ := ra
          rcases m3.obj n _ en with z | ⟨b', eb, rr⟩
          · cases z
          · rw [ea] at eb
            cases eb
            obtain ⟨bs, ws, h1, hk, h2, h3⟩ := rr
            obtain ⟨c, rfl, hkc⟩ := keyT_rel ek r3
            have gp : ∀ u, Ge mu3 H3 mu3 (upd H3 p u) := fun u => Ge.put ea
            refine ⟨p, c, ks, bs, ws, kk, rfl, rfl, h1, hk.b, hkc.b, Nat.lt_of_lt_of_le hc (big_le (Nat.le_refl _)), p3 mu3 σ _ (gp _) (m3.put ea ?_) ((((l.mono g1).mono g2).mono g3).mono (gp _))⟩
            exact ⟨_, _, upd_same, keys_put (hkc.imp id (gp _).fix) (hk.mono (gp _)), ptL_len kk _ h2, (rels_ptL kk rd h3).mono (gp _)⟩
        · cases eo
      · cases eo
    · cases eo
/-- {} that will be changed, its keys tuples of ints -/
def fDictU : F D := fun _ s => .ok (.ref s.length) (s ++ [.dt [] []])
theorem pE_dictU : PE X (.Dict [] [] pos) (tE X.K W fDictU) := by
  refine PE.weak pe_tnew fun σ H Q ⟨mu, s, L, m, l, p⟩ => ?_
  intro d hd
  exact p _ _ _ (Ge.track m hd) (m.track hd ⟨[], [], upd_same, .nil, rfl, .nil⟩) (rel_ref_last m)
end
end SI

/-! max of three ints -/
namespace SI
open PySem PySem.Spec PyProof.Rows L2
section
variable {X : Cx} {W : WX} {e e2 e3 : Expr} {fa : F (List D)} {pos : Pos}
end
end SI

/-! max of six ints -/
namespace SI
open PySem PySem.Spec PyProof.Rows L2
open Sem (wp)
section
variable {prog : Program} {w : World} {A : Around} {E : Value → Shared → Prop} {s : Shared}
end
section
variable {X : Cx} {W : WX} {e e2 e3 e4 e5 e6 : Expr} {fa : F (List D)} {pos : Pos}
end
end SI

/-! in, not in, list.index for data (tuples in a list) -/
namespace SI
open PySem PySem.Spec PyProof.Rows L2
section
variable {X : Cx} {W : WX} {o i e : Expr} {fo f g : F D} {fa : F (List D)} {pos : Pos} {k : Nat}
end
end SI

/-! sorted(xs, key=lambda r: r[0] * FINE // r[1]) of a list of pairs of ints -/
namespace SI
open PySem PySem.Spec PyProof.Rows L2
end SI

/-! for x in reversed(a list that nobody changes) -/
namespace SI
open PySem PySem.Spec PyProof.Rows L2
end SI

/-! *e among the items of a display -/
namespace SI
open PySem PySem.Spec PyProof.Rows L2 StX
variable {X : Cx} {W : WX} {e : Expr} {es : List Expr} {f : F D} {fa : F (List D)} {p : Pos}
end SI

/-! str of an int -/
namespace SI
open PySem PySem.Spec PyProof.Rows L2
section
variable {X : Cx} {W : WX} {e : Expr} {fa : F (List D)} {pos : Pos}
end
end SI

/-! in: a list or tuple of texts -/
namespace SI
open PySem PySem.Spec PyProof.Rows L2
section
variable {X : Cx} {W : WX} {i o : Expr} {f g : F D} {pos : Pos}
end
end SI

/-! texts: split, join, f-strings, int of a text, signs of a text, slices -/
namespace SI
open PySem PySem.Spec PyProof.Rows L2
section
variable {X : Cx} {W : WX} {o e : Expr} {fo fe : F D} {fa : F (List D)} {pos : Pos}
/-! f-strings -/
/-! int of a text -/
/-! one sign in a text -/
section
variable {i : Expr} {f g : F D}
end
/-! the signs of a text, one by one -/
/-! slices of a text -/
end
end SI

/-! *a, b = a list; slices and counts of texts; text += text; repr of an int -/
namespace L2
open PySem PySem.Spec PySem.Calls PyProof.Rows PySem.W
section
variable {X : Cx} {pos : Pos}
end
end L2
namespace SI
open PySem PySem.Spec PyProof.Rows L2
section
variable {X : Cx} {W : WX} {o e : Expr} {fo fe : F D} {fa : F (List D)} {pos : Pos}
/-! slices of a text -/
/-! count of a text -/
/-! text += text -/
/-! repr of an int -/
/-! None in a list or tuple of ints and None -/
section
variable {i : Expr} {f g : F D}
end
/-! text times number: '0' * n -/
end
end SI

/-! dict comprehensions, keys ints or texts: a tracked dict -/
namespace SI
open PySem PySem.Spec PyProof.Rows L2
section
variable {X : Cx} {W : WX} {f : F D} {t : F Bool} {pos : Pos}
/-! xs[::-1] -/
end
end SI

/-! [..] * n that will be changed -/
namespace SI
open PySem PySem.Spec PyProof.Rows L2
section
variable {X : Cx} {W : WX} {a b : Expr} {f g : F D} {pos : Pos}
end
end SI

namespace Pg
open PySem L2 SI
structure Cl where
  Machine : Addr
  Desk : Addr
  Reader : Addr
  TellError : Addr
  InvalidMachine : Addr
  InvalidCount : Addr
  InvalidTime : Addr
  InvalidTurns : Addr
  InvalidRoots : Addr
  InvalidName : Addr
  InvalidNames : Addr
  InvalidPlan : Addr
  InvalidRows : Addr
  InvalidText : Addr
  LimitExceeded : Addr
  NothingLeft : Addr
  cs : List Addr
def G_is_integer (c : Cl) : List D → S → R D := runF 1
  ((sRet (fAndV (fCB (bIsi c.cs) (fCons (fVar 0) (fCons (fC (.ty "int")) fNil))) (fNotV (fCB (bIsi c.cs) (fCons (fVar 0) (fCons (fC (.ty "bool")) fNil)))))))
def G_between (c : Cl) : List D → S → R D := runF 3
  ((sRet (fAndV (fCall 1 (G_is_integer c) (fCons (fVar 0) fNil)) (fChain dLe dLe (fVar 1) (fVar 0) (fVar 2)))))
def G_Machine___init__ (c : Cl) : List D → S → R D := runF 4
  ((sSeq (sIf (fNot (fTst (fCall 3 (G_between c) (fCons (fVar 1) (fCons (fC (.int 0)) (fCons (fC (.int 1000000000)) fNil)))))) (sRaise1 c.InvalidMachine "part" (fCons (fC (.str "o")) fNil)) sNext)
    (sSeq (sIf (fNot (fTst (fCall 3 (G_between c) (fCons (fVar 2) (fCons (fC (.int 0)) (fCons (fC (.int 1000000000)) fNil)))))) (sRaise1 c.InvalidMachine "part" (fCons (fC (.str "l")) fNil)) sNext)
    (sSeq (sIf (fNot (fTst (fCall 3 (G_between c) (fCons (fVar 3) (fCons (fC (.int 1)) (fCons (fC (.int 1000000000)) fNil)))))) (sRaise1 c.InvalidMachine "part" (fCons (fC (.str "g")) fNil)) sNext)
    (sSeq (sIf (fTst (fOp (dEqD false) (fOp dAdd (fOp dMul (fC (.int 2)) (fVar 1)) (fVar 2)) (fC (.int 0)))) (sRaise1 c.InvalidMachine "part" (fCons (fC (.str "letter")) fNil)) sNext)
    (sSeq (sFldT [c.Machine] "o" (fVar 0) (fVar 1))
    (sSeq (sFldT [c.Machine] "l" (fVar 0) (fVar 2))
    (sSeq (sFldT [c.Machine] "g" (fVar 0) (fVar 3))
    (sSeq (sFldT [c.Machine] "letter" (fVar 0) (fOp dAdd (fOp dMul (fC (.int 2)) (fVar 1)) (fVar 2)))
    (sFldT [c.Machine] "gap" (fVar 0) (fCB bMax (fCons (fVar 1) (fCons (fVar 3) fNil)))))))))))))
def G_checked_count (c : Cl) : List D → S → R D := runF 3
  ((sSeq (sIf (fNot (fTst (fCall 3 (G_between c) (fCons (fVar 0) (fCons (fVar 1) (fCons (fVar 2) fNil)))))) (sRaise0 c.InvalidCount) sNext)
    (sRet (fVar 0))))
def G_checked_turns (c : Cl) : List D → S → R D := runF 1
  ((sSeq (sIf (fAnd (fTst (fOp (dIs true) (fVar 0) (fC .non))) (fNot (fTst (fCall 3 (G_between c) (fCons (fVar 0) (fCons (fC (.int 1)) (fCons (fC (.int 1000000000000)) fNil))))))) (sRaise0 c.InvalidTurns) sNext)
    (sRet (fVar 0))))
def G_checked_roots (c : Cl) : List D → S → R D := runF 4
  ((sSeq (sIf (fOr (fNot (fTst (fCB (bIsiT c.cs) (fCons (fVar 0) (fCons (fTup (fCons (fC (.ty "list")) (fCons (fC (.ty "tuple")) fNil))) fNil))))) (fNot (fTst (fChain dLe dLe (fC (.int 1)) (fCB bLen (fCons (fVar 0) fNil)) (fC (.int 6)))))) (sRaise1 c.InvalidRoots "at" (fCons (fNeg (fC (.int 1))) fNil)) sNext)
    (sSeq (sAsg 1 (fC (.int 0)))
    (sSeq (sFor (fEnu (fCons (fVar 0) fNil)) (gTp (gCn (gN 2) (gCn (gN 3) gNl))) (sSeq (sIf (fNot (fTst (fCall 3 (G_between c) (fCons (fVar 3) (fCons (fVar 1) (fCons (fC (.int 1000000000000)) fNil)))))) (sRaise1 c.InvalidRoots "at" (fCons (fVar 2) fNil)) sNext)
    (sAsg 1 (fVar 3))))
    (sRet (fCB bList (fCons (fVar 0) fNil)))))))
def G_choose (c : Cl) : List D → S → R D := runF 4
  ((sSeq (sAsg 1 (fCB bMin (fCons (fVar 1) (fCons (fOp dSub (fVar 0) (fVar 1)) fNil))))
    (sSeq (sAsg 2 (fC (.int 1)))
    (sSeq (sFor (fRng dRng2 (fCons (fC (.int 1)) (fCons (fOp dAdd (fVar 1) (fC (.int 1))) fNil))) (gN 3) (sAsg 2 (fOp dDiv (fOp dMul (fVar 2) (fOp dAdd (fOp dSub (fVar 0) (fVar 1)) (fVar 3))) (fVar 3))))
    (sRet (fVar 2))))))
def G_power (c : Cl) : List D → S → R D := runF 4
  ((sSeq (sAsg 2 (fC (.int 1)))
    (sSeq (sFor (fRng dRng1 (fCons (fVar 1) fNil)) (gN 3) (sAsg 2 (fOp dMul (fVar 2) (fVar 0))))
    (sRet (fVar 2)))))
def G_tuples_up_to (c : Cl) : List D → S → R D := runF 6
  ((sSeq (sIf (fTst (fOp dLt (fVar 1) (fC (.int 0)))) (sRet (fC (.int 0))) sNext)
    (sSeq (sIf (fTst (fOp (dIs false) (fVar 2) (fC .non))) (sRet (fCall 2 (G_choose c) (fCons (fOp dAdd (fVar 1) (fVar 0)) (fCons (fVar 0) fNil)))) sNext)
    (sSeq (sIf (fTst (fOp dGe (fVar 1) (fOp dMul (fVar 0) (fOp dSub (fVar 2) (fC (.int 1)))))) (sRet (fCall 2 (G_power c) (fCons (fVar 2) (fCons (fVar 0) fNil)))) sNext)
    (sSeq (sAsg 3 (fC (.int 0)))
    (sSeq (sFor (fRng dRng1 (fCons (fOp dAdd (fCB bMin (fCons (fVar 0) (fCons (fOp dDiv (fVar 1) (fVar 2)) fNil))) (fC (.int 1))) fNil)) (gN 4) (sSeq (sAsg 5 (fOp dMul (fCall 2 (G_choose c) (fCons (fVar 0) (fCons (fVar 4) fNil))) (fCall 2 (G_choose c) (fCons (fOp dAdd (fOp dSub (fVar 1) (fOp dMul (fVar 4) (fVar 2))) (fVar 0)) (fCons (fVar 0) fNil)))))
    (sIf (fTst (fOp (dEqD false) (fOp dMod (fVar 4) (fC (.int 2))) (fC (.int 1)))) (sAug dSub 3 (fVar 5)) (sAug dAddI 3 (fVar 5)))))
    (sRet (fVar 3))))))))
def G_tuples_of (c : Cl) : List D → S → R D := runF 3
  ((sRet (fOp dSub (fCall 3 (G_tuples_up_to c) (fCons (fVar 0) (fCons (fVar 1) (fCons (fVar 2) fNil)))) (fCall 3 (G_tuples_up_to c) (fCons (fVar 0) (fCons (fOp dSub (fVar 1) (fC (.int 1))) (fCons (fVar 2) fNil)))))))
def G_horizon (c : Cl) : List D → S → R D := runF 2
  ((sSeq (sIf (fTst (fOp (dIs false) (fVar 1) (fC .non))) (sRet (fOp dMul (fC (.int 120)) (fFld [c.Machine] "letter" (fVar 0)))) sNext)
    (sRet (fOp dMul (fC (.int 40)) (fFld [c.Machine] "letter" (fVar 0))))))
def G_known_by (c : Cl) : List D → S → R D := runF 9
  ((sSeq (sAsg 5 (fC (.int 0)))
    (sSeq (sFor (fSrc (fVar 3)) (gN 6) (sFor (fRng dRng1 (fCons (fOp dAdd (fOp dDiv (fOp dSub (fVar 1) (fVar 6)) (fFld [c.Machine] "letter" (fVar 0))) (fC (.int 1))) fNil)) (gN 7) (sSeq (sAsg 8 (fOp dSub (fOp dSub (fVar 1) (fVar 6)) (fOp dMul (fVar 7) (fFld [c.Machine] "letter" (fVar 0)))))
    (sSeq (sAug dAddI 5 (fCall 3 (G_tuples_up_to c) (fCons (fVar 7) (fCons (fOp dDiv (fVar 8) (fFld [c.Machine] "gap" (fVar 0))) (fCons (fVar 2) fNil)))))
    (sIf (fTst (fOp dGt (fVar 5) (fVar 4))) (sRet (fVar 5)) sNext)))))
    (sRet (fVar 5)))))
def G_known_just_at (c : Cl) : List D → S → R D := runF 6
  ((sSeq (sAsg 5 (fOp dSub (fOp dSub (fVar 1) (fVar 3)) (fOp dMul (fVar 4) (fFld [c.Machine] "letter" (fVar 0)))))
    (sSeq (sIf (fOr (fTst (fOp dLt (fVar 5) (fC (.int 0)))) (fTst (fOp (dEqD true) (fOp dMod (fVar 5) (fFld [c.Machine] "gap" (fVar 0))) (fC (.int 0))))) (sRet (fC (.int 0))) sNext)
    (sRet (fCall 3 (G_tuples_of c) (fCons (fVar 4) (fCons (fOp dDiv (fVar 5) (fFld [c.Machine] "gap" (fVar 0))) (fCons (fVar 2) fNil))))))))
def G_first_time (c : Cl) : List D → S → R D := runF 7
  ((sSeq (sAsg 4 (fNeg (fC (.int 1))))
    (sSeq (sAsg 5 (fCall 2 (G_horizon c) (fCons (fVar 0) (fCons (fVar 2) fNil))))
    (sSeq (sIf (fTst (fOp dLt (fCall 5 (G_known_by c) (fCons (fVar 0) (fCons (fVar 5) (fCons (fVar 2) (fCons (fVar 3) (fCons (fOp dSub (fVar 1) (fC (.int 1))) fNil)))))) (fVar 1))) (sRaise1 c.LimitExceeded "limit" (fCons (fC (.str "time")) fNil)) sNext)
    (sSeq (sWhile 100000 (fTst (fOp dGt (fOp dSub (fVar 5) (fVar 4)) (fC (.int 1)))) (sSeq (sAsg 6 (fOp dDiv (fOp dAdd (fVar 4) (fVar 5)) (fC (.int 2))))
    (sIf (fTst (fOp dLt (fCall 5 (G_known_by c) (fCons (fVar 0) (fCons (fVar 6) (fCons (fVar 2) (fCons (fVar 3) (fCons (fOp dSub (fVar 1) (fC (.int 1))) fNil)))))) (fVar 1))) (sAsg 4 (fVar 6)) (sAsg 5 (fVar 6)))))
    (sRet (fVar 5)))))))
def G_wrong_at (c : Cl) : List D → S → R D := runF 5
  ((sSeq (sIf (fOr (fNot (fTst (fCB (bIsi c.cs) (fCons (fVar 0) (fCons (fC (.ty "tuple")) fNil))))) (fNot (fTst (fChain dLe dLe (fC (.int 1)) (fCB bLen (fCons (fVar 0) fNil)) (fC (.int 200)))))) (sRet (fNeg (fC (.int 1)))) sNext)
    (sSeq (sIf (fNot (fTst (fCall 3 (G_between c) (fCons (fOp dIx (fVar 0) (fC (.int 0))) (fCons (fC (.int 0)) (fCons (fOp dSub (fVar 2) (fC (.int 1))) fNil)))))) (sRet (fC (.int 0))) sNext)
    (sSeq (sAsg 3 (fC (.int 1000000000000000)))
    (sSeq (sIf (fTst (fOp (dIs true) (fVar 1) (fC .non))) (sAsg 3 (fCB bMin (fCons (fVar 3) (fCons (fOp dSub (fVar 1) (fC (.int 1))) fNil)))) sNext)
    (sSeq (sFor (fRng dRng2 (fCons (fC (.int 1)) (fCons (fCB bLen (fCons (fVar 0) fNil)) fNil))) (gN 4) (sIf (fNot (fTst (fCall 3 (G_between c) (fCons (fOp dIx (fVar 0) (fVar 4)) (fCons (fC (.int 0)) (fCons (fVar 3) fNil)))))) (sRet (fVar 4)) sNext))
    (sRet (fC .non))))))))
def G_time_of (c : Cl) : List D → S → R D := runF 3
  ((sRet (fOp dAdd (fOp dAdd (fOp dIx (fVar 2) (fOp dIx (fVar 1) (fC (.int 0)))) (fOp dMul (fOp dSub (fCB bLen (fCons (fVar 1) fNil)) (fC (.int 1))) (fFld [c.Machine] "letter" (fVar 0)))) (fOp dMul (fCB bSum (fCons (fSl (fVar 1) (fPt (fC (.int 1))) fNo) fNil)) (fFld [c.Machine] "gap" (fVar 0))))))
def G_below (c : Cl) : List D → S → R D := runF 4
  ((sRet (fOp dSub (fCall 3 (G_tuples_up_to c) (fCons (fOp dSub (fVar 0) (fC (.int 1))) (fCons (fVar 1) (fCons (fVar 3) fNil)))) (fCall 3 (G_tuples_up_to c) (fCons (fOp dSub (fVar 0) (fC (.int 1))) (fCons (fOp dSub (fVar 1) (fVar 2)) (fCons (fVar 3) fNil)))))))
def G_tuple_at (c : Cl) : List D → S → R D := runF 9
  ((sSeq (sAsg 4 (fTup fNil))
    (sSeq (sFor (fRng dRngD (fCons (fVar 0) (fCons (fC (.int 0)) (fCons (fNeg (fC (.int 1))) fNil)))) (gN 5) (sSeq (sAsg 6 (fC (.int 0)))
    (sSeq (sAsg 7 (fOp dAdd (fVar 1) (fC (.int 1))))
    (sSeq (sIf (fTst (fOp (dIs true) (fVar 3) (fC .non))) (sAsg 7 (fCB bMin (fCons (fVar 7) (fCons (fVar 3) fNil)))) sNext)
    (sSeq (sWhile 100000 (fTst (fOp dGt (fOp dSub (fVar 7) (fVar 6)) (fC (.int 1)))) (sSeq (sAsg 8 (fOp dDiv (fOp dAdd (fVar 6) (fVar 7)) (fC (.int 2))))
    (sIf (fTst (fOp dLe (fCall 4 (G_below c) (fCons (fVar 5) (fCons (fVar 1) (fCons (fVar 8) (fCons (fVar 3) fNil))))) (fVar 2))) (sAsg 6 (fVar 8)) (sAsg 7 (fVar 8)))))
    (sSeq (sAug dSub 2 (fCall 4 (G_below c) (fCons (fVar 5) (fCons (fVar 1) (fCons (fVar 6) (fCons (fVar 3) fNil))))))
    (sSeq (sAug dSub 1 (fVar 6))
    (sAsg 4 (fOp dAdd (fVar 4) (fTup (fCons (fVar 6) fNil)))))))))))
    (sRet (fVar 4)))))
def G_name_at (c : Cl) : List D → S → R D := runF 12
  ((sSeq (sExpr (fCall 1 (G_checked_turns c) (fCons (fVar 2) fNil)))
    (sSeq (sAsg 4 (fCall 1 (G_checked_roots c) (fCons (fVar 3) fNil)))
    (sSeq (sExpr (fCall 3 (G_checked_count c) (fCons (fVar 1) (fCons (fC (.int 0)) (fCons (fOp dSub (fOp dPow (fC (.int 10)) (fC (.int 30))) (fC (.int 1))) fNil)))))
    (sSeq (sAsg 5 (fCall 4 (G_first_time c) (fCons (fVar 0) (fCons (fOp dAdd (fVar 1) (fC (.int 1))) (fCons (fVar 2) (fCons (fVar 4) fNil))))))
    (sSeq (sAsg 6 (fOp dSub (fVar 1) (fCall 5 (G_known_by c) (fCons (fVar 0) (fCons (fOp dSub (fVar 5) (fC (.int 1))) (fCons (fVar 2) (fCons (fVar 4) (fCons (fC (.int 10000000000000000000000000000000000000000)) fNil))))))))
    (sSeq (sAsg 7 (fC (.int 0)))
    (sWhile 100000 (fTst (fC (.bl true))) (sSeq (sFor (fEnu (fCons (fVar 4) fNil)) (gTp (gCn (gN 8) (gCn (gN 9) gNl))) (sSeq (sAsg 10 (fCall 5 (G_known_just_at c) (fCons (fVar 0) (fCons (fVar 5) (fCons (fVar 2) (fCons (fVar 9) (fCons (fVar 7) fNil)))))))
    (sSeq (sIf (fTst (fOp dLt (fVar 6) (fVar 10))) (sSeq (sAsg 11 (fOp dDiv (fOp dSub (fOp dSub (fVar 5) (fVar 9)) (fOp dMul (fVar 7) (fFld [c.Machine] "letter" (fVar 0)))) (fFld [c.Machine] "gap" (fVar 0))))
    (sRet (fOp dAdd (fTup (fCons (fVar 8) fNil)) (fCall 4 (G_tuple_at c) (fCons (fVar 7) (fCons (fVar 11) (fCons (fVar 6) (fCons (fVar 2) fNil)))))))) sNext)
    (sAug dSub 6 (fVar 10)))))
    (sAug dAddI 7 (fC (.int 1))))))))))))
def Gt_in_order (c : Cl) : GT := genA
    (sAsg 3 (fLcT (fEnu (fCons (fVar 2) fNil)) (gTp (gCn (gN 8) (gCn (gN 9) gNl))) fYes (fTup (fCons (fVar 9) (fCons (fC (.int 0)) (fCons (fTup (fCons (fVar 8) fNil)) fNil)))) [8, 9]))
    (sSeq (sAsg 4 (fCB bMinK (fCons (fVar 3) fNil)))
    (sExpr (fMth mRemD (fVar 3) (fCons (fVar 4) fNil))))
    (fVar 4)
    (sSeq (sAsgG (gTp (gCn (gN 5) (gCn (gN 6) (gCn (gN 7) gNl)))) (fVar 4))
    (sSeq (sExpr (fApp (fVar 3) (fCons (fTup (fCons (fOp dAdd (fVar 5) (fFld [c.Machine] "letter" (fVar 0))) (fCons (fOp dAdd (fVar 6) (fC (.int 1))) (fCons (fOp dAdd (fVar 7) (fTup (fCons (fC (.int 0)) fNil))) fNil)))) fNil)))
    (sIf (fAnd (fTst (fOp dGt (fVar 6) (fC (.int 0)))) (fOr (fTst (fOp (dIs false) (fVar 1) (fC .non))) (fTst (fOp dLt (fOp dAdd (fOp dIx (fVar 7) (fNeg (fC (.int 1)))) (fC (.int 1))) (fVar 1))))) (sExpr (fApp (fVar 3) (fCons (fTup (fCons (fOp dAdd (fVar 5) (fFld [c.Machine] "gap" (fVar 0))) (fCons (fVar 6) (fCons (fOp dAdd (fSl (fVar 7) fNo (fPt (fNeg (fC (.int 1))))) (fTup (fCons (fOp dAdd (fOp dIx (fVar 7) (fNeg (fC (.int 1)))) (fC (.int 1))) fNil))) fNil)))) fNil))) sNext)))
def G_first_names (c : Cl) : List D → S → R D := pureF (runF 9
  ((sSeq (sExpr (fCall 1 (G_checked_turns c) (fCons (fVar 2) fNil)))
    (sSeq (sAsg 4 (fCall 1 (G_checked_roots c) (fCons (fVar 3) fNil)))
    (sSeq (sExpr (fCall 3 (G_checked_count c) (fCons (fVar 1) (fCons (fC (.int 1)) (fCons (fC (.int 100)) fNil)))))
    (sSeq (sAsg 5 (fLstT fNil))
    (sSeq (sForG 10 3 1001 (Gt_in_order c) (fCons (fVar 0) (fCons (fVar 2) (fCons (fVar 4) fNil))) (gTp (gCn (gN 6) (gCn (gN 7) (gCn (gN 8) gNl)))) (sSeq (sIf (fTst (fOp dGt (fVar 6) (fCall 2 (G_horizon c) (fCons (fVar 0) (fCons (fVar 2) fNil))))) (sRaise1 c.LimitExceeded "limit" (fCons (fC (.str "time")) fNil)) sNext)
    (sSeq (sExpr (fApp (fVar 5) (fCons (fVar 8) fNil)))
    (sIf (fTst (fOp (dEqD false) (fCB bLen (fCons (fVar 5) fNil)) (fVar 1))) sBreak sNext))))
    (sRet (fVar 5)))))))))
def G_start_of (c : Cl) : List D → S → R D := runF 2
  ((sRet (fOp dSub (fCall 3 (G_time_of c) (fCons (fVar 0) (fCons (fVar 1) (fCons (fTup (fCons (fC (.int 0)) fNil)) fNil)))) (fFld [c.Machine] "letter" (fVar 0)))))
def G_checked_names (c : Cl) : List D → S → R D := pureF (runF 4
  ((sSeq (sIf (fOr (fNot (fTst (fCB (bIsiT c.cs) (fCons (fVar 0) (fCons (fTup (fCons (fC (.ty "list")) (fCons (fC (.ty "tuple")) fNil))) fNil))))) (fNot (fTst (fChain dLe dLe (fC (.int 1)) (fCB bLen (fCons (fVar 0) fNil)) (fC (.int 100)))))) (sRaise1 c.InvalidNames "at" (fCons (fNeg (fC (.int 1))) fNil)) sNext)
    (sSeq (sAsg 1 fDictU)
    (sSeq (sFor (fEnu (fCons (fVar 0) fNil)) (gTp (gCn (gN 2) (gCn (gN 3) gNl))) (sSeq (sIf (fOr (fTst (fOp (dIs true) (fCall 3 (G_wrong_at c) (fCons (fVar 3) (fCons (fC .non) (fCons (fC (.int 1)) fNil)))) (fC .non))) (fOr (fTst (fOp (dInT false) (fVar 3) (fVar 1))) (fAnd (fTst (fOp (dEqD false) (fVar 2) (fC (.int 0)))) (fTst (fOp dGt (fCB bLen (fCons (fVar 3) fNil)) (fC (.int 1))))))) (sRaise1 c.InvalidNames "at" (fCons (fVar 2) fNil)) sNext)
    (sPut dPutT (fVar 2) (fVar 1) (fVar 3))))
    (sSeq (sFor (fEnu (fCons (fVar 0) fNil)) (gTp (gCn (gN 2) (gCn (gN 3) gNl))) (sSeq (sIf (fAnd (fTst (fOp dGt (fVar 2) (fC (.int 0)))) (fTst (fOp (dInT true) (fSl (fVar 3) fNo (fPt (fNeg (fC (.int 1))))) (fVar 1)))) (sRaise1 c.InvalidNames "at" (fCons (fVar 2) fNil)) sNext)
    (sIf (fAnd (fTst (fOp dGt (fVar 2) (fC (.int 0)))) (fAnd (fTst (fOp dGt (fOp dIx (fVar 3) (fNeg (fC (.int 1)))) (fC (.int 0)))) (fTst (fOp (dInT true) (fOp dAdd (fSl (fVar 3) fNo (fPt (fNeg (fC (.int 1))))) (fTup (fCons (fOp dSub (fOp dIx (fVar 3) (fNeg (fC (.int 1)))) (fC (.int 1))) fNil))) (fVar 1))))) (sRaise1 c.InvalidNames "at" (fCons (fVar 2) fNil)) sNext)))
    (sRet (fVar 1))))))))
def G_plan_of (c : Cl) : List D → S → R D := pureF (runF 5
  ((sSeq (sAsg 2 (fCall 1 (G_checked_names c) (fCons (fVar 1) fNil)))
    (sSeq (sAsg 3 (fLstT fNil))
    (sSeq (sFor (fRng dRng2 (fCons (fC (.int 1)) (fCons (fCB bLen (fCons (fVar 1) fNil)) fNil))) (gN 4) (sExpr (fApp (fVar 3) (fCons (fTup (fCons (fOp dIxT (fVar 2) (fSl (fOp dIx (fVar 1) (fVar 4)) fNo (fPt (fNeg (fC (.int 1)))))) (fCons (fVar 4) (fCons (fCall 2 (G_start_of c) (fCons (fVar 0) (fCons (fOp dIx (fVar 1) (fVar 4)) fNil))) fNil)))) fNil))))
    (sRet (fVar 3)))))))
def G_best_plan (c : Cl) : List D → S → R D := runF 3
  ((sSeq (sExpr (fCall 1 (G_checked_turns c) (fCons (fVar 2) fNil)))
    (sSeq (sExpr (fCall 3 (G_checked_count c) (fCons (fVar 1) (fCons (fC (.int 1)) (fCons (fC (.int 100)) fNil)))))
    (sRet (fCall 2 (G_plan_of c) (fCons (fVar 0) (fCons (fCallK 2 1 [.p 0, .p 1, .k 0, .d 0] [.tup [.int 0]] (G_first_names c) (fCons (fVar 0) (fCons (fVar 1) fNil)) (fCons (fVar 2) fNil)) fNil)))))))
def G_checked_end (c : Cl) : List D → S → R D := runF 1
  ((sSeq (sIf (fNot (fTst (fCall 3 (G_between c) (fCons (fVar 0) (fCons (fC (.int 0)) (fCons (fC (.int 1000000000000)) fNil)))))) (sRaise0 c.InvalidTime) sNext)
    (sRet (fVar 0))))
def G_first_hands (c : Cl) : List D → S → R D := pureF (runF 8
  ((sSeq (sAsg 2 (fOp dAdd (fFld [c.Machine] "letter" (fVar 0)) (fC (.int 1))))
    (sSeq (sAsg 3 (fCB bMax (fCons (fFld [c.Machine] "g" (fVar 0)) (fCons (fOp dAdd (fFld [c.Machine] "o" (fVar 0)) (fC (.int 1))) fNil))))
    (sSeq (sAsg 4 (fLstT (fCons (fTup (fCons (fC (.int 0)) (fCons (fC (.int 0)) fNil))) fNil)))
    (sSeq (sAsg 5 (fLstT (fCons (fVar 2) fNil)))
    (sSeq (sWhile 100000 (fTst (fOp dLt (fCB bLen (fCons (fVar 4) fNil)) (fVar 1))) (sSeq (sAsg 6 (fCB bMin1 (fCons (fVar 5) fNil)))
    (sSeq (sAsg 7 (fMth mIndex (fVar 5) (fCons (fVar 6) fNil)))
    (sSeq (sPut dPut (fOp dAdd (fVar 6) (fVar 3)) (fVar 5) (fVar 7))
    (sSeq (sExpr (fApp (fVar 4) (fCons (fTup (fCons (fVar 6) (fCons (fVar 7) fNil))) fNil)))
    (sExpr (fApp (fVar 5) (fCons (fOp dAdd (fVar 6) (fVar 2)) fNil))))))))
    (sRet (fVar 4)))))))))
def G_greatest (c : Cl) : List D → S → R D := runF 5
  ((sRet (fOp dAdd (fOp dAdd (fVar 2) (fC (.int 1))) (fCB bSum (fCons (fLc (fSrc (fSl (fCall 2 (G_first_hands c) (fCons (fVar 0) (fCons (fVar 1) fNil))) (fPt (fC (.int 1))) fNo)) (gTp (gCn (gN 3) (gCn (gN 4) gNl))) fYes (fCB bMax (fCons (fC (.int 0)) (fCons (fOp dSub (fOp dSub (fVar 2) (fVar 3)) (fFld [c.Machine] "o" (fVar 0))) fNil))) [3, 4]) fNil)))))
def G_most_summed (c : Cl) : List D → S → R D := runF 3
  ((sSeq (sExpr (fCall 3 (G_checked_count c) (fCons (fVar 1) (fCons (fC (.int 1)) (fCons (fC (.int 40)) fNil)))))
    (sSeq (sExpr (fCall 1 (G_checked_end c) (fCons (fVar 2) fNil)))
    (sRet (fCall 3 (G_greatest c) (fCons (fVar 0) (fCons (fVar 1) (fCons (fVar 2) fNil))))))))
end Pg

namespace Lw
open PySem L2 SI Pg
def OkC (c : Cl) : Prop := c.cs = [c.Machine]
noncomputable def G__law_source (c : Cl) : List D → S → R D := runF 2
  ((sRet (fLstT (fCons (fLc (fSrc (fSl (fVar 0) fNo (fPt (fC (.int 63))))) (gN 1) fYes (fCB bInt (fCons (fVar 1) fNil)) [1]) (fCons (fC (.int 0)) (fCons (fC (.int 0)) (fCons (fC (.int 0)) (fCons (fC (.int 7)) fNil))))))))
noncomputable def G__law_draw (c : Cl) : List D → S → R D := runF 7
  ((sSeq (sAugS dIxL dAddI dPut (fVar 0) (fC (.int 3)) (fC (.int 1)))
    (sSeq (sIf (fAnd (fTst (fOp (dEqD false) (fOp dIx (fVar 0) (fC (.int 2))) (fC (.int 0)))) (fTst (fOp dLt (fOp dIx (fVar 0) (fC (.int 1))) (fCB bLen (fCons (fOp dIx (fVar 0) (fC (.int 0))) fNil))))) (sSeq (sAsg 2 (fOp dIx (fOp dIx (fVar 0) (fC (.int 0))) (fOp dIx (fVar 0) (fC (.int 1)))))
    (sSeq (sAugS dIxL dAddI dPut (fVar 0) (fC (.int 1)) (fC (.int 1)))
    (sIf (fTst (fOp dGe (fVar 2) (fOp dPow (fC (.int 10)) (fC (.int 18))))) (sPut dPut (fVar 2) (fVar 0) (fC (.int 2))) (sPut dPut (fOp dMod (fCB bInt (fCons (fOp dAdd (fOp dAdd (fOp dMul (fOp dIx (fVar 0) (fC (.int 4))) (fC (.int 48271))) (fOp dMul (fVar 2) (fC (.int 16)))) (fC (.int 30011))) fNil)) (fC (.int 2147483629))) (fVar 0) (fC (.int 4)))))) sNext)
    (sSeq (sIf (fTst (fOp dGt (fOp dIx (fVar 0) (fC (.int 2))) (fC (.int 0)))) (sSeq (sAsg 3 (fOp dMod (fCB bInt (fCons (fOp dIx (fVar 0) (fC (.int 2))) fNil)) (fVar 1)))
    (sSeq (sPut dPut (fOp dDiv (fOp dIx (fVar 0) (fC (.int 2))) (fVar 1)) (fVar 0) (fC (.int 2)))
    (sRet (fVar 3)))) sNext)
    (sSeq (sAsg 4 (fOp dMod (fCB bInt (fCons (fOp dMul (fOp dAdd (fOp dIx (fVar 0) (fC (.int 4))) (fOp dMul (fC (.int 104729)) (fOp dIx (fVar 0) (fC (.int 3))))) (fC (.int 69621))) fNil)) (fC (.int 2147483647))))
    (sSeq (sAsg 5 (fOp dMod (fCB bInt (fCons (fOp dMul (fVar 4) (fOp dAdd (fOp dDiv (fVar 4) (fC (.int 1021))) (fC (.int 40692)))) fNil)) (fC (.int 2147483399))))
    (sSeq (sAsg 6 (fOp dMod (fCB bInt (fCons (fOp dMul (fVar 5) (fOp dAdd (fOp dDiv (fVar 5) (fC (.int 2011))) (fC (.int 52774)))) fNil)) (fC (.int 2147483563))))
    (sRet (fOp dMod (fCB bInt (fCons (fOp dDiv (fVar 6) (fC (.int 8))) fNil)) (fVar 1))))))))))
noncomputable def G__law_small (c : Cl) : List D → S → R D := runF 4
  ((sSeq (sAsg 1 (fCall 2 (G__law_draw c) (fCons (fVar 0) (fCons (fC (.int 4)) fNil))))
    (sSeq (sAsg 2 (fCall 2 (G__law_draw c) (fCons (fVar 0) (fCons (fC (.int 5)) fNil))))
    (sSeq (sAsg 3 (fOp dAdd (fC (.int 1)) (fCall 2 (G__law_draw c) (fCons (fVar 0) (fCons (fC (.int 6)) fNil)))))
    (sSeq (sIf (fTst (fOp (dEqD false) (fOp dAdd (fOp dMul (fC (.int 2)) (fVar 1)) (fVar 2)) (fC (.int 0)))) (sAsg 2 (fC (.int 1))) sNext)
    (sRet (fTup (fCons (fVar 1) (fCons (fVar 2) (fCons (fVar 3) fNil))))))))))
noncomputable def G__law_is (c : Cl) : List D → S → R D := runF 2
  ((sRet (fAndV (fCB (bIsi c.cs) (fCons (fVar 0) (fCons (fC (.ty "int")) fNil))) (fAndV (fNotV (fCB (bIsi c.cs) (fCons (fVar 0) (fCons (fC (.ty "bool")) fNil)))) (fOp (dEqD false) (fVar 0) (fVar 1))))))
mutual
noncomputable def Gn__law_letters (c : Cl) : Nat → List D → S → R D
  | 0 => runF 14 sBad
  | n + 1 => runF 14
      ((sSeq (sAsgG (gTp (gCn (gN 6) (gCn (gN 7) (gCn (gN 8) gNl)))) (fVar 0))
    (sSeq (sAsg 9 (fC (.int 0)))
    (sSeq (sIf (fTst (fOp dGt (fOp dMul (fOp dAdd (fVar 3) (fC (.int 1))) (fOp dAdd (fVar 6) (fC (.int 1)))) (fVar 1))) (sRet (fVar 9)) sNext)
    (sSeq (sAsg 10 (fCB bMin (fCons (fOp dSub (fOp dSub (fOp dSub (fVar 1) (fOp dMul (fVar 3) (fVar 6))) (fVar 3)) (fC (.int 1))) (fCons (fOp dSub (fVar 4) (fCB bMax (fCons (fVar 6) (fCons (fVar 8) fNil)))) fNil))))
    (sSeq (sFor (fRng dRng2 (fCons (fOp dAdd (fOp dMul (fC (.int 2)) (fVar 6)) (fVar 7)) (fCons (fOp dAdd (fVar 10) (fC (.int 1))) fNil))) (gN 11) (sFor (fRng dRng2 (fCons (fC (.int 1)) (fCons (fOp dAdd (fVar 2) (fC (.int 1))) fNil))) (gN 12) (sSeq (sAsg 13 (fOp dSub (fOp dSub (fCall 4 (Gn__law_best c n) (fCons (fVar 0) (fCons (fOp dSub (fOp dSub (fVar 11) (fOp dMul (fC (.int 2)) (fVar 6))) (fVar 7)) (fCons (fVar 12) (fCons (fVar 5) fNil))))) (fVar 6)) (fC (.int 1))))
    (sSeq (sAug dAddI 13 (fCall 6 (Gn__law_letters c n) (fCons (fVar 0) (fCons (fVar 1) (fCons (fOp dSub (fVar 2) (fVar 12)) (fCons (fOp dAdd (fVar 3) (fC (.int 1))) (fCons (fVar 11) (fCons (fVar 5) fNil))))))))
    (sAsg 9 (fCB bMax (fCons (fVar 9) (fCons (fVar 13) fNil))))))))
    (sRet (fVar 9))))))))
noncomputable def Gn__law_best (c : Cl) : Nat → List D → S → R D
  | 0 => runF 5 sBad
  | n + 1 => runF 5
      ((sSeq (sAsg 4 (fTup (fCons (fVar 1) (fCons (fVar 2) fNil))))
    (sSeq (sIf (fTst (fOp (dInT true) (fVar 4) (fVar 3))) (sPut dPutT (fOp dAdd (fOp dAdd (fVar 1) (fC (.int 1))) (fCall 6 (Gn__law_letters c n) (fCons (fVar 0) (fCons (fVar 1) (fCons (fOp dSub (fVar 2) (fC (.int 1))) (fCons (fC (.int 0)) (fCons (fOp dAdd (fVar 1) (fC (.int 100))) (fCons (fVar 3) fNil)))))))) (fVar 3) (fVar 4)) sNext)
    (sRet (fOp dIxT (fVar 3) (fVar 4))))))
end
noncomputable def G__law_letters (c : Cl) : List D → S → R D := Gn__law_letters c 24
noncomputable def G__law_best (c : Cl) : List D → S → R D := Gn__law_best c 24
noncomputable def G_law (c : Cl) : List D → S → R D := runF 8
  ((sSeq (sAsg 1 (fCall 1 (G__law_source c) (fCons (fVar 0) fNil)))
    (sSeq (sFor (fRng dRng1 (fCons (fC (.int 2)) fNil)) (gN 2) (sSeq (sAsg 3 (fCall 1 (G__law_small c) (fCons (fVar 1) fNil)))
    (sSeq (sAsg 4 (fCall 2 (G__law_draw c) (fCons (fVar 1) (fCons (fC (.int 10)) fNil))))
    (sSeq (sAsg 5 (fMake c.Machine 4 (G_Machine___init__ c) (fCons (fOp dIx (fVar 3) (fC (.int 0))) (fCons (fOp dIx (fVar 3) (fC (.int 1))) (fCons (fOp dIx (fVar 3) (fC (.int 2))) fNil)))))
    (sSeq (sAsg 6 fDictU)
    (sFor (fRng dRng2 (fCons (fC (.int 1)) (fCons (fC (.int 5)) fNil))) (gN 7) (sIf (fNot (fTst (fCall 2 (G__law_is c) (fCons (fCall 3 (G_most_summed c) (fCons (fVar 5) (fCons (fVar 7) (fCons (fVar 4) fNil)))) (fCons (fCall 4 (G__law_best c) (fCons (fVar 3) (fCons (fVar 4) (fCons (fVar 7) (fCons (fVar 6) fNil))))) fNil))))) (sRet (fC (.bl false))) sNext)))))))
    (sRet (fC (.bl true))))))
end Lw

namespace SI
open PySem L2
section
variable {L : Lc} {s : S} {Q : Cn (D → S → Prop)} {E : Cn (Addr → List Str → List D → S → Prop)}
/-- .. tracked -/
def lcTE (q : Tg) (t : F Bool) (f : F D) (vs : List Nat) (L : Lc) (r : Src) (s1 : S) : R D := match lcL q t f r (wipeD L vs) s1.length r.items (s1 ++ [.lst []]) with
  | .ok _ s2 => match s2[s1.length]? with
    | some (.lst _) => .ok (.ref s1.length) s2
    | _ => .bad
  | _ => .bad
theorem w_lcT (fi : F Src) (q : Tg) (t : F Bool) (f : F D) (vs : List Nat) : @WR _ (fLcT fi q t f vs L s) Q E = @WR _ (fi L s) ⟨fun r s1 => @WR _ (lcTE q t f vs L r s1) Q E⟩ E := w_bind ..
theorem w_calm (r : RS) {B : Bs} : @WS (r.calm) B = @WS r { B with ex := fun _ _ _ _ _ => False } := by
  cases r <;> rfl
theorem w_tryM {B : Bs} (hs : List Cld) (b : FS) : @WS (sTryM hs b L s) B = @WS (b L s) { B with ex := fun C fs vs L1 s1 => @WS (tryM hs C fs vs L1 s1) B } := by
  unfold sTryM
  cases b L s <;> rfl
theorem w_tm0 {B : Bs} (C : Addr) (fs : List Str) (vs : List D) : @WS (tryM [] C fs vs L s) B = B.ex C fs vs L s := rfl
theorem w_tmN {B : Bs} (sel : List (Addr × Bool)) (h : Addr → Addr → Option Addr → FS) (r : List Cld) (C : Addr) (fs : List Str) (vs : List D) : @WS (tryM ((sel, none, h) :: r) C fs vs L s) B = @WO _ (selOf sel C) ⟨fun z => @WB z ⟨@WS (hAll fun a od => (h a C od L s).calm) B⟩ ⟨@WS (tryM r C fs vs L s) B⟩⟩ := by
  rw [tryM]
  cases selOf sel C with
  | none => rfl
  | some z => cases z <;> rfl
theorem w_tmS {B : Bs} (sel : List (Addr × Bool)) (i : Nat) (h : Addr → Addr → Option Addr → FS) (r : List Cld) (C : Addr) (fs : List Str) (vs : List D) : @WS (tryM ((sel, some i, h) :: r) C fs vs L s) B = @WO _ (selOf sel C) ⟨fun z => @WB z ⟨@WS (hAll fun a od => (h a C od (L.set i (some (.exc a C od fs vs))) s).drop i) B⟩ ⟨@WS (tryM r C fs vs L s) B⟩⟩ := by
  rw [tryM]
  cases selOf sel C with
  | none => rfl
  | some z => cases z <;> rfl
theorem w_dictT : @WR _ (fDictT L s) Q E = Q (.ref s.length) (s ++ [.dk [] []]) := rfl
theorem w_dictI (i j : Int) : @WR _ (fDictI i j L s) Q E = Q (.ref s.length) (s ++ [.dk [.inl i] [.int j]]) := rfl
def getOf (s : S) (d a : D) : Option (Option D) := match dicOf s d, keyD a with
  | some (ks, vs), some k => some (lkD ks vs k)
  | _, _ => none
theorem w_get (fo fk fx : F D) : @WR _ (fGet fo fk fx L s) Q E = @WR _ (fo L s) ⟨fun d s1 => @WO _ (dicOf s1 d) ⟨fun _ => @WR _ (fk L s1) ⟨fun a s2 => @WR _ (fx L s2) ⟨fun x s3 => @WO _ (getOf s3 d a) ⟨fun o => Q (o.getD x) s3⟩⟩ E⟩ E⟩⟩ E := by
  refine (w_bind ..).trans (congrArg (fun z => @WR _ (fo L s) ⟨z⟩ _) ?_)
  funext d s1
  cases dicOf s1 d with
  | none => rfl
  | some z =>
    show @WR _ ((fk L s1).bind _) Q E = @WR _ (fk L s1) _ _
    refine (w_bind ..).trans (congrArg (fun z => @WR _ (fk L s1) ⟨z⟩ _) ?_)
    funext a s2
    refine (w_bind ..).trans (congrArg (fun z => @WR _ (fx L s2) ⟨z⟩ _) ?_)
    funext x s3
    unfold getOf
    cases dicOf s3 d with
    | none => rfl
    | some z =>
      obtain ⟨ks, vs⟩ := z
      cases keyD a <;> rfl
theorem w_lrg1 (f : F D) : @WR _ (fLrg1 f L s) Q E = @WR _ (f L s) ⟨fun d s1 => @WI d ⟨fun n => rg2 0 n = true ∧ Q (.lst (rgItems 0 n.toNat)) s1⟩⟩ E := by
  refine (w_bind ..).trans (congrArg (fun z => @WR _ (f L s) ⟨z⟩ _) ?_)
  funext d s1
  cases d <;> try rfl
  rename_i n
  show @WR _ (if rg2 0 n = true then _ else _) Q E = (_ ∧ _)
  cases rg2 0 n <;> simp [WR]
theorem w_lrg1T (f : F D) : @WR _ (fLrg1T f L s) Q E = @WR _ (f L s) ⟨fun d s1 => @WI d ⟨fun n => rg2 0 n = true ∧ Q (.ref s1.length) (s1 ++ [.lst (rgItems 0 n.toNat)])⟩⟩ E := by
  refine (w_bind ..).trans (congrArg (fun z => @WR _ (f L s) ⟨z⟩ _) ?_)
  funext d s1
  cases d <;> try rfl
  rename_i n
  show @WR _ (if rg2 0 n = true then _ else _) Q E = (_ ∧ _)
  cases rg2 0 n <;> simp [WR]
theorem w_lrg2 (f g : F D) : @WR _ (fLrg2 f g L s) Q E = @WR _ (f L s) ⟨fun d s1 => @WR _ (g L s1) ⟨fun e s2 => @WI d ⟨fun m => @WI e ⟨fun n => rg2 m n = true ∧ Q (.lst (rgItems m (n - m).toNat)) s2⟩⟩⟩ E⟩ E := by
  refine (w_bind ..).trans (congrArg (fun z => @WR _ (f L s) ⟨z⟩ _) ?_)
  funext d s1
  refine (w_bind ..).trans (congrArg (fun z => @WR _ (g L s1) ⟨z⟩ _) ?_)
  funext e s2
  cases d <;> cases e <;> try rfl
  rename_i m n
  show @WR _ (if rg2 m n = true then _ else _) Q E = (_ ∧ _)
  cases rg2 m n <;> simp [WR]
theorem w_lrg2T (f g : F D) : @WR _ (fLrg2T f g L s) Q E = @WR _ (f L s) ⟨fun d s1 => @WR _ (g L s1) ⟨fun e s2 => @WI d ⟨fun m => @WI e ⟨fun n => rg2 m n = true ∧ Q (.ref s2.length) (s2 ++ [.lst (rgItems m (n - m).toNat)])⟩⟩⟩ E⟩ E := by
  refine (w_bind ..).trans (congrArg (fun z => @WR _ (f L s) ⟨z⟩ _) ?_)
  funext d s1
  refine (w_bind ..).trans (congrArg (fun z => @WR _ (g L s1) ⟨z⟩ _) ?_)
  funext e s2
  cases d <;> cases e <;> try rfl
  rename_i m n
  show @WR _ (if rg2 m n = true then _ else _) Q E = (_ ∧ _)
  cases rg2 m n <;> simp [WR]
def popOf (s : S) (d : D) : Option (D × S) := match d with
  | .ref n => match s[n]? with
    | some (.lst xs) => match xs[xs.length - 1]? with
      | some y => some (y, s.set n (.lst xs.dropLast))
      | none => none
    | _ => none
  | _ => none
theorem w_pop0 (fo : F D) : @WR _ (fPop0 fo L s) Q E = @WR _ (fo L s) ⟨fun d s1 => @WO _ (popOf s1 d) ⟨fun z => Q z.1 z.2⟩⟩ E := by
  refine (w_bind ..).trans (congrArg (fun z => @WR _ (fo L s) ⟨z⟩ _) ?_)
  funext d s1
  cases d <;> try rfl
  rename_i n
  unfold popOf
  dsimp only
  cases s1[n]? with
  | none => rfl
  | some o =>
    cases o <;> try rfl
    rename_i xs
    dsimp only
    cases xs[xs.length - 1]? <;> rfl
theorem w_slT (f : F D) (l h : F (Option Int)) : @WR _ (fSlT f l h L s) Q E = @WR _ (f L s) ⟨fun d s1 => @WR _ (l L s1) ⟨fun lo s2 => @WR _ (h L s2) ⟨fun hi s3 => @WO _ (lstOf s3 d) ⟨fun xs => Q (.ref s3.length) (s3 ++ [.lst (cutD xs lo hi)])⟩⟩ E⟩ E⟩ E := by
  refine (w_bind ..).trans (congrArg (fun z => @WR _ (f L s) ⟨z⟩ _) ?_)
  funext d s1
  refine (w_bind ..).trans (congrArg (fun z => @WR _ (l L s1) ⟨z⟩ _) ?_)
  funext lo s2
  refine (w_bind ..).trans (congrArg (fun z => @WR _ (h L s2) ⟨z⟩ _) ?_)
  funext hi s3
  cases lstOf s3 d <;> rfl
theorem w_addT (f g : F D) : @WR _ (fAddT f g L s) Q E = @WR _ (f L s) ⟨fun a s1 => @WR _ (g L s1) ⟨fun b s2 => @WO _ (lsO s2 a) ⟨fun xs => @WO _ (lsO s2 b) ⟨fun ys => xs.length + ys.length ≤ big ∧ Q (.ref s2.length) (s2 ++ [.lst (xs ++ ys)])⟩⟩⟩ E⟩ E := by
  refine (w_bind ..).trans (congrArg (fun z => @WR _ (f L s) ⟨z⟩ _) ?_)
  funext a s1
  refine (w_bind ..).trans (congrArg (fun z => @WR _ (g L s1) ⟨z⟩ _) ?_)
  funext b s2
  cases lsO s2 a with
  | none => rfl
  | some xs =>
    cases lsO s2 b with
    | none => rfl
    | some ys =>
      show @WR _ (if xs.length + ys.length ≤ big then _ else _) Q E = (_ ∧ _)
      by_cases h : xs.length + ys.length ≤ big
      · simp only [h, if_true, true_and]
        rfl
      · simp only [h, if_false, false_and]
        rfl
theorem w_mth (m : S → D → List D → Option (D × S)) (fo : F D) (fa : F (List D)) : @WR _ (fMth m fo fa L s) Q E = @WR _ (fo L s) ⟨fun d s1 => @WO _ (lstOf s1 d) ⟨fun _ => @WR _ (fa L s1) ⟨fun ds s2 => @WO _ (m s2 d ds) ⟨fun z => Q z.1 z.2⟩⟩ E⟩⟩ E := by
  refine (w_bind ..).trans (congrArg (fun z => @WR _ (fo L s) ⟨z⟩ _) ?_)
  funext d s1
  cases lstOf s1 d with
  | none => rfl
  | some _ =>
    refine (w_bind ..).trans (congrArg (fun z => @WR _ (fa L s1) ⟨z⟩ _) ?_)
    funext ds s2
    cases m s2 d ds <;> rfl
end
theorem bMin_int (s : S) (i j : Int) : bMin s [.int i, .int j] = some (.int (min i j)) := by
  show some (D.int (if j < i then j else i)) = _
  congr 2
  omega
theorem bMax_int (s : S) (i j : Int) : bMax s [.int i, .int j] = some (.int (max i j)) := by
  show some (D.int (if j > i then j else i)) = _
  congr 2
  omega
theorem bAbs_int (s : S) (i : Int) : bAbs s [.int i] = some (.int (i.natAbs : Int)) := by
  show some (D.int (if i < 0 then -i else i)) = _
  congr 2
  omega
theorem dIs_non (neg : Bool) (s : S) : dIs neg s .non .non = some (.bl (!neg)) := by cases neg <;> rfl
theorem dIs_int (neg : Bool) (s : S) (i : Int) : dIs neg s (.int i) .non = some (.bl neg) := by cases neg <;> rfl
theorem dIs_nn {neg : Bool} {s : S} {d : D} (h : d ≠ .non) : dIs neg s d .non = some (.bl neg) := by
  unfold dIs
  rw [decide_eq_false h]
  cases neg <;> rfl
theorem iSeq_lst (s : S) (xs : List D) : iSeq s (.lst xs) = some ⟨xs, none⟩ := rfl
theorem iSeq_tup (s : S) (xs : List D) : iSeq s (.tup xs) = some ⟨xs, none⟩ := rfl
theorem iSeq_rdl (s : S) (xs : List D) : iSeq s (.rdl xs) = some ⟨xs, none⟩ := rfl
theorem iEnu_lst (s : S) (xs : List D) : iEnu s (.lst xs) = some ⟨enumI 0 xs, none⟩ := rfl
theorem iEnu_tup (s : S) (xs : List D) : iEnu s (.tup xs) = some ⟨enumI 0 xs, none⟩ := rfl
theorem rg_ok {i : Int} (h0 : -4611686018427387904 ≤ i) (h1 : i < 4611686018427387904) : rgOk i = true := by
  unfold rgOk
  rw [decide_eq_true_eq]
  omega
theorem rng1 {j : Int} (h0 : -4611686018427387904 ≤ j) (h1 : j < 4611686018427387904) : dRng1 [.int j] = some ⟨rgItems 0 j.toNat, none⟩ := by
  show (if rgOk j = true then _ else _) = _
  rw [if_pos (rg_ok h0 h1)]
theorem rng2 {i j : Int} (h0 : -4611686018427387904 ≤ i) (h1 : i < 4611686018427387904) (h2 : -4611686018427387904 ≤ j) (h3 : j < 4611686018427387904) : dRng2 [.int i, .int j] = some ⟨rgItems i (j - i).toNat, none⟩ := by
  show (if rgOk i = true ∧ rgOk j = true then _ else _) = _
  rw [if_pos ⟨rg_ok h0 h1, rg_ok h2 h3⟩]
theorem bits {x : Int} {a : Nat} (h0 : 0 ≤ x) (h : x < 2 ^ a) : x.natAbs.log2 ≤ a := by
  rcases Nat.eq_zero_or_pos a with rfl | ha
  · have : x = 0 := by
      have : (2 : Int) ^ 0 = 1 := rfl
      omega
    subst this
    exact Nat.zero_le _
  · exact log_of h0 h ha
theorem bitsN {x a : Nat} (h : x < 2 ^ a) : ((x : Int)).natAbs.log2 ≤ a := bits (by omega) (by exact_mod_cast h)
theorem dMul_ok {s : S} {i j : Int} {a b : Nat} (ha : i.natAbs.log2 ≤ a) (hb : j.natAbs.log2 ≤ b) (h : a + b < 100000000) : dMul s (.int i) (.int j) = some (.int (i * j)) := by
  rw [dMul_int, if_pos (mulOk_log ha hb h)]
/-- numbers of everyday size -/
theorem dMul_small {s : S} {i j : Int} (h0 : -(10 ^ 60) ≤ i) (h1 : i ≤ 10 ^ 60) (h2 : -(10 ^ 60) ≤ j) (h3 : j ≤ 10 ^ 60) : dMul s (.int i) (.int j) = some (.int (i * j)) := by
  have k : ∀ x : Int, -(10 ^ 60) ≤ x → x ≤ 10 ^ 60 → x.natAbs.log2 ≤ 250 := fun x a b => by
    refine Nat.le_of_lt (log2_small (by decide) ?_)
    have e : (10 : Int) ^ 60 < 2 ^ 250 := by decide +kernel
    have : x.natAbs ≤ 10 ^ 60 := by omega
    have e2 : 10 ^ 60 < 2 ^ 250 := by decide +kernel
    omega
  exact dMul_ok (k i h0 h1) (k j h2 h3) (by decide)
theorem dDiv_small {s : S} {i j : Int} (h0 : 0 < j) (h1 : j ≤ 10 ^ 60) : dDiv s (.int i) (.int j) = some (.int (i / j)) :=
  dDiv_int h0 (Int.lt_of_le_of_lt h1 (by decide +kernel))
theorem dDiv_ok {s : S} {i j : Int} {a : Nat} (h0 : 0 < j) (h1 : j.natAbs.log2 ≤ a) (h : a < 9000) : dDiv s (.int i) (.int j) = some (.int (i / j)) := by
  unfold dDiv
  rw [dI2_int, if_pos]
  unfold divOk
  rw [decide_eq_true_eq]
  exact ⟨h0, by omega⟩
/-! names side by side, setdefault, a dict of one entry, max with a default -/
section
variable {L : Lc} {s : S} {B : Bs} {Q : Cn (D → S → Prop)} {E : Cn (Addr → List Str → List D → S → Prop)}
def nth2 : List D → Option (D × D)
  | [v, w] => some (v, w)
  | _ => none
def nth3 : List D → Option (D × D × D)
  | [u, v, w] => some (u, v, w)
  | _ => none
theorem nth2_eq (v w : D) : nth2 [v, w] = some (v, w) := rfl
theorem nth3_eq (u v w : D) : nth3 [u, v, w] = some (u, v, w) := rfl
theorem w_par2 (i j : Nat) (fa : F (List D)) : @WS (sPar2 i j fa L s) B = @WR _ (fa L s) ⟨fun ds s1 => @WO _ (nth2 ds) ⟨fun p => @WL ((L.set i (some p.1)).set j (some p.2)) ⟨fun L' => B.nx L' s1⟩⟩⟩ ⟨fun C fs vs s => B.ex C fs vs L s⟩ := by
  refine (w_bindS ..).trans (congrArg (fun z => @WR _ (fa L s) ⟨z⟩ _) ?_)
  funext ds s1
  rcases ds with _ | ⟨a, _ | ⟨b, _ | ⟨d, ds⟩⟩⟩ <;> rfl
theorem w_par3 (i j k : Nat) (fa : F (List D)) : @WS (sPar3 i j k fa L s) B = @WR _ (fa L s) ⟨fun ds s1 => @WO _ (nth3 ds) ⟨fun p => @WL (((L.set i (some p.1)).set j (some p.2.1)).set k (some p.2.2)) ⟨fun L' => B.nx L' s1⟩⟩⟩ ⟨fun C fs vs s => B.ex C fs vs L s⟩ := by
  refine (w_bindS ..).trans (congrArg (fun z => @WR _ (fa L s) ⟨z⟩ _) ?_)
  funext ds s1
  rcases ds with _ | ⟨a, _ | ⟨b, _ | ⟨d, _ | ⟨e, ds⟩⟩⟩⟩ <;> rfl
def isDk (n : Nat) (s : S) : Bool := match s[n]? with
  | some (.dk _ _) => true
  | _ => false
def setdOf (n : Nat) (a x : D) (s : S) : Option (D × S) := match s[n]?, keyD a with
  | some (.dk ks vs), some k => if ks.Nodup ∧ ks.length < big then match lkD ks vs k with
      | some v => some (v, s)
      | none => some (x, s.set n (.dk (ptD ks vs k x).1 (ptD ks vs k x).2))
    else none
  | _, _ => none
theorem w_setd (fo fk fx : F D) : @WR _ (fSetd fo fk fx L s) Q E = @WR _ (fo L s) ⟨fun d s1 => @WN d ⟨fun n => isDk n s1 = true ∧ @WR _ (fk L s1) ⟨fun a s2 => @WR _ (fx L s2) ⟨fun x s3 => @WO _ (setdOf n a x s3) ⟨fun r => Q r.1 r.2⟩⟩ E⟩ E⟩⟩ E := by
  refine (w_bind ..).trans (congrArg (fun z => @WR _ (fo L s) ⟨z⟩ _) ?_)
  funext d s1
  cases d <;> try rfl
  rename_i n
  show @WR _ (match s1[n]? with
    | some (.dk _ _) => _
    | _ => .bad) Q E = (isDk n s1 = true ∧ _)
  unfold isDk
  cases s1[n]? with
  | none => simp only [Bool.false_eq_true, false_and]; rfl
  | some o =>
    cases o <;> try (simp only [Bool.false_eq_true, false_and]; rfl)
    simp only [true_and]
    refine (w_bind ..).trans (congrArg (fun z => @WR _ (fk L s1) ⟨z⟩ _) ?_)
    funext a s2
    refine (w_bind ..).trans (congrArg (fun z => @WR _ (fx L s2) ⟨z⟩ _) ?_)
    funext x s3
    unfold setdOf
    cases s3[n]? with
    | none => rfl
    | some o2 =>
      cases o2 <;> try rfl
      rename_i ks vs
      cases keyD a with
      | none => rfl
      | some k =>
        dsimp only
        by_cases h : ks.Nodup ∧ ks.length < big
        · rw [if_pos h, if_pos h]
          cases lkD ks vs k <;> rfl
        · rw [if_neg h, if_neg h]
          rfl
def dict1Of (n : Nat) (i : Int) (d : D) (s : S) : Option S := match s[n]? with
  | some (.dk [] []) => some (s.set n (.dk [.inl i] [d]))
  | _ => none
theorem w_dict1 (i : Int) (f : F D) : @WR _ (fDict1 i f L s) Q E = @WR _ (f L (s ++ [.dk [] []])) ⟨fun d s2 => @WO _ (dict1Of s.length i d s2) ⟨fun s' => Q (.ref s.length) s'⟩⟩ E := by
  refine (w_bind ..).trans (congrArg (fun z => @WR _ (f L (s ++ [.dk [] []])) ⟨z⟩ _) ?_)
  funext d s2
  unfold dict1Of
  cases s2[s.length]? with
  | none => rfl
  | some o =>
    cases o <;> try rfl
    rename_i ks vs
    cases ks <;> cases vs <;> rfl
theorem w_maxDf (fa fk : F (List D)) : @WR _ (fMaxDf fa fk L s) Q E = @WR _ (fa L s) ⟨fun ds s1 => @WR _ (fk L s1) ⟨fun xs s2 => @WO _ (mxOf s2 ds xs) ⟨fun d => Q d s2⟩⟩ E⟩ E := by
  refine (w_bind ..).trans (congrArg (fun z => @WR _ (fa L s) ⟨z⟩ _) ?_)
  funext ds s1
  refine (w_bind ..).trans (congrArg (fun z => @WR _ (fk L s1) ⟨z⟩ _) ?_)
  funext xs s2
  cases mxOf s2 ds xs <;> rfl
theorem w_srtT (fa : F (List D)) : @WR _ (fSrtT fa L s) Q E = @WR _ (fa L s) ⟨fun ds s1 => @WO _ (srtOf s1 ds) ⟨fun xs => Q (.ref s1.length) (s1 ++ [.lst xs])⟩⟩ E := by
  refine (w_bind ..).trans (congrArg (fun z => @WR _ (fa L s) ⟨z⟩ _) ?_)
  funext ds s1
  cases srtOf s1 ds <;> rfl
end
end SI

/-! binomials, and rows of turns by their sums: plain -/
namespace Mt
def bin : Nat → Nat → Nat
  | _, 0 => 1
  | 0, _ + 1 => 0
  | n + 1, k + 1 => bin n k + bin n (k + 1)
theorem bin_0 (n : Nat) : bin n 0 = 1 := by cases n <;> rfl
theorem bin_s (n k : Nat) : bin (n + 1) (k + 1) = bin n k + bin n (k + 1) := rfl
theorem bin_lt : ∀ (n k : Nat), n < k → bin n k = 0
  | _, 0, h => absurd h (Nat.not_lt_zero _)
  | 0, k + 1, _ => rfl
  | n + 1, k + 1, h => by rw [bin_s, bin_lt n k (by omega), bin_lt n (k + 1) (by omega)]
theorem bin_self : ∀ n : Nat, bin n n = 1
  | 0 => rfl
  | n + 1 => by rw [bin_s, bin_self n, bin_lt n (n + 1) (by omega)]
theorem bin_absorb : ∀ (n k : Nat), (k + 1) * bin (n + 1) (k + 1) = (n + 1) * bin n k
  | 0, 0 => rfl
  | 0, k + 1 => by
    rw [bin_lt 1 (k + 1 + 1) (by omega), bin_lt 0 (k + 1) (by omega)]
    rfl
  | n + 1, 0 => by
    have h := bin_absorb n 0
    rw [bin_0] at h
    rw [bin_s, bin_0]
    omega
  | n + 1, k + 1 => by
    have h1 := bin_absorb n k
    have h2 := bin_absorb n (k + 1)
    have e : bin (n + 1 + 1) (k + 1 + 1) = bin (n + 1) (k + 1) + bin (n + 1) (k + 1 + 1) := rfl
    have e2 : bin (n + 1) (k + 1) = bin n k + bin n (k + 1) := rfl
    rw [e, Nat.mul_add, h2, Nat.add_mul (k + 1) 1, h1, e2, Nat.mul_add (n + 1 + 1)]
    rw [Nat.add_mul (n + 1) 1 (bin n k), Nat.add_mul (n + 1) 1 (bin n (k + 1))]
    omega
theorem bin_symm : ∀ (a b : Nat), bin (a + b) a = bin (a + b) b
  | 0, b => by rw [Nat.zero_add, bin_0, bin_self]
  | a + 1, 0 => by rw [Nat.add_zero, bin_0, bin_self]
  | a + 1, b + 1 => by
    have h1 := bin_symm a (b + 1)
    have h2 := bin_symm (a + 1) b
    rw [show a + 1 + (b + 1) = (a + (b + 1)) + 1 by omega, bin_s, bin_s, h1]
    rw [show a + (b + 1) = a + 1 + b by omega, h2]
    omega
theorem bin_le_pow : ∀ (n k : Nat), bin n k ≤ (n + 1) ^ k
  | n, 0 => by rw [bin_0]; exact Nat.le_refl _
  | 0, k + 1 => by rw [bin_lt 0 (k + 1) (by omega)]; exact Nat.zero_le _
  | n + 1, k + 1 => by
    have h := bin_absorb n k
    have h1 := bin_le_pow n k
    have h2 : bin (n + 1) (k + 1) ≤ (k + 1) * bin (n + 1) (k + 1) := Nat.le_mul_of_pos_left _ (by omega)
    have h3 : (n + 1) * bin n k ≤ (n + 1 + 1) * (n + 1 + 1) ^ k := Nat.mul_le_mul (by omega) (Nat.le_trans h1 (Nat.pow_le_pow_left (by omega) k))
    rw [Nat.pow_succ, Nat.mul_comm _ (n + 1 + 1)]
    omega
/-! sums -/
def sm : Nat → (Nat → Nat) → Nat
  | 0, _ => 0
  | n + 1, f => sm n f + f n
def smZ : Nat → (Nat → Int) → Int
  | 0, _ => 0
  | n + 1, f => smZ n f + f n
theorem sm_congr {n : Nat} {f g : Nat → Nat} (h : ∀ i, i < n → f i = g i) : sm n f = sm n g := by
  induction n with
  | zero => rfl
  | succ n ih => rw [sm, sm, ih fun i hi => h i (by omega), h n (by omega)]
theorem smZ_congr {n : Nat} {f g : Nat → Int} (h : ∀ i, i < n → f i = g i) : smZ n f = smZ n g := by
  induction n with
  | zero => rfl
  | succ n ih => rw [smZ, smZ, ih fun i hi => h i (by omega), h n (by omega)]
theorem sm_front (n : Nat) (f : Nat → Nat) : sm (n + 1) f = f 0 + sm n fun i => f (i + 1) := by
  induction n with
  | zero => simp [sm]
  | succ n ih => rw [sm, ih, sm, Nat.add_assoc]
theorem smZ_front (n : Nat) (f : Nat → Int) : smZ (n + 1) f = f 0 + smZ n fun i => f (i + 1) := by
  induction n with
  | zero => simp [smZ]
  | succ n ih => rw [smZ, ih, smZ, Int.add_assoc]
theorem smZ_add (n : Nat) (f g : Nat → Int) : smZ n (fun i => f i + g i) = smZ n f + smZ n g := by
  induction n with
  | zero => rfl
  | succ n ih =>
    simp only [smZ, ih]
    omega
theorem smZ_sub (n : Nat) (f g : Nat → Int) : smZ n (fun i => f i - g i) = smZ n f - smZ n g := by
  induction n with
  | zero => rfl
  | succ n ih =>
    simp only [smZ, ih]
    omega
theorem smZ_neg (n : Nat) (f : Nat → Int) : smZ n (fun i => - f i) = - smZ n f := by
  induction n with
  | zero => rfl
  | succ n ih =>
    simp only [smZ, ih]
    omega
theorem smZ_zero {n : Nat} {f : Nat → Int} (h : ∀ i, i < n → f i = 0) : smZ n f = 0 := by
  induction n with
  | zero => rfl
  | succ n ih => rw [smZ, ih fun i hi => h i (by omega), h n (by omega)]; rfl
theorem smZ_le {n : Nat} {f g : Nat → Int} (h : ∀ i, i < n → f i ≤ g i) : smZ n f ≤ smZ n g := by
  induction n with
  | zero => exact Int.le_refl _
  | succ n ih =>
    have h1 := ih fun i hi => h i (by omega)
    have h2 := h n (by omega)
    rw [smZ, smZ]
    omega
theorem smZ_nonneg {n : Nat} {f : Nat → Int} (h : ∀ i, i < n → 0 ≤ f i) : 0 ≤ smZ n f := by
  have := smZ_le (n := n) (f := fun _ => 0) (g := f) h
  rwa [smZ_zero fun _ _ => rfl] at this
theorem smZ_extend {n m : Nat} {f : Nat → Int} (h : n ≤ m) (hz : ∀ i, n ≤ i → i < m → f i = 0) : smZ m f = smZ n f := by
  induction h with
  | refl => rfl
  | step hle ih =>
    rename_i k
    rw [smZ, ih fun i h1 h2 => hz i h1 (by omega), hz k hle (by omega), Int.add_zero]
theorem smZ_shorter {n m : Nat} {f : Nat → Int} (h : n ≤ m) (hp : ∀ i, i < m → 0 ≤ f i) : smZ n f ≤ smZ m f := by
  induction h with
  | refl => exact Int.le_refl _
  | step hle ih =>
    rename_i k
    have := ih fun i hi => hp i (by omega)
    have := hp k (by omega)
    rw [smZ]
    omega
theorem sm_le {n : Nat} {f g : Nat → Nat} (h : ∀ i, i < n → f i ≤ g i) : sm n f ≤ sm n g := by
  induction n with
  | zero => exact Nat.le_refl _
  | succ n ih =>
    have h1 := ih fun i hi => h i (by omega)
    have h2 := h n (by omega)
    rw [sm, sm]
    omega
theorem sm_shorter {n m : Nat} (f : Nat → Nat) (h : n ≤ m) : sm n f ≤ sm m f := by
  induction h with
  | refl => exact Nat.le_refl _
  | step _ ih => rw [sm]; omega
/-! rows of turns -/
def cap (t : Option Nat) (m : Nat) : Nat := match t with
  | none => m + 1
  | some t => min t (m + 1)
/-- how many rows of d turns, each below t, have a sum of at most m -/
def cnt (t : Option Nat) : Nat → Nat → Nat
  | 0, _ => 1
  | d + 1, m => sm (cap t m) fun i => cnt t d (m - i)
theorem cnt_0 (t : Option Nat) (m : Nat) : cnt t 0 m = 1 := rfl
theorem cnt_s (t : Option Nat) (d m : Nat) : cnt t (d + 1) m = sm (cap t m) fun i => cnt t d (m - i) := rfl
def back (t : Option Nat) (d m : Nat) : Nat := match t with
  | none => 0
  | some t => if t ≤ m then cnt (some t) d (m - t) else 0
theorem cnt_rec (t : Option Nat) (ht : t ≠ some 0) (d m : Nat) : cnt t (d + 1) (m + 1) + back t d (m + 1) = cnt t (d + 1) m + cnt t d (m + 1) := by
  cases t with
  | none =>
    rw [cnt_s, cnt_s]
    show sm (m + 1 + 1) _ + 0 = sm (m + 1) _ + _
    rw [sm_front, Nat.sub_zero, sm_congr (g := fun i => cnt none d (m - i)) fun i hi => by rw [show m + 1 - (i + 1) = m - i by omega]]
    omega
  | some t =>
    have ht' : 0 < t := by
      rcases Nat.eq_zero_or_pos t with h | h
      · exact absurd (by rw [h]) ht
      · exact h
    rw [cnt_s, cnt_s]
    by_cases h : t ≤ m + 1
    · have e1 : cap (some t) (m + 1) = (t - 1) + 1 := by unfold cap; dsimp only; omega
      have e2 : cap (some t) m = (t - 1) + 1 := by unfold cap; dsimp only; omega
      have e3 : back (some t) d (m + 1) = cnt (some t) d (m - (t - 1)) := by
        unfold back
        dsimp only
        rw [if_pos h, show m + 1 - t = m - (t - 1) by omega]
      rw [e1, e2, e3, sm_front, Nat.sub_zero, sm, sm_congr (g := fun i => cnt (some t) d (m - i)) fun i hi => by rw [show m + 1 - (i + 1) = m - i by omega]]
      omega
    · have e1 : cap (some t) (m + 1) = (m + 1) + 1 := by unfold cap; dsimp only; omega
      have e2 : cap (some t) m = m + 1 := by unfold cap; dsimp only; omega
      have e3 : back (some t) d (m + 1) = 0 := by
        unfold back
        dsimp only
        rw [if_neg h]
      rw [e1, e2, e3, sm_front, Nat.sub_zero, sm_congr (g := fun i => cnt (some t) d (m - i)) fun i hi => by rw [show m + 1 - (i + 1) = m - i by omega]]
      omega
theorem cnt_s0 (t : Option Nat) (ht : t ≠ some 0) : ∀ d : Nat, cnt t d 0 = 1
  | 0 => rfl
  | d + 1 => by
    have e : cap t 0 = 1 := by
      cases t with
      | none => rfl
      | some t =>
        have : t ≠ 0 := fun h => ht (by rw [h])
        unfold cap
        dsimp only
        omega
    rw [cnt_s, e, sm, sm, Nat.zero_add, cnt_s0 t ht d]
theorem cnt_none : ∀ d m : Nat, cnt none d m = bin (m + d) d
  | 0, m => by rw [cnt_0, bin_0]
  | d + 1, 0 => by rw [cnt_s0 none (by simp), Nat.zero_add, bin_self]
  | d + 1, m + 1 => by
    have h := cnt_rec none (by simp) d m
    have h1 := cnt_none (d + 1) m
    have h2 := cnt_none d (m + 1)
    have e : back none d (m + 1) = 0 := rfl
    have e2 : bin (m + 1 + (d + 1)) (d + 1) = bin (m + 1 + d) d + bin (m + 1 + d) (d + 1) := rfl
    rw [show m + 1 + d = m + (d + 1) by omega] at e2 h2
    rw [e2]
    omega
theorem cap_mono (t : Option Nat) {m n : Nat} (h : m ≤ n) : cap t m ≤ cap t n := by
  cases t with
  | none => unfold cap; dsimp only; omega
  | some t => unfold cap; dsimp only; omega
theorem cnt_mono (t : Option Nat) : ∀ (d : Nat) {m n : Nat}, m ≤ n → cnt t d m ≤ cnt t d n
  | 0, _, _, _ => Nat.le_refl _
  | d + 1, m, n, h => by
    rw [cnt_s, cnt_s]
    exact Nat.le_trans (sm_le fun i _ => cnt_mono t d (by omega)) (sm_shorter _ (cap_mono t h))
theorem sm_const (n k : Nat) : sm n (fun _ => k) = n * k := by
  induction n with
  | zero => simp [sm]
  | succ n ih => rw [sm, ih, Nat.succ_mul]
theorem cnt_full (t : Nat) (ht : 0 < t) : ∀ (d m : Nat), d * (t - 1) ≤ m → cnt (some t) d m = t ^ d
  | 0, _, _ => rfl
  | d + 1, m, h => by
    rw [Nat.succ_mul] at h
    have e : cap (some t) m = t := by
      unfold cap
      dsimp only
      omega
    rw [cnt_s, e, sm_congr (g := fun _ => t ^ d) fun i hi => cnt_full t ht d (m - i) (by omega), sm_const, Nat.pow_succ, Nat.mul_comm]
/-! the alternating sum -/
def B (d : Nat) (x : Int) : Int := if x < 0 then 0 else (bin (x.toNat + d) d : Nat)
def cz (t : Option Nat) (d : Nat) (m : Int) : Int := if m < 0 then 0 else (cnt t d m.toNat : Nat)
theorem B_neg {d : Nat} {x : Int} (h : x < 0) : B d x = 0 := if_pos h
theorem B_nat (d k : Nat) : B d (k : Int) = (bin (k + d) d : Nat) := by
  unfold B
  rw [if_neg (by omega), Int.toNat_natCast]
theorem cz_neg {t : Option Nat} {d : Nat} {x : Int} (h : x < 0) : cz t d x = 0 := if_pos h
theorem cz_nat (t : Option Nat) (d k : Nat) : cz t d (k : Int) = (cnt t d k : Nat) := by
  unfold cz
  rw [if_neg (by omega), Int.toNat_natCast]
theorem B_rec (d : Nat) (x : Int) : B (d + 1) x - B (d + 1) (x - 1) = B d x := by
  by_cases h : x < 0
  · rw [B_neg h, B_neg h, B_neg (show x - 1 < 0 by omega)]
    rfl
  · obtain ⟨k, rfl⟩ := Int.eq_ofNat_of_zero_le (Int.not_lt.mp h)
    cases k with
    | zero => rw [B_nat, B_nat, B_neg (by omega), Nat.zero_add, Nat.zero_add, bin_self, bin_self]; rfl
    | succ k =>
      rw [show ((k + 1 : Nat) : Int) - 1 = (k : Nat) by omega, B_nat, B_nat, B_nat]
      have e2 : bin (k + 1 + (d + 1)) (d + 1) = bin (k + 1 + d) d + bin (k + 1 + d) (d + 1) := rfl
      rw [e2, show k + (d + 1) = k + 1 + d by omega]
      omega
theorem cz_rec (t : Nat) (ht : 0 < t) (d : Nat) (m : Int) : cz (some t) (d + 1) m - cz (some t) (d + 1) (m - 1) = cz (some t) d m - cz (some t) d (m - t) := by
  by_cases h : m < 0
  · rw [cz_neg h, cz_neg h, cz_neg (show m - 1 < 0 by omega), cz_neg (show m - t < 0 by omega)]
  · obtain ⟨k, rfl⟩ := Int.eq_ofNat_of_zero_le (Int.not_lt.mp h)
    have hs : (some t : Option Nat) ≠ some 0 := by simp; omega
    cases k with
    | zero => rw [cz_nat, cz_nat, cz_neg (by omega), cz_neg (by omega), cnt_s0 _ hs, cnt_s0 _ hs]
    | succ k =>
      have r := cnt_rec (some t) hs d k
      rw [show ((k + 1 : Nat) : Int) - 1 = (k : Nat) by omega, cz_nat, cz_nat, cz_nat]
      unfold back at r
      dsimp only at r
      by_cases h2 : t ≤ k + 1
      · rw [if_pos h2] at r
        rw [show ((k + 1 : Nat) : Int) - t = ((k + 1 - t : Nat) : Int) by omega, cz_nat]
        omega
      · rw [if_neg h2] at r
        rw [cz_neg (show ((k + 1 : Nat) : Int) - t < 0 by omega)]
        omega
def sg : Nat → Int
  | 0 => 1
  | n + 1 => - sg n
def altT (t d : Nat) (m : Int) (k : Nat) : Int := sg k * (bin d k : Nat) * B d (m - k * t)
def alt (t d : Nat) (m : Int) : Int := smZ (d + 1) (altT t d m)
theorem alt_rec (t d : Nat) (m : Int) : alt t (d + 1) m - alt t (d + 1) (m - 1) = alt t d m - alt t d (m - t) := by
  unfold alt
  rw [← smZ_sub]
  have e : smZ (d + 1 + 1) (fun k => altT t (d + 1) m k - altT t (d + 1) (m - 1) k) = smZ (d + 1 + 1) fun k => sg k * (bin (d + 1) k : Nat) * B d (m - k * t) := smZ_congr fun k _ => by
    unfold altT
    rw [← Int.mul_sub, show m - 1 - (k : Int) * t = m - k * t - 1 by omega, B_rec]
  rw [e, smZ_front]
  have e2 : smZ (d + 1) (fun i => sg (i + 1) * (bin (d + 1) (i + 1) : Nat) * B d (m - ((i + 1 : Nat) : Int) * t)) = smZ (d + 1) (fun i => - altT t d (m - t) i) + smZ (d + 1) (fun i => altT t d m (i + 1)) := by
    rw [← smZ_add]
    refine smZ_congr fun i _ => ?_
    unfold altT
    rw [bin_s, Int.natCast_add, show m - ((i + 1 : Nat) : Int) * t = m - t - i * t by rw [Int.natCast_add, Int.add_mul]; omega]
    show - sg i * _ * _ = - (sg i * _ * _) + - sg i * _ * _
    rw [Int.mul_add, Int.add_mul, Int.neg_mul, Int.neg_mul, Int.neg_mul]
  rw [e2, smZ_neg]
  have e3 : smZ (d + 1) (fun i => altT t d m (i + 1)) = smZ (d + 1) (altT t d m) - altT t d m 0 := by
    have h1 := smZ_front (d + 1) (altT t d m)
    have h2 : smZ (d + 1 + 1) (altT t d m) = smZ (d + 1) (altT t d m) + altT t d m (d + 1) := rfl
    have h3 : altT t d m (d + 1) = 0 := by
      unfold altT
      rw [bin_lt d (d + 1) (by omega)]
      simp
    omega
  rw [e3]
  have e4 : sg 0 * (bin (d + 1) 0 : Nat) * B d (m - ((0 : Nat) : Int) * t) = altT t d m 0 := by
    unfold altT
    rw [bin_0, bin_0]
  rw [e4]
  omega
theorem alt_neg {t d : Nat} {m : Int} (h : m < 0) : alt t d m = 0 := smZ_zero fun k _ => by
  unfold altT
  rw [B_neg, Int.mul_zero]
  have : (0 : Int) ≤ k * t := by exact_mod_cast Nat.zero_le _
  omega
theorem alt_cz (t : Nat) (ht : 0 < t) : ∀ (d : Nat) (m : Int), alt t d m = cz (some t) d m
  | 0, m => by
    unfold alt
    simp only [smZ, altT, sg, bin_0]
    by_cases h : m < 0
    · rw [B_neg (by simpa using h), cz_neg h]
      rfl
    · obtain ⟨k, rfl⟩ := Int.eq_ofNat_of_zero_le (Int.not_lt.mp h)
      rw [cz_nat]
      simp [B_nat, bin_0, cnt_0]
  | d + 1, m => by
    by_cases h : m < 0
    · rw [alt_neg h, cz_neg h]
    · obtain ⟨k, rfl⟩ := Int.eq_ofNat_of_zero_le (Int.not_lt.mp h)
      clear h
      induction k with
      | zero =>
        have h1 := alt_rec t d 0
        have h2 := cz_rec t ht d 0
        rw [alt_neg (show (0 : Int) - 1 < 0 by omega), alt_cz t ht d, alt_cz t ht d] at h1
        rw [cz_neg (show (0 : Int) - 1 < 0 by omega)] at h2
        show alt t (d + 1) 0 = cz (some t) (d + 1) 0
        omega
      | succ k ih =>
        have h1 := alt_rec t d ((k + 1 : Nat) : Int)
        have h2 := cz_rec t ht d ((k + 1 : Nat) : Int)
        rw [alt_cz t ht d, alt_cz t ht d, show ((k + 1 : Nat) : Int) - 1 = (k : Nat) by omega, ih] at h1
        rw [show ((k + 1 : Nat) : Int) - 1 = (k : Nat) by omega] at h2
        omega
end Mt

namespace Pg
open PySem L2 SI Mt
variable {c : Cl}
theorem pow_lt {n k : Nat} (h : n < 2 ^ 100) : (n + 1) ^ k ≤ 2 ^ (100 * k) := by
  rw [Nat.pow_mul]
  exact Nat.pow_le_pow_left (by omega) k
theorem choose_ok {n k : Nat} (hk : k ≤ n) (hn : n < 2 ^ 100) (hu : min k (n - k) ≤ 10000) (s : S) : G_choose c [.int n, .int k] s = .ok (.int (bin n k)) s := by
  obtain ⟨u, hu'⟩ : ∃ u : Nat, u = min k (n - k) := ⟨_, rfl⟩
  have eu : min (k : Int) ((n : Int) - k) = (u : Int) := by omega
  have hb : bin n u = bin n k := by
    rcases Nat.le_total k (n - k) with h | h
    · rw [show u = k by omega]
    · have := bin_symm k (n - k)
      rw [show k + (n - k) = n by omega] at this
      rw [show u = n - k by omega, this]
  apply eq_ok
  unfold G_choose
  simp (implicitDefEqProofs := false) only [eu, ↓w_srtT, ↓w_par2, ↓w_par3, ↓w_setd, ↓w_dict1, ↓w_maxDf, ↓w_slT, ↓w_addT, ↓w_dictT, ↓w_dictI, ↓w_get, ↓w_lrg1T, ↓w_lrg2T, ↓w_lrg1, ↓w_lrg2, ↓w_pop0, ↓w_lcT, ↓w_mth, ↓w_calm, ↓w_tryM, ↓w_tm0, ↓w_tmN, ↓w_tmS, ↓w_seq, ↓w_next, ↓w_break, ↓w_cont, ↓w_retN, ↓w_asg, ↓w_expr, ↓w_ret, ↓w_if, ↓w_asgG, ↓w_for, ↓w_put, ↓w_aug, ↓w_augS, ↓w_raise0, ↓w_raise1, ↓w_raise2, ↓w_try, ↓w_tryAs, ↓w_var, ↓w_c, ↓w_op, ↓w_chain, ↓w_notV, ↓w_andV, ↓w_orV, ↓w_ifE, ↓w_tst, ↓w_not, ↓w_and, ↓w_or, ↓w_yes, ↓w_nil, ↓w_cons, ↓w_tup, ↓w_lst, ↓w_lstT, ↓w_cb, ↓w_call, ↓w_callK, ↓w_neg, ↓w_no, ↓w_pt, ↓w_sl, ↓w_fld, ↓w_src, ↓w_rng, ↓w_enu, ↓w_listT, ↓w_app, ↓w_lc, ↓w_xf, ↓w_fldT, ↓w_make, ↓w_makeL, ↓w_run, ↓w_cut, ↓w_pure, ↓w_drop, nth2_eq, nth3_eq, w_ok, w_ex, w_nx, w_rt, w_bk, w_ct, w_exS, w_some, w_v, w_tr, w_fa, w_tb, w_ti, w_tn, w_L, w_L0, wb_not, cn_f, startD, arr, gN_eq, gTp, gTl, gCn, gNl, Option.bind_some, List.filterMap_cons, List.filterMap_nil, List.map_cons, List.map_nil, List.replicate_succ, List.replicate_zero, List.cons_append, List.nil_append, List.getElem?_cons_zero, List.getElem?_cons_succ, List.set_cons_zero, List.set_cons_succ, List.length_cons, List.length_nil, Nat.reduceAdd, Nat.reduceSub, Nat.reduceLeDiff, Nat.reduceEqDiff, Int.reducePow, Int.reduceToNat, Int.reduceNeg, Int.reduceAdd, Int.reduceMul, Int.reduceSub, Int.reduceLT, Int.reduceLE, Int.reduceEq, Nat.zero_add, Int.zero_add, big_eq, true_and, and_true, and_self, dSub_int, dAdd_int, dAddI_int, dLt_int, dLe_int, dGt_int, dGe_int, dEqD_int, bInt_int, bLen_lst, bLen_tup, bMin_int, bMax_int, bAbs_int, dIs_non, dIs_int, dIs_nn, Bool.not_true, Bool.not_false, decide_true, decide_false, reduceIte, Bool.false_eq_true, if_false, if_true, iSeq_lst, iSeq_tup, iSeq_rdl, iEnu_lst, iEnu_tup]
  rw [rng2 (by omega) (by omega) (by omega) (by omega), w_some, show ((u : Int) + 1 - 1).toNat = u by omega]
  refine ws_rng (fun i L s' => ∃ y, L = [some (.int n), some (.int u), some (.int (bin (n - u + i) i : Nat)), y] ∧ s' = s) ⟨none, by rw [bin_0]; rfl, rfl⟩ ?_ ?_
  · rintro i L s' hi ⟨y, rfl, rfl⟩
    simp (implicitDefEqProofs := false) only [↓w_srtT, ↓w_par2, ↓w_par3, ↓w_setd, ↓w_dict1, ↓w_maxDf, ↓w_slT, ↓w_addT, ↓w_dictT, ↓w_dictI, ↓w_get, ↓w_lrg1T, ↓w_lrg2T, ↓w_lrg1, ↓w_lrg2, ↓w_pop0, ↓w_lcT, ↓w_mth, ↓w_calm, ↓w_tryM, ↓w_tm0, ↓w_tmN, ↓w_tmS, ↓w_seq, ↓w_next, ↓w_break, ↓w_cont, ↓w_retN, ↓w_asg, ↓w_expr, ↓w_ret, ↓w_if, ↓w_asgG, ↓w_for, ↓w_put, ↓w_aug, ↓w_augS, ↓w_raise0, ↓w_raise1, ↓w_raise2, ↓w_try, ↓w_tryAs, ↓w_var, ↓w_c, ↓w_op, ↓w_chain, ↓w_notV, ↓w_andV, ↓w_orV, ↓w_ifE, ↓w_tst, ↓w_not, ↓w_and, ↓w_or, ↓w_yes, ↓w_nil, ↓w_cons, ↓w_tup, ↓w_lst, ↓w_lstT, ↓w_cb, ↓w_call, ↓w_callK, ↓w_neg, ↓w_no, ↓w_pt, ↓w_sl, ↓w_fld, ↓w_src, ↓w_rng, ↓w_enu, ↓w_listT, ↓w_app, ↓w_lc, ↓w_xf, ↓w_fldT, ↓w_make, ↓w_makeL, ↓w_run, ↓w_cut, ↓w_pure, ↓w_drop, nth2_eq, nth3_eq, w_ok, w_ex, w_nx, w_rt, w_bk, w_ct, w_exS, w_some, w_v, w_tr, w_fa, w_tb, w_ti, w_tn, w_L, w_L0, wb_not, cn_f, startD, arr, gN_eq, gTp, gTl, gCn, gNl, Option.bind_some, List.filterMap_cons, List.filterMap_nil, List.map_cons, List.map_nil, List.replicate_succ, List.replicate_zero, List.cons_append, List.nil_append, List.getElem?_cons_zero, List.getElem?_cons_succ, List.set_cons_zero, List.set_cons_succ, List.length_cons, List.length_nil, Nat.reduceAdd, Nat.reduceSub, Nat.reduceLeDiff, Nat.reduceEqDiff, Int.reducePow, Int.reduceToNat, Int.reduceNeg, Int.reduceAdd, Int.reduceMul, Int.reduceSub, Int.reduceLT, Int.reduceLE, Int.reduceEq, Nat.zero_add, Int.zero_add, big_eq, true_and, and_true, and_self, dSub_int, dAdd_int, dAddI_int, dLt_int, dLe_int, dGt_int, dGe_int, dEqD_int, bInt_int, bLen_lst, bLen_tup, bMin_int, bMax_int, bAbs_int, dIs_non, dIs_int, dIs_nn, Bool.not_true, Bool.not_false, decide_true, decide_false, reduceIte, Bool.false_eq_true, if_false, if_true, iSeq_lst, iSeq_tup, iSeq_rdl, iEnu_lst, iEnu_tup]
    have b1 : bin (n - u + i) i < 2 ^ (100 * i + 1) := by
      have h1 := bin_le_pow (n - u + i) i
      have h2 : (n - u + i + 1) ^ i ≤ (n + 1) ^ i := Nat.pow_le_pow_left (by omega) i
      have h3 := pow_lt (k := i) hn
      have h4 : 2 ^ (100 * i) < 2 ^ (100 * i + 1) := Nat.pow_lt_pow_right (by omega) (by omega)
      omega
    have e1 : (n : Int) - u + (1 + i) = ((n - u + i + 1 : Nat) : Int) := by omega
    have b2 : n - u + i + 1 < 2 ^ 101 := by
      have : 2 ^ 101 = 2 * 2 ^ 100 := by decide +kernel
      omega
    have e2 : (1 : Int) + i = ((i + 1 : Nat) : Int) := by omega
    rw [e1, e2, dMul_ok (bitsN b1) (bitsN b2) (by omega)]
    simp (implicitDefEqProofs := false) only [↓w_srtT, ↓w_par2, ↓w_par3, ↓w_setd, ↓w_dict1, ↓w_maxDf, ↓w_slT, ↓w_addT, ↓w_dictT, ↓w_dictI, ↓w_get, ↓w_lrg1T, ↓w_lrg2T, ↓w_lrg1, ↓w_lrg2, ↓w_pop0, ↓w_lcT, ↓w_mth, ↓w_calm, ↓w_tryM, ↓w_tm0, ↓w_tmN, ↓w_tmS, ↓w_seq, ↓w_next, ↓w_break, ↓w_cont, ↓w_retN, ↓w_asg, ↓w_expr, ↓w_ret, ↓w_if, ↓w_asgG, ↓w_for, ↓w_put, ↓w_aug, ↓w_augS, ↓w_raise0, ↓w_raise1, ↓w_raise2, ↓w_try, ↓w_tryAs, ↓w_var, ↓w_c, ↓w_op, ↓w_chain, ↓w_notV, ↓w_andV, ↓w_orV, ↓w_ifE, ↓w_tst, ↓w_not, ↓w_and, ↓w_or, ↓w_yes, ↓w_nil, ↓w_cons, ↓w_tup, ↓w_lst, ↓w_lstT, ↓w_cb, ↓w_call, ↓w_callK, ↓w_neg, ↓w_no, ↓w_pt, ↓w_sl, ↓w_fld, ↓w_src, ↓w_rng, ↓w_enu, ↓w_listT, ↓w_app, ↓w_lc, ↓w_xf, ↓w_fldT, ↓w_make, ↓w_makeL, ↓w_run, ↓w_cut, ↓w_pure, ↓w_drop, nth2_eq, nth3_eq, w_ok, w_ex, w_nx, w_rt, w_bk, w_ct, w_exS, w_some, w_v, w_tr, w_fa, w_tb, w_ti, w_tn, w_L, w_L0, wb_not, cn_f, startD, arr, gN_eq, gTp, gTl, gCn, gNl, Option.bind_some, List.filterMap_cons, List.filterMap_nil, List.map_cons, List.map_nil, List.replicate_succ, List.replicate_zero, List.cons_append, List.nil_append, List.getElem?_cons_zero, List.getElem?_cons_succ, List.set_cons_zero, List.set_cons_succ, List.length_cons, List.length_nil, Nat.reduceAdd, Nat.reduceSub, Nat.reduceLeDiff, Nat.reduceEqDiff, Int.reducePow, Int.reduceToNat, Int.reduceNeg, Int.reduceAdd, Int.reduceMul, Int.reduceSub, Int.reduceLT, Int.reduceLE, Int.reduceEq, Nat.zero_add, Int.zero_add, big_eq, true_and, and_true, and_self, dSub_int, dAdd_int, dAddI_int, dLt_int, dLe_int, dGt_int, dGe_int, dEqD_int, bInt_int, bLen_lst, bLen_tup, bMin_int, bMax_int, bAbs_int, dIs_non, dIs_int, dIs_nn, Bool.not_true, Bool.not_false, decide_true, decide_false, reduceIte, Bool.false_eq_true, if_false, if_true, iSeq_lst, iSeq_tup, iSeq_rdl, iEnu_lst, iEnu_tup]
    rw [dDiv_ok (a := 40) (by omega) (bitsN (show i + 1 < 2 ^ 40 by omega)) (by omega)]
    simp (implicitDefEqProofs := false) only [↓w_srtT, ↓w_par2, ↓w_par3, ↓w_setd, ↓w_dict1, ↓w_maxDf, ↓w_slT, ↓w_addT, ↓w_dictT, ↓w_dictI, ↓w_get, ↓w_lrg1T, ↓w_lrg2T, ↓w_lrg1, ↓w_lrg2, ↓w_pop0, ↓w_lcT, ↓w_mth, ↓w_calm, ↓w_tryM, ↓w_tm0, ↓w_tmN, ↓w_tmS, ↓w_seq, ↓w_next, ↓w_break, ↓w_cont, ↓w_retN, ↓w_asg, ↓w_expr, ↓w_ret, ↓w_if, ↓w_asgG, ↓w_for, ↓w_put, ↓w_aug, ↓w_augS, ↓w_raise0, ↓w_raise1, ↓w_raise2, ↓w_try, ↓w_tryAs, ↓w_var, ↓w_c, ↓w_op, ↓w_chain, ↓w_notV, ↓w_andV, ↓w_orV, ↓w_ifE, ↓w_tst, ↓w_not, ↓w_and, ↓w_or, ↓w_yes, ↓w_nil, ↓w_cons, ↓w_tup, ↓w_lst, ↓w_lstT, ↓w_cb, ↓w_call, ↓w_callK, ↓w_neg, ↓w_no, ↓w_pt, ↓w_sl, ↓w_fld, ↓w_src, ↓w_rng, ↓w_enu, ↓w_listT, ↓w_app, ↓w_lc, ↓w_xf, ↓w_fldT, ↓w_make, ↓w_makeL, ↓w_run, ↓w_cut, ↓w_pure, ↓w_drop, nth2_eq, nth3_eq, w_ok, w_ex, w_nx, w_rt, w_bk, w_ct, w_exS, w_some, w_v, w_tr, w_fa, w_tb, w_ti, w_tn, w_L, w_L0, wb_not, cn_f, startD, arr, gN_eq, gTp, gTl, gCn, gNl, Option.bind_some, List.filterMap_cons, List.filterMap_nil, List.map_cons, List.map_nil, List.replicate_succ, List.replicate_zero, List.cons_append, List.nil_append, List.getElem?_cons_zero, List.getElem?_cons_succ, List.set_cons_zero, List.set_cons_succ, List.length_cons, List.length_nil, Nat.reduceAdd, Nat.reduceSub, Nat.reduceLeDiff, Nat.reduceEqDiff, Int.reducePow, Int.reduceToNat, Int.reduceNeg, Int.reduceAdd, Int.reduceMul, Int.reduceSub, Int.reduceLT, Int.reduceLE, Int.reduceEq, Nat.zero_add, Int.zero_add, big_eq, true_and, and_true, and_self, dSub_int, dAdd_int, dAddI_int, dLt_int, dLe_int, dGt_int, dGe_int, dEqD_int, bInt_int, bLen_lst, bLen_tup, bMin_int, bMax_int, bAbs_int, dIs_non, dIs_int, dIs_nn, Bool.not_true, Bool.not_false, decide_true, decide_false, reduceIte, Bool.false_eq_true, if_false, if_true, iSeq_lst, iSeq_tup, iSeq_rdl, iEnu_lst, iEnu_tup]
    have ab := bin_absorb (n - u + i) i
    have e3 : ((bin (n - u + i) i : Nat) : Int) * ((n - u + i + 1 : Nat) : Int) / ((i + 1 : Nat) : Int) = (bin (n - u + (i + 1)) (i + 1) : Nat) := by
      have e4 : ((bin (n - u + i) i : Nat) : Int) * ((n - u + i + 1 : Nat) : Int) = ((bin (n - u + (i + 1)) (i + 1) : Nat) : Int) * ((i + 1 : Nat) : Int) := by
        rw [Int.mul_comm, Int.mul_comm ((bin (n - u + (i + 1)) (i + 1) : Nat) : Int)]
        exact_mod_cast ab.symm
      rw [e4]
      exact Int.mul_ediv_cancel _ (by omega)
    rw [e3]
    exact ⟨_, rfl⟩
  · rintro L s' ⟨y, rfl, rfl⟩
    simp (implicitDefEqProofs := false) only [show n - u + u = n by omega, hb, ↓w_srtT, ↓w_par2, ↓w_par3, ↓w_setd, ↓w_dict1, ↓w_maxDf, ↓w_slT, ↓w_addT, ↓w_dictT, ↓w_dictI, ↓w_get, ↓w_lrg1T, ↓w_lrg2T, ↓w_lrg1, ↓w_lrg2, ↓w_pop0, ↓w_lcT, ↓w_mth, ↓w_calm, ↓w_tryM, ↓w_tm0, ↓w_tmN, ↓w_tmS, ↓w_seq, ↓w_next, ↓w_break, ↓w_cont, ↓w_retN, ↓w_asg, ↓w_expr, ↓w_ret, ↓w_if, ↓w_asgG, ↓w_for, ↓w_put, ↓w_aug, ↓w_augS, ↓w_raise0, ↓w_raise1, ↓w_raise2, ↓w_try, ↓w_tryAs, ↓w_var, ↓w_c, ↓w_op, ↓w_chain, ↓w_notV, ↓w_andV, ↓w_orV, ↓w_ifE, ↓w_tst, ↓w_not, ↓w_and, ↓w_or, ↓w_yes, ↓w_nil, ↓w_cons, ↓w_tup, ↓w_lst, ↓w_lstT, ↓w_cb, ↓w_call, ↓w_callK, ↓w_neg, ↓w_no, ↓w_pt, ↓w_sl, ↓w_fld, ↓w_src, ↓w_rng, ↓w_enu, ↓w_listT, ↓w_app, ↓w_lc, ↓w_xf, ↓w_fldT, ↓w_make, ↓w_makeL, ↓w_run, ↓w_cut, ↓w_pure, ↓w_drop, nth2_eq, nth3_eq, w_ok, w_ex, w_nx, w_rt, w_bk, w_ct, w_exS, w_some, w_v, w_tr, w_fa, w_tb, w_ti, w_tn, w_L, w_L0, wb_not, cn_f, startD, arr, gN_eq, gTp, gTl, gCn, gNl, Option.bind_some, List.filterMap_cons, List.filterMap_nil, List.map_cons, List.map_nil, List.replicate_succ, List.replicate_zero, List.cons_append, List.nil_append, List.getElem?_cons_zero, List.getElem?_cons_succ, List.set_cons_zero, List.set_cons_succ, List.length_cons, List.length_nil, Nat.reduceAdd, Nat.reduceSub, Nat.reduceLeDiff, Nat.reduceEqDiff, Int.reducePow, Int.reduceToNat, Int.reduceNeg, Int.reduceAdd, Int.reduceMul, Int.reduceSub, Int.reduceLT, Int.reduceLE, Int.reduceEq, Nat.zero_add, Int.zero_add, big_eq, true_and, and_true, and_self, dSub_int, dAdd_int, dAddI_int, dLt_int, dLe_int, dGt_int, dGe_int, dEqD_int, bInt_int, bLen_lst, bLen_tup, bMin_int, bMax_int, bAbs_int, dIs_non, dIs_int, dIs_nn, Bool.not_true, Bool.not_false, decide_true, decide_false, reduceIte, Bool.false_eq_true, if_false, if_true, iSeq_lst, iSeq_tup, iSeq_rdl, iEnu_lst, iEnu_tup]
theorem power_ok {b k : Nat} (hb : b < 2 ^ 100) (hk : k ≤ 10000) (s : S) : G_power c [.int b, .int k] s = .ok (.int ((b ^ k : Nat) : Int)) s := by
  apply eq_ok
  unfold G_power
  simp (implicitDefEqProofs := false) only [↓w_srtT, ↓w_par2, ↓w_par3, ↓w_setd, ↓w_dict1, ↓w_maxDf, ↓w_slT, ↓w_addT, ↓w_dictT, ↓w_dictI, ↓w_get, ↓w_lrg1T, ↓w_lrg2T, ↓w_lrg1, ↓w_lrg2, ↓w_pop0, ↓w_lcT, ↓w_mth, ↓w_calm, ↓w_tryM, ↓w_tm0, ↓w_tmN, ↓w_tmS, ↓w_seq, ↓w_next, ↓w_break, ↓w_cont, ↓w_retN, ↓w_asg, ↓w_expr, ↓w_ret, ↓w_if, ↓w_asgG, ↓w_for, ↓w_put, ↓w_aug, ↓w_augS, ↓w_raise0, ↓w_raise1, ↓w_raise2, ↓w_try, ↓w_tryAs, ↓w_var, ↓w_c, ↓w_op, ↓w_chain, ↓w_notV, ↓w_andV, ↓w_orV, ↓w_ifE, ↓w_tst, ↓w_not, ↓w_and, ↓w_or, ↓w_yes, ↓w_nil, ↓w_cons, ↓w_tup, ↓w_lst, ↓w_lstT, ↓w_cb, ↓w_call, ↓w_callK, ↓w_neg, ↓w_no, ↓w_pt, ↓w_sl, ↓w_fld, ↓w_src, ↓w_rng, ↓w_enu, ↓w_listT, ↓w_app, ↓w_lc, ↓w_xf, ↓w_fldT, ↓w_make, ↓w_makeL, ↓w_run, ↓w_cut, ↓w_pure, ↓w_drop, nth2_eq, nth3_eq, w_ok, w_ex, w_nx, w_rt, w_bk, w_ct, w_exS, w_some, w_v, w_tr, w_fa, w_tb, w_ti, w_tn, w_L, w_L0, wb_not, cn_f, startD, arr, gN_eq, gTp, gTl, gCn, gNl, Option.bind_some, List.filterMap_cons, List.filterMap_nil, List.map_cons, List.map_nil, List.replicate_succ, List.replicate_zero, List.cons_append, List.nil_append, List.getElem?_cons_zero, List.getElem?_cons_succ, List.set_cons_zero, List.set_cons_succ, List.length_cons, List.length_nil, Nat.reduceAdd, Nat.reduceSub, Nat.reduceLeDiff, Nat.reduceEqDiff, Int.reducePow, Int.reduceToNat, Int.reduceNeg, Int.reduceAdd, Int.reduceMul, Int.reduceSub, Int.reduceLT, Int.reduceLE, Int.reduceEq, Nat.zero_add, Int.zero_add, big_eq, true_and, and_true, and_self, dSub_int, dAdd_int, dAddI_int, dLt_int, dLe_int, dGt_int, dGe_int, dEqD_int, bInt_int, bLen_lst, bLen_tup, bMin_int, bMax_int, bAbs_int, dIs_non, dIs_int, dIs_nn, Bool.not_true, Bool.not_false, decide_true, decide_false, reduceIte, Bool.false_eq_true, if_false, if_true, iSeq_lst, iSeq_tup, iSeq_rdl, iEnu_lst, iEnu_tup]
  rw [rng1 (by omega) (by omega), w_some, Int.toNat_natCast]
  refine ws_rng (fun i L s' => ∃ y, L = [some (.int b), some (.int k), some (.int ((b ^ i : Nat) : Int)), y] ∧ s' = s) ⟨none, rfl, rfl⟩ ?_ ?_
  · rintro i L s' hi ⟨y, rfl, rfl⟩
    simp (implicitDefEqProofs := false) only [↓w_srtT, ↓w_par2, ↓w_par3, ↓w_setd, ↓w_dict1, ↓w_maxDf, ↓w_slT, ↓w_addT, ↓w_dictT, ↓w_dictI, ↓w_get, ↓w_lrg1T, ↓w_lrg2T, ↓w_lrg1, ↓w_lrg2, ↓w_pop0, ↓w_lcT, ↓w_mth, ↓w_calm, ↓w_tryM, ↓w_tm0, ↓w_tmN, ↓w_tmS, ↓w_seq, ↓w_next, ↓w_break, ↓w_cont, ↓w_retN, ↓w_asg, ↓w_expr, ↓w_ret, ↓w_if, ↓w_asgG, ↓w_for, ↓w_put, ↓w_aug, ↓w_augS, ↓w_raise0, ↓w_raise1, ↓w_raise2, ↓w_try, ↓w_tryAs, ↓w_var, ↓w_c, ↓w_op, ↓w_chain, ↓w_notV, ↓w_andV, ↓w_orV, ↓w_ifE, ↓w_tst, ↓w_not, ↓w_and, ↓w_or, ↓w_yes, ↓w_nil, ↓w_cons, ↓w_tup, ↓w_lst, ↓w_lstT, ↓w_cb, ↓w_call, ↓w_callK, ↓w_neg, ↓w_no, ↓w_pt, ↓w_sl, ↓w_fld, ↓w_src, ↓w_rng, ↓w_enu, ↓w_listT, ↓w_app, ↓w_lc, ↓w_xf, ↓w_fldT, ↓w_make, ↓w_makeL, ↓w_run, ↓w_cut, ↓w_pure, ↓w_drop, nth2_eq, nth3_eq, w_ok, w_ex, w_nx, w_rt, w_bk, w_ct, w_exS, w_some, w_v, w_tr, w_fa, w_tb, w_ti, w_tn, w_L, w_L0, wb_not, cn_f, startD, arr, gN_eq, gTp, gTl, gCn, gNl, Option.bind_some, List.filterMap_cons, List.filterMap_nil, List.map_cons, List.map_nil, List.replicate_succ, List.replicate_zero, List.cons_append, List.nil_append, List.getElem?_cons_zero, List.getElem?_cons_succ, List.set_cons_zero, List.set_cons_succ, List.length_cons, List.length_nil, Nat.reduceAdd, Nat.reduceSub, Nat.reduceLeDiff, Nat.reduceEqDiff, Int.reducePow, Int.reduceToNat, Int.reduceNeg, Int.reduceAdd, Int.reduceMul, Int.reduceSub, Int.reduceLT, Int.reduceLE, Int.reduceEq, Nat.zero_add, Int.zero_add, big_eq, true_and, and_true, and_self, dSub_int, dAdd_int, dAddI_int, dLt_int, dLe_int, dGt_int, dGe_int, dEqD_int, bInt_int, bLen_lst, bLen_tup, bMin_int, bMax_int, bAbs_int, dIs_non, dIs_int, dIs_nn, Bool.not_true, Bool.not_false, decide_true, decide_false, reduceIte, Bool.false_eq_true, if_false, if_true, iSeq_lst, iSeq_tup, iSeq_rdl, iEnu_lst, iEnu_tup]
    have b1 : b ^ i < 2 ^ (100 * i + 1) := by
      have h1 : b ^ i ≤ (2 ^ 100) ^ i := Nat.pow_le_pow_left (by omega) i
      rw [← Nat.pow_mul] at h1
      have h4 : 2 ^ (100 * i) < 2 ^ (100 * i + 1) := Nat.pow_lt_pow_right (by omega) (by omega)
      omega
    rw [dMul_ok (bitsN b1) (bitsN hb) (by omega)]
    simp (implicitDefEqProofs := false) only [↓w_srtT, ↓w_par2, ↓w_par3, ↓w_setd, ↓w_dict1, ↓w_maxDf, ↓w_slT, ↓w_addT, ↓w_dictT, ↓w_dictI, ↓w_get, ↓w_lrg1T, ↓w_lrg2T, ↓w_lrg1, ↓w_lrg2, ↓w_pop0, ↓w_lcT, ↓w_mth, ↓w_calm, ↓w_tryM, ↓w_tm0, ↓w_tmN, ↓w_tmS, ↓w_seq, ↓w_next, ↓w_break, ↓w_cont, ↓w_retN, ↓w_asg, ↓w_expr, ↓w_ret, ↓w_if, ↓w_asgG, ↓w_for, ↓w_put, ↓w_aug, ↓w_augS, ↓w_raise0, ↓w_raise1, ↓w_raise2, ↓w_try, ↓w_tryAs, ↓w_var, ↓w_c, ↓w_op, ↓w_chain, ↓w_notV, ↓w_andV, ↓w_orV, ↓w_ifE, ↓w_tst, ↓w_not, ↓w_and, ↓w_or, ↓w_yes, ↓w_nil, ↓w_cons, ↓w_tup, ↓w_lst, ↓w_lstT, ↓w_cb, ↓w_call, ↓w_callK, ↓w_neg, ↓w_no, ↓w_pt, ↓w_sl, ↓w_fld, ↓w_src, ↓w_rng, ↓w_enu, ↓w_listT, ↓w_app, ↓w_lc, ↓w_xf, ↓w_fldT, ↓w_make, ↓w_makeL, ↓w_run, ↓w_cut, ↓w_pure, ↓w_drop, nth2_eq, nth3_eq, w_ok, w_ex, w_nx, w_rt, w_bk, w_ct, w_exS, w_some, w_v, w_tr, w_fa, w_tb, w_ti, w_tn, w_L, w_L0, wb_not, cn_f, startD, arr, gN_eq, gTp, gTl, gCn, gNl, Option.bind_some, List.filterMap_cons, List.filterMap_nil, List.map_cons, List.map_nil, List.replicate_succ, List.replicate_zero, List.cons_append, List.nil_append, List.getElem?_cons_zero, List.getElem?_cons_succ, List.set_cons_zero, List.set_cons_succ, List.length_cons, List.length_nil, Nat.reduceAdd, Nat.reduceSub, Nat.reduceLeDiff, Nat.reduceEqDiff, Int.reducePow, Int.reduceToNat, Int.reduceNeg, Int.reduceAdd, Int.reduceMul, Int.reduceSub, Int.reduceLT, Int.reduceLE, Int.reduceEq, Nat.zero_add, Int.zero_add, big_eq, true_and, and_true, and_self, dSub_int, dAdd_int, dAddI_int, dLt_int, dLe_int, dGt_int, dGe_int, dEqD_int, bInt_int, bLen_lst, bLen_tup, bMin_int, bMax_int, bAbs_int, dIs_non, dIs_int, dIs_nn, Bool.not_true, Bool.not_false, decide_true, decide_false, reduceIte, Bool.false_eq_true, if_false, if_true, iSeq_lst, iSeq_tup, iSeq_rdl, iEnu_lst, iEnu_tup]
    refine ⟨some (.int (i : Int)), ?_⟩
    rw [Nat.pow_succ, Int.natCast_mul]
  · rintro L s' ⟨y, rfl, rfl⟩
    simp (implicitDefEqProofs := false) only [↓w_srtT, ↓w_par2, ↓w_par3, ↓w_setd, ↓w_dict1, ↓w_maxDf, ↓w_slT, ↓w_addT, ↓w_dictT, ↓w_dictI, ↓w_get, ↓w_lrg1T, ↓w_lrg2T, ↓w_lrg1, ↓w_lrg2, ↓w_pop0, ↓w_lcT, ↓w_mth, ↓w_calm, ↓w_tryM, ↓w_tm0, ↓w_tmN, ↓w_tmS, ↓w_seq, ↓w_next, ↓w_break, ↓w_cont, ↓w_retN, ↓w_asg, ↓w_expr, ↓w_ret, ↓w_if, ↓w_asgG, ↓w_for, ↓w_put, ↓w_aug, ↓w_augS, ↓w_raise0, ↓w_raise1, ↓w_raise2, ↓w_try, ↓w_tryAs, ↓w_var, ↓w_c, ↓w_op, ↓w_chain, ↓w_notV, ↓w_andV, ↓w_orV, ↓w_ifE, ↓w_tst, ↓w_not, ↓w_and, ↓w_or, ↓w_yes, ↓w_nil, ↓w_cons, ↓w_tup, ↓w_lst, ↓w_lstT, ↓w_cb, ↓w_call, ↓w_callK, ↓w_neg, ↓w_no, ↓w_pt, ↓w_sl, ↓w_fld, ↓w_src, ↓w_rng, ↓w_enu, ↓w_listT, ↓w_app, ↓w_lc, ↓w_xf, ↓w_fldT, ↓w_make, ↓w_makeL, ↓w_run, ↓w_cut, ↓w_pure, ↓w_drop, nth2_eq, nth3_eq, w_ok, w_ex, w_nx, w_rt, w_bk, w_ct, w_exS, w_some, w_v, w_tr, w_fa, w_tb, w_ti, w_tn, w_L, w_L0, wb_not, cn_f, startD, arr, gN_eq, gTp, gTl, gCn, gNl, Option.bind_some, List.filterMap_cons, List.filterMap_nil, List.map_cons, List.map_nil, List.replicate_succ, List.replicate_zero, List.cons_append, List.nil_append, List.getElem?_cons_zero, List.getElem?_cons_succ, List.set_cons_zero, List.set_cons_succ, List.length_cons, List.length_nil, Nat.reduceAdd, Nat.reduceSub, Nat.reduceLeDiff, Nat.reduceEqDiff, Int.reducePow, Int.reduceToNat, Int.reduceNeg, Int.reduceAdd, Int.reduceMul, Int.reduceSub, Int.reduceLT, Int.reduceLE, Int.reduceEq, Nat.zero_add, Int.zero_add, big_eq, true_and, and_true, and_self, dSub_int, dAdd_int, dAddI_int, dLt_int, dLe_int, dGt_int, dGe_int, dEqD_int, bInt_int, bLen_lst, bLen_tup, bMin_int, bMax_int, bAbs_int, dIs_non, dIs_int, dIs_nn, Bool.not_true, Bool.not_false, decide_true, decide_false, reduceIte, Bool.false_eq_true, if_false, if_true, iSeq_lst, iSeq_tup, iSeq_rdl, iEnu_lst, iEnu_tup]
/-! ### the number of turns -/
def tD : Option Nat → D
  | none => .non
  | some t => .int t
def OkT (t : Option Nat) : Prop := ∀ n, t = some n → 1 ≤ n ∧ n ≤ 10 ^ 12
theorem OkT.ne {t : Option Nat} (h : OkT t) : t ≠ some 0 := fun e => by
  have := (h 0 e).1
  omega
theorem alt_sum {t d m : Nat} (ht : 0 < t) (K : Nat) (hK : K = min d (m / t)) : smZ (K + 1) (fun k => sg k * (bin d k : Nat) * (bin (m - k * t + d) d : Nat)) = (cnt (some t) d m : Nat) := by
  rw [← cz_nat, ← alt_cz t ht]
  unfold alt
  have e : smZ (d + 1) (altT t d m) = smZ (K + 1) (altT t d m) := smZ_extend (by omega) fun i h1 h2 => by
    unfold altT
    rw [B_neg, Int.mul_zero]
    have h3 : m / t < i := by omega
    have h4 : m < i * t := (Nat.div_lt_iff_lt_mul ht).mp h3
    have : (m : Int) < ((i * t : Nat) : Int) := by exact_mod_cast h4
    rw [Int.natCast_mul] at this
    omega
  rw [e]
  refine smZ_congr fun k hk => ?_
  unfold altT
  have h3 : k ≤ m / t := by omega
  have h4 : k * t ≤ m := (Nat.le_div_iff_mul_le ht).mp h3
  rw [show (m : Int) - (k : Int) * (t : Int) = ((m - k * t : Nat) : Int) by rw [← Int.natCast_mul]; omega, B_nat]
theorem bin_bits {n k : Nat} (hn : n < 2 ^ 100) : bin n k < 2 ^ (100 * k + 1) := by
  have h1 := bin_le_pow n k
  have h3 := pow_lt (k := k) hn
  have h4 : 2 ^ (100 * k) < 2 ^ (100 * k + 1) := Nat.pow_lt_pow_right (by omega) (by omega)
  omega
theorem sg_mod : ∀ n : Nat, sg n = if n % 2 = 1 then -1 else 1
  | 0 => rfl
  | n + 1 => by
    rw [sg, sg_mod n]
    by_cases h : n % 2 = 1
    · rw [if_pos h, if_neg (by omega)]
      rfl
    · rw [if_neg h, if_pos (by omega)]
theorem tuples_ok {t : Option Nat} (ht : OkT t) {d : Nat} {m : Int} (hd : d ≤ 5000) (hm : m < 10 ^ 25) (s : S) : G_tuples_up_to c [.int d, .int m, tD t] s = .ok (.int (cz t d m)) s := by
  have p25 : (10 : Int) ^ 25 = 10000000000000000000000000 := rfl
  have p100 : (2 : Nat) ^ 100 = 1267650600228229401496703205376 := by decide +kernel
  by_cases h0 : m < 0
  · rw [cz_neg h0]
    apply eq_ok
    unfold G_tuples_up_to
    simp (implicitDefEqProofs := false) only [h0, ↓w_srtT, ↓w_par2, ↓w_par3, ↓w_setd, ↓w_dict1, ↓w_maxDf, ↓w_slT, ↓w_addT, ↓w_dictT, ↓w_dictI, ↓w_get, ↓w_lrg1T, ↓w_lrg2T, ↓w_lrg1, ↓w_lrg2, ↓w_pop0, ↓w_lcT, ↓w_mth, ↓w_calm, ↓w_tryM, ↓w_tm0, ↓w_tmN, ↓w_tmS, ↓w_seq, ↓w_next, ↓w_break, ↓w_cont, ↓w_retN, ↓w_asg, ↓w_expr, ↓w_ret, ↓w_if, ↓w_asgG, ↓w_for, ↓w_put, ↓w_aug, ↓w_augS, ↓w_raise0, ↓w_raise1, ↓w_raise2, ↓w_try, ↓w_tryAs, ↓w_var, ↓w_c, ↓w_op, ↓w_chain, ↓w_notV, ↓w_andV, ↓w_orV, ↓w_ifE, ↓w_tst, ↓w_not, ↓w_and, ↓w_or, ↓w_yes, ↓w_nil, ↓w_cons, ↓w_tup, ↓w_lst, ↓w_lstT, ↓w_cb, ↓w_call, ↓w_callK, ↓w_neg, ↓w_no, ↓w_pt, ↓w_sl, ↓w_fld, ↓w_src, ↓w_rng, ↓w_enu, ↓w_listT, ↓w_app, ↓w_lc, ↓w_xf, ↓w_fldT, ↓w_make, ↓w_makeL, ↓w_run, ↓w_cut, ↓w_pure, ↓w_drop, nth2_eq, nth3_eq, w_ok, w_ex, w_nx, w_rt, w_bk, w_ct, w_exS, w_some, w_v, w_tr, w_fa, w_tb, w_ti, w_tn, w_L, w_L0, wb_not, cn_f, startD, arr, gN_eq, gTp, gTl, gCn, gNl, Option.bind_some, List.filterMap_cons, List.filterMap_nil, List.map_cons, List.map_nil, List.replicate_succ, List.replicate_zero, List.cons_append, List.nil_append, List.getElem?_cons_zero, List.getElem?_cons_succ, List.set_cons_zero, List.set_cons_succ, List.length_cons, List.length_nil, Nat.reduceAdd, Nat.reduceSub, Nat.reduceLeDiff, Nat.reduceEqDiff, Int.reducePow, Int.reduceToNat, Int.reduceNeg, Int.reduceAdd, Int.reduceMul, Int.reduceSub, Int.reduceLT, Int.reduceLE, Int.reduceEq, Nat.zero_add, Int.zero_add, big_eq, true_and, and_true, and_self, dSub_int, dAdd_int, dAddI_int, dLt_int, dLe_int, dGt_int, dGe_int, dEqD_int, bInt_int, bLen_lst, bLen_tup, bMin_int, bMax_int, bAbs_int, dIs_non, dIs_int, dIs_nn, Bool.not_true, Bool.not_false, decide_true, decide_false, reduceIte, Bool.false_eq_true, if_false, if_true, iSeq_lst, iSeq_tup, iSeq_rdl, iEnu_lst, iEnu_tup]
  · obtain ⟨k, rfl⟩ := Int.eq_ofNat_of_zero_le (Int.not_lt.mp h0)
    rw [cz_nat]
    apply eq_ok
    unfold G_tuples_up_to
    cases t with
    | none =>
      simp (implicitDefEqProofs := false) only [h0, tD, ↓w_srtT, ↓w_par2, ↓w_par3, ↓w_setd, ↓w_dict1, ↓w_maxDf, ↓w_slT, ↓w_addT, ↓w_dictT, ↓w_dictI, ↓w_get, ↓w_lrg1T, ↓w_lrg2T, ↓w_lrg1, ↓w_lrg2, ↓w_pop0, ↓w_lcT, ↓w_mth, ↓w_calm, ↓w_tryM, ↓w_tm0, ↓w_tmN, ↓w_tmS, ↓w_seq, ↓w_next, ↓w_break, ↓w_cont, ↓w_retN, ↓w_asg, ↓w_expr, ↓w_ret, ↓w_if, ↓w_asgG, ↓w_for, ↓w_put, ↓w_aug, ↓w_augS, ↓w_raise0, ↓w_raise1, ↓w_raise2, ↓w_try, ↓w_tryAs, ↓w_var, ↓w_c, ↓w_op, ↓w_chain, ↓w_notV, ↓w_andV, ↓w_orV, ↓w_ifE, ↓w_tst, ↓w_not, ↓w_and, ↓w_or, ↓w_yes, ↓w_nil, ↓w_cons, ↓w_tup, ↓w_lst, ↓w_lstT, ↓w_cb, ↓w_call, ↓w_callK, ↓w_neg, ↓w_no, ↓w_pt, ↓w_sl, ↓w_fld, ↓w_src, ↓w_rng, ↓w_enu, ↓w_listT, ↓w_app, ↓w_lc, ↓w_xf, ↓w_fldT, ↓w_make, ↓w_makeL, ↓w_run, ↓w_cut, ↓w_pure, ↓w_drop, nth2_eq, nth3_eq, w_ok, w_ex, w_nx, w_rt, w_bk, w_ct, w_exS, w_some, w_v, w_tr, w_fa, w_tb, w_ti, w_tn, w_L, w_L0, wb_not, cn_f, startD, arr, gN_eq, gTp, gTl, gCn, gNl, Option.bind_some, List.filterMap_cons, List.filterMap_nil, List.map_cons, List.map_nil, List.replicate_succ, List.replicate_zero, List.cons_append, List.nil_append, List.getElem?_cons_zero, List.getElem?_cons_succ, List.set_cons_zero, List.set_cons_succ, List.length_cons, List.length_nil, Nat.reduceAdd, Nat.reduceSub, Nat.reduceLeDiff, Nat.reduceEqDiff, Int.reducePow, Int.reduceToNat, Int.reduceNeg, Int.reduceAdd, Int.reduceMul, Int.reduceSub, Int.reduceLT, Int.reduceLE, Int.reduceEq, Nat.zero_add, Int.zero_add, big_eq, true_and, and_true, and_self, dSub_int, dAdd_int, dAddI_int, dLt_int, dLe_int, dGt_int, dGe_int, dEqD_int, bInt_int, bLen_lst, bLen_tup, bMin_int, bMax_int, bAbs_int, dIs_non, dIs_int, dIs_nn, Bool.not_true, Bool.not_false, decide_true, decide_false, reduceIte, Bool.false_eq_true, if_false, if_true, iSeq_lst, iSeq_tup, iSeq_rdl, iEnu_lst, iEnu_tup]
      rw [← Int.natCast_add, choose_ok (by omega) (by omega) (by omega)]
      simp (implicitDefEqProofs := false) only [cnt_none, ↓w_srtT, ↓w_par2, ↓w_par3, ↓w_setd, ↓w_dict1, ↓w_maxDf, ↓w_slT, ↓w_addT, ↓w_dictT, ↓w_dictI, ↓w_get, ↓w_lrg1T, ↓w_lrg2T, ↓w_lrg1, ↓w_lrg2, ↓w_pop0, ↓w_lcT, ↓w_mth, ↓w_calm, ↓w_tryM, ↓w_tm0, ↓w_tmN, ↓w_tmS, ↓w_seq, ↓w_next, ↓w_break, ↓w_cont, ↓w_retN, ↓w_asg, ↓w_expr, ↓w_ret, ↓w_if, ↓w_asgG, ↓w_for, ↓w_put, ↓w_aug, ↓w_augS, ↓w_raise0, ↓w_raise1, ↓w_raise2, ↓w_try, ↓w_tryAs, ↓w_var, ↓w_c, ↓w_op, ↓w_chain, ↓w_notV, ↓w_andV, ↓w_orV, ↓w_ifE, ↓w_tst, ↓w_not, ↓w_and, ↓w_or, ↓w_yes, ↓w_nil, ↓w_cons, ↓w_tup, ↓w_lst, ↓w_lstT, ↓w_cb, ↓w_call, ↓w_callK, ↓w_neg, ↓w_no, ↓w_pt, ↓w_sl, ↓w_fld, ↓w_src, ↓w_rng, ↓w_enu, ↓w_listT, ↓w_app, ↓w_lc, ↓w_xf, ↓w_fldT, ↓w_make, ↓w_makeL, ↓w_run, ↓w_cut, ↓w_pure, ↓w_drop, nth2_eq, nth3_eq, w_ok, w_ex, w_nx, w_rt, w_bk, w_ct, w_exS, w_some, w_v, w_tr, w_fa, w_tb, w_ti, w_tn, w_L, w_L0, wb_not, cn_f, startD, arr, gN_eq, gTp, gTl, gCn, gNl, Option.bind_some, List.filterMap_cons, List.filterMap_nil, List.map_cons, List.map_nil, List.replicate_succ, List.replicate_zero, List.cons_append, List.nil_append, List.getElem?_cons_zero, List.getElem?_cons_succ, List.set_cons_zero, List.set_cons_succ, List.length_cons, List.length_nil, Nat.reduceAdd, Nat.reduceSub, Nat.reduceLeDiff, Nat.reduceEqDiff, Int.reducePow, Int.reduceToNat, Int.reduceNeg, Int.reduceAdd, Int.reduceMul, Int.reduceSub, Int.reduceLT, Int.reduceLE, Int.reduceEq, Nat.zero_add, Int.zero_add, big_eq, true_and, and_true, and_self, dSub_int, dAdd_int, dAddI_int, dLt_int, dLe_int, dGt_int, dGe_int, dEqD_int, bInt_int, bLen_lst, bLen_tup, bMin_int, bMax_int, bAbs_int, dIs_non, dIs_int, dIs_nn, Bool.not_true, Bool.not_false, decide_true, decide_false, reduceIte, Bool.false_eq_true, if_false, if_true, iSeq_lst, iSeq_tup, iSeq_rdl, iEnu_lst, iEnu_tup]
    | some t =>
      obtain ⟨t1, t2⟩ := ht t rfl
      simp (implicitDefEqProofs := false) only [h0, tD, ↓w_srtT, ↓w_par2, ↓w_par3, ↓w_setd, ↓w_dict1, ↓w_maxDf, ↓w_slT, ↓w_addT, ↓w_dictT, ↓w_dictI, ↓w_get, ↓w_lrg1T, ↓w_lrg2T, ↓w_lrg1, ↓w_lrg2, ↓w_pop0, ↓w_lcT, ↓w_mth, ↓w_calm, ↓w_tryM, ↓w_tm0, ↓w_tmN, ↓w_tmS, ↓w_seq, ↓w_next, ↓w_break, ↓w_cont, ↓w_retN, ↓w_asg, ↓w_expr, ↓w_ret, ↓w_if, ↓w_asgG, ↓w_for, ↓w_put, ↓w_aug, ↓w_augS, ↓w_raise0, ↓w_raise1, ↓w_raise2, ↓w_try, ↓w_tryAs, ↓w_var, ↓w_c, ↓w_op, ↓w_chain, ↓w_notV, ↓w_andV, ↓w_orV, ↓w_ifE, ↓w_tst, ↓w_not, ↓w_and, ↓w_or, ↓w_yes, ↓w_nil, ↓w_cons, ↓w_tup, ↓w_lst, ↓w_lstT, ↓w_cb, ↓w_call, ↓w_callK, ↓w_neg, ↓w_no, ↓w_pt, ↓w_sl, ↓w_fld, ↓w_src, ↓w_rng, ↓w_enu, ↓w_listT, ↓w_app, ↓w_lc, ↓w_xf, ↓w_fldT, ↓w_make, ↓w_makeL, ↓w_run, ↓w_cut, ↓w_pure, ↓w_drop, nth2_eq, nth3_eq, w_ok, w_ex, w_nx, w_rt, w_bk, w_ct, w_exS, w_some, w_v, w_tr, w_fa, w_tb, w_ti, w_tn, w_L, w_L0, wb_not, cn_f, startD, arr, gN_eq, gTp, gTl, gCn, gNl, Option.bind_some, List.filterMap_cons, List.filterMap_nil, List.map_cons, List.map_nil, List.replicate_succ, List.replicate_zero, List.cons_append, List.nil_append, List.getElem?_cons_zero, List.getElem?_cons_succ, List.set_cons_zero, List.set_cons_succ, List.length_cons, List.length_nil, Nat.reduceAdd, Nat.reduceSub, Nat.reduceLeDiff, Nat.reduceEqDiff, Int.reducePow, Int.reduceToNat, Int.reduceNeg, Int.reduceAdd, Int.reduceMul, Int.reduceSub, Int.reduceLT, Int.reduceLE, Int.reduceEq, Nat.zero_add, Int.zero_add, big_eq, true_and, and_true, and_self, dSub_int, dAdd_int, dAddI_int, dLt_int, dLe_int, dGt_int, dGe_int, dEqD_int, bInt_int, bLen_lst, bLen_tup, bMin_int, bMax_int, bAbs_int, dIs_non, dIs_int, dIs_nn, Bool.not_true, Bool.not_false, decide_true, decide_false, reduceIte, Bool.false_eq_true, if_false, if_true, iSeq_lst, iSeq_tup, iSeq_rdl, iEnu_lst, iEnu_tup]
      have e1 : (t : Int) - 1 = ((t - 1 : Nat) : Int) := by omega
      rw [e1, dMul_ok (a := 40) (b := 60) (bitsN (by omega)) (bitsN (by omega)) (by omega)]
      simp (implicitDefEqProofs := false) only [↓w_srtT, ↓w_par2, ↓w_par3, ↓w_setd, ↓w_dict1, ↓w_maxDf, ↓w_slT, ↓w_addT, ↓w_dictT, ↓w_dictI, ↓w_get, ↓w_lrg1T, ↓w_lrg2T, ↓w_lrg1, ↓w_lrg2, ↓w_pop0, ↓w_lcT, ↓w_mth, ↓w_calm, ↓w_tryM, ↓w_tm0, ↓w_tmN, ↓w_tmS, ↓w_seq, ↓w_next, ↓w_break, ↓w_cont, ↓w_retN, ↓w_asg, ↓w_expr, ↓w_ret, ↓w_if, ↓w_asgG, ↓w_for, ↓w_put, ↓w_aug, ↓w_augS, ↓w_raise0, ↓w_raise1, ↓w_raise2, ↓w_try, ↓w_tryAs, ↓w_var, ↓w_c, ↓w_op, ↓w_chain, ↓w_notV, ↓w_andV, ↓w_orV, ↓w_ifE, ↓w_tst, ↓w_not, ↓w_and, ↓w_or, ↓w_yes, ↓w_nil, ↓w_cons, ↓w_tup, ↓w_lst, ↓w_lstT, ↓w_cb, ↓w_call, ↓w_callK, ↓w_neg, ↓w_no, ↓w_pt, ↓w_sl, ↓w_fld, ↓w_src, ↓w_rng, ↓w_enu, ↓w_listT, ↓w_app, ↓w_lc, ↓w_xf, ↓w_fldT, ↓w_make, ↓w_makeL, ↓w_run, ↓w_cut, ↓w_pure, ↓w_drop, nth2_eq, nth3_eq, w_ok, w_ex, w_nx, w_rt, w_bk, w_ct, w_exS, w_some, w_v, w_tr, w_fa, w_tb, w_ti, w_tn, w_L, w_L0, wb_not, cn_f, startD, arr, gN_eq, gTp, gTl, gCn, gNl, Option.bind_some, List.filterMap_cons, List.filterMap_nil, List.map_cons, List.map_nil, List.replicate_succ, List.replicate_zero, List.cons_append, List.nil_append, List.getElem?_cons_zero, List.getElem?_cons_succ, List.set_cons_zero, List.set_cons_succ, List.length_cons, List.length_nil, Nat.reduceAdd, Nat.reduceSub, Nat.reduceLeDiff, Nat.reduceEqDiff, Int.reducePow, Int.reduceToNat, Int.reduceNeg, Int.reduceAdd, Int.reduceMul, Int.reduceSub, Int.reduceLT, Int.reduceLE, Int.reduceEq, Nat.zero_add, Int.zero_add, big_eq, true_and, and_true, and_self, dSub_int, dAdd_int, dAddI_int, dLt_int, dLe_int, dGt_int, dGe_int, dEqD_int, bInt_int, bLen_lst, bLen_tup, bMin_int, bMax_int, bAbs_int, dIs_non, dIs_int, dIs_nn, Bool.not_true, Bool.not_false, decide_true, decide_false, reduceIte, Bool.false_eq_true, if_false, if_true, iSeq_lst, iSeq_tup, iSeq_rdl, iEnu_lst, iEnu_tup]
      refine wb_dec (fun h1 => ?_) (fun h1 => ?_)
      · have h2 : d * (t - 1) ≤ k := by exact_mod_cast h1
        simp (implicitDefEqProofs := false) only [power_ok (c := c) (b := t) (k := d) (by omega) (by omega), ↓w_srtT, ↓w_par2, ↓w_par3, ↓w_setd, ↓w_dict1, ↓w_maxDf, ↓w_slT, ↓w_addT, ↓w_dictT, ↓w_dictI, ↓w_get, ↓w_lrg1T, ↓w_lrg2T, ↓w_lrg1, ↓w_lrg2, ↓w_pop0, ↓w_lcT, ↓w_mth, ↓w_calm, ↓w_tryM, ↓w_tm0, ↓w_tmN, ↓w_tmS, ↓w_seq, ↓w_next, ↓w_break, ↓w_cont, ↓w_retN, ↓w_asg, ↓w_expr, ↓w_ret, ↓w_if, ↓w_asgG, ↓w_for, ↓w_put, ↓w_aug, ↓w_augS, ↓w_raise0, ↓w_raise1, ↓w_raise2, ↓w_try, ↓w_tryAs, ↓w_var, ↓w_c, ↓w_op, ↓w_chain, ↓w_notV, ↓w_andV, ↓w_orV, ↓w_ifE, ↓w_tst, ↓w_not, ↓w_and, ↓w_or, ↓w_yes, ↓w_nil, ↓w_cons, ↓w_tup, ↓w_lst, ↓w_lstT, ↓w_cb, ↓w_call, ↓w_callK, ↓w_neg, ↓w_no, ↓w_pt, ↓w_sl, ↓w_fld, ↓w_src, ↓w_rng, ↓w_enu, ↓w_listT, ↓w_app, ↓w_lc, ↓w_xf, ↓w_fldT, ↓w_make, ↓w_makeL, ↓w_run, ↓w_cut, ↓w_pure, ↓w_drop, nth2_eq, nth3_eq, w_ok, w_ex, w_nx, w_rt, w_bk, w_ct, w_exS, w_some, w_v, w_tr, w_fa, w_tb, w_ti, w_tn, w_L, w_L0, wb_not, cn_f, startD, arr, gN_eq, gTp, gTl, gCn, gNl, Option.bind_some, List.filterMap_cons, List.filterMap_nil, List.map_cons, List.map_nil, List.replicate_succ, List.replicate_zero, List.cons_append, List.nil_append, List.getElem?_cons_zero, List.getElem?_cons_succ, List.set_cons_zero, List.set_cons_succ, List.length_cons, List.length_nil, Nat.reduceAdd, Nat.reduceSub, Nat.reduceLeDiff, Nat.reduceEqDiff, Int.reducePow, Int.reduceToNat, Int.reduceNeg, Int.reduceAdd, Int.reduceMul, Int.reduceSub, Int.reduceLT, Int.reduceLE, Int.reduceEq, Nat.zero_add, Int.zero_add, big_eq, true_and, and_true, and_self, dSub_int, dAdd_int, dAddI_int, dLt_int, dLe_int, dGt_int, dGe_int, dEqD_int, bInt_int, bLen_lst, bLen_tup, bMin_int, bMax_int, bAbs_int, dIs_non, dIs_int, dIs_nn, Bool.not_true, Bool.not_false, decide_true, decide_false, reduceIte, Bool.false_eq_true, if_false, if_true, iSeq_lst, iSeq_tup, iSeq_rdl, iEnu_lst, iEnu_tup]
        rw [cnt_full t t1 d k h2]
      · have h2 : k < d * (t - 1) := by exact_mod_cast Int.not_le.mp h1
        obtain ⟨K, hK⟩ : ∃ K, K = min d (k / t) := ⟨_, rfl⟩
        simp (implicitDefEqProofs := false) only [↓w_srtT, ↓w_par2, ↓w_par3, ↓w_setd, ↓w_dict1, ↓w_maxDf, ↓w_slT, ↓w_addT, ↓w_dictT, ↓w_dictI, ↓w_get, ↓w_lrg1T, ↓w_lrg2T, ↓w_lrg1, ↓w_lrg2, ↓w_pop0, ↓w_lcT, ↓w_mth, ↓w_calm, ↓w_tryM, ↓w_tm0, ↓w_tmN, ↓w_tmS, ↓w_seq, ↓w_next, ↓w_break, ↓w_cont, ↓w_retN, ↓w_asg, ↓w_expr, ↓w_ret, ↓w_if, ↓w_asgG, ↓w_for, ↓w_put, ↓w_aug, ↓w_augS, ↓w_raise0, ↓w_raise1, ↓w_raise2, ↓w_try, ↓w_tryAs, ↓w_var, ↓w_c, ↓w_op, ↓w_chain, ↓w_notV, ↓w_andV, ↓w_orV, ↓w_ifE, ↓w_tst, ↓w_not, ↓w_and, ↓w_or, ↓w_yes, ↓w_nil, ↓w_cons, ↓w_tup, ↓w_lst, ↓w_lstT, ↓w_cb, ↓w_call, ↓w_callK, ↓w_neg, ↓w_no, ↓w_pt, ↓w_sl, ↓w_fld, ↓w_src, ↓w_rng, ↓w_enu, ↓w_listT, ↓w_app, ↓w_lc, ↓w_xf, ↓w_fldT, ↓w_make, ↓w_makeL, ↓w_run, ↓w_cut, ↓w_pure, ↓w_drop, nth2_eq, nth3_eq, w_ok, w_ex, w_nx, w_rt, w_bk, w_ct, w_exS, w_some, w_v, w_tr, w_fa, w_tb, w_ti, w_tn, w_L, w_L0, wb_not, cn_f, startD, arr, gN_eq, gTp, gTl, gCn, gNl, Option.bind_some, List.filterMap_cons, List.filterMap_nil, List.map_cons, List.map_nil, List.replicate_succ, List.replicate_zero, List.cons_append, List.nil_append, List.getElem?_cons_zero, List.getElem?_cons_succ, List.set_cons_zero, List.set_cons_succ, List.length_cons, List.length_nil, Nat.reduceAdd, Nat.reduceSub, Nat.reduceLeDiff, Nat.reduceEqDiff, Int.reducePow, Int.reduceToNat, Int.reduceNeg, Int.reduceAdd, Int.reduceMul, Int.reduceSub, Int.reduceLT, Int.reduceLE, Int.reduceEq, Nat.zero_add, Int.zero_add, big_eq, true_and, and_true, and_self, dSub_int, dAdd_int, dAddI_int, dLt_int, dLe_int, dGt_int, dGe_int, dEqD_int, bInt_int, bLen_lst, bLen_tup, bMin_int, bMax_int, bAbs_int, dIs_non, dIs_int, dIs_nn, Bool.not_true, Bool.not_false, decide_true, decide_false, reduceIte, Bool.false_eq_true, if_false, if_true, iSeq_lst, iSeq_tup, iSeq_rdl, iEnu_lst, iEnu_tup]
        rw [dDiv_ok (a := 60) (by omega) (bitsN (by omega)) (by omega)]
        have e2 : min (d : Int) ((k : Int) / (t : Int)) + 1 = ((K + 1 : Nat) : Int) := by
          rw [← Int.natCast_ediv]
          omega
        simp (implicitDefEqProofs := false) only [e2, ↓w_srtT, ↓w_par2, ↓w_par3, ↓w_setd, ↓w_dict1, ↓w_maxDf, ↓w_slT, ↓w_addT, ↓w_dictT, ↓w_dictI, ↓w_get, ↓w_lrg1T, ↓w_lrg2T, ↓w_lrg1, ↓w_lrg2, ↓w_pop0, ↓w_lcT, ↓w_mth, ↓w_calm, ↓w_tryM, ↓w_tm0, ↓w_tmN, ↓w_tmS, ↓w_seq, ↓w_next, ↓w_break, ↓w_cont, ↓w_retN, ↓w_asg, ↓w_expr, ↓w_ret, ↓w_if, ↓w_asgG, ↓w_for, ↓w_put, ↓w_aug, ↓w_augS, ↓w_raise0, ↓w_raise1, ↓w_raise2, ↓w_try, ↓w_tryAs, ↓w_var, ↓w_c, ↓w_op, ↓w_chain, ↓w_notV, ↓w_andV, ↓w_orV, ↓w_ifE, ↓w_tst, ↓w_not, ↓w_and, ↓w_or, ↓w_yes, ↓w_nil, ↓w_cons, ↓w_tup, ↓w_lst, ↓w_lstT, ↓w_cb, ↓w_call, ↓w_callK, ↓w_neg, ↓w_no, ↓w_pt, ↓w_sl, ↓w_fld, ↓w_src, ↓w_rng, ↓w_enu, ↓w_listT, ↓w_app, ↓w_lc, ↓w_xf, ↓w_fldT, ↓w_make, ↓w_makeL, ↓w_run, ↓w_cut, ↓w_pure, ↓w_drop, nth2_eq, nth3_eq, w_ok, w_ex, w_nx, w_rt, w_bk, w_ct, w_exS, w_some, w_v, w_tr, w_fa, w_tb, w_ti, w_tn, w_L, w_L0, wb_not, cn_f, startD, arr, gN_eq, gTp, gTl, gCn, gNl, Option.bind_some, List.filterMap_cons, List.filterMap_nil, List.map_cons, List.map_nil, List.replicate_succ, List.replicate_zero, List.cons_append, List.nil_append, List.getElem?_cons_zero, List.getElem?_cons_succ, List.set_cons_zero, List.set_cons_succ, List.length_cons, List.length_nil, Nat.reduceAdd, Nat.reduceSub, Nat.reduceLeDiff, Nat.reduceEqDiff, Int.reducePow, Int.reduceToNat, Int.reduceNeg, Int.reduceAdd, Int.reduceMul, Int.reduceSub, Int.reduceLT, Int.reduceLE, Int.reduceEq, Nat.zero_add, Int.zero_add, big_eq, true_and, and_true, and_self, dSub_int, dAdd_int, dAddI_int, dLt_int, dLe_int, dGt_int, dGe_int, dEqD_int, bInt_int, bLen_lst, bLen_tup, bMin_int, bMax_int, bAbs_int, dIs_non, dIs_int, dIs_nn, Bool.not_true, Bool.not_false, decide_true, decide_false, reduceIte, Bool.false_eq_true, if_false, if_true, iSeq_lst, iSeq_tup, iSeq_rdl, iEnu_lst, iEnu_tup]
        rw [rng1 (by omega) (by omega), w_some, Int.toNat_natCast]
        refine ws_rng (fun i L s' => ∃ y z, L = [some (.int d), some (.int k), some (.int t), some (.int (smZ i fun k' => sg k' * (bin d k' : Nat) * (bin (k - k' * t + d) d : Nat))), y, z] ∧ s' = s) ⟨none, none, rfl, rfl⟩ ?_ ?_
        · rintro i L s' hi ⟨y, z, rfl, rfl⟩
          have hit : i ≤ k / t := by omega
          have hit2 : i * t ≤ k := (Nat.le_div_iff_mul_le t1).mp hit
          simp (implicitDefEqProofs := false) only [↓w_srtT, ↓w_par2, ↓w_par3, ↓w_setd, ↓w_dict1, ↓w_maxDf, ↓w_slT, ↓w_addT, ↓w_dictT, ↓w_dictI, ↓w_get, ↓w_lrg1T, ↓w_lrg2T, ↓w_lrg1, ↓w_lrg2, ↓w_pop0, ↓w_lcT, ↓w_mth, ↓w_calm, ↓w_tryM, ↓w_tm0, ↓w_tmN, ↓w_tmS, ↓w_seq, ↓w_next, ↓w_break, ↓w_cont, ↓w_retN, ↓w_asg, ↓w_expr, ↓w_ret, ↓w_if, ↓w_asgG, ↓w_for, ↓w_put, ↓w_aug, ↓w_augS, ↓w_raise0, ↓w_raise1, ↓w_raise2, ↓w_try, ↓w_tryAs, ↓w_var, ↓w_c, ↓w_op, ↓w_chain, ↓w_notV, ↓w_andV, ↓w_orV, ↓w_ifE, ↓w_tst, ↓w_not, ↓w_and, ↓w_or, ↓w_yes, ↓w_nil, ↓w_cons, ↓w_tup, ↓w_lst, ↓w_lstT, ↓w_cb, ↓w_call, ↓w_callK, ↓w_neg, ↓w_no, ↓w_pt, ↓w_sl, ↓w_fld, ↓w_src, ↓w_rng, ↓w_enu, ↓w_listT, ↓w_app, ↓w_lc, ↓w_xf, ↓w_fldT, ↓w_make, ↓w_makeL, ↓w_run, ↓w_cut, ↓w_pure, ↓w_drop, nth2_eq, nth3_eq, w_ok, w_ex, w_nx, w_rt, w_bk, w_ct, w_exS, w_some, w_v, w_tr, w_fa, w_tb, w_ti, w_tn, w_L, w_L0, wb_not, cn_f, startD, arr, gN_eq, gTp, gTl, gCn, gNl, Option.bind_some, List.filterMap_cons, List.filterMap_nil, List.map_cons, List.map_nil, List.replicate_succ, List.replicate_zero, List.cons_append, List.nil_append, List.getElem?_cons_zero, List.getElem?_cons_succ, List.set_cons_zero, List.set_cons_succ, List.length_cons, List.length_nil, Nat.reduceAdd, Nat.reduceSub, Nat.reduceLeDiff, Nat.reduceEqDiff, Int.reducePow, Int.reduceToNat, Int.reduceNeg, Int.reduceAdd, Int.reduceMul, Int.reduceSub, Int.reduceLT, Int.reduceLE, Int.reduceEq, Nat.zero_add, Int.zero_add, big_eq, true_and, and_true, and_self, dSub_int, dAdd_int, dAddI_int, dLt_int, dLe_int, dGt_int, dGe_int, dEqD_int, bInt_int, bLen_lst, bLen_tup, bMin_int, bMax_int, bAbs_int, dIs_non, dIs_int, dIs_nn, Bool.not_true, Bool.not_false, decide_true, decide_false, reduceIte, Bool.false_eq_true, if_false, if_true, iSeq_lst, iSeq_tup, iSeq_rdl, iEnu_lst, iEnu_tup]
          rw [choose_ok (by omega) (by omega) (by omega)]
          simp (implicitDefEqProofs := false) only [↓w_srtT, ↓w_par2, ↓w_par3, ↓w_setd, ↓w_dict1, ↓w_maxDf, ↓w_slT, ↓w_addT, ↓w_dictT, ↓w_dictI, ↓w_get, ↓w_lrg1T, ↓w_lrg2T, ↓w_lrg1, ↓w_lrg2, ↓w_pop0, ↓w_lcT, ↓w_mth, ↓w_calm, ↓w_tryM, ↓w_tm0, ↓w_tmN, ↓w_tmS, ↓w_seq, ↓w_next, ↓w_break, ↓w_cont, ↓w_retN, ↓w_asg, ↓w_expr, ↓w_ret, ↓w_if, ↓w_asgG, ↓w_for, ↓w_put, ↓w_aug, ↓w_augS, ↓w_raise0, ↓w_raise1, ↓w_raise2, ↓w_try, ↓w_tryAs, ↓w_var, ↓w_c, ↓w_op, ↓w_chain, ↓w_notV, ↓w_andV, ↓w_orV, ↓w_ifE, ↓w_tst, ↓w_not, ↓w_and, ↓w_or, ↓w_yes, ↓w_nil, ↓w_cons, ↓w_tup, ↓w_lst, ↓w_lstT, ↓w_cb, ↓w_call, ↓w_callK, ↓w_neg, ↓w_no, ↓w_pt, ↓w_sl, ↓w_fld, ↓w_src, ↓w_rng, ↓w_enu, ↓w_listT, ↓w_app, ↓w_lc, ↓w_xf, ↓w_fldT, ↓w_make, ↓w_makeL, ↓w_run, ↓w_cut, ↓w_pure, ↓w_drop, nth2_eq, nth3_eq, w_ok, w_ex, w_nx, w_rt, w_bk, w_ct, w_exS, w_some, w_v, w_tr, w_fa, w_tb, w_ti, w_tn, w_L, w_L0, wb_not, cn_f, startD, arr, gN_eq, gTp, gTl, gCn, gNl, Option.bind_some, List.filterMap_cons, List.filterMap_nil, List.map_cons, List.map_nil, List.replicate_succ, List.replicate_zero, List.cons_append, List.nil_append, List.getElem?_cons_zero, List.getElem?_cons_succ, List.set_cons_zero, List.set_cons_succ, List.length_cons, List.length_nil, Nat.reduceAdd, Nat.reduceSub, Nat.reduceLeDiff, Nat.reduceEqDiff, Int.reducePow, Int.reduceToNat, Int.reduceNeg, Int.reduceAdd, Int.reduceMul, Int.reduceSub, Int.reduceLT, Int.reduceLE, Int.reduceEq, Nat.zero_add, Int.zero_add, big_eq, true_and, and_true, and_self, dSub_int, dAdd_int, dAddI_int, dLt_int, dLe_int, dGt_int, dGe_int, dEqD_int, bInt_int, bLen_lst, bLen_tup, bMin_int, bMax_int, bAbs_int, dIs_non, dIs_int, dIs_nn, Bool.not_true, Bool.not_false, decide_true, decide_false, reduceIte, Bool.false_eq_true, if_false, if_true, iSeq_lst, iSeq_tup, iSeq_rdl, iEnu_lst, iEnu_tup]
          rw [dMul_ok (a := 60) (b := 60) (bitsN (by omega)) (bitsN (by omega)) (by omega)]
          simp (implicitDefEqProofs := false) only [↓w_srtT, ↓w_par2, ↓w_par3, ↓w_setd, ↓w_dict1, ↓w_maxDf, ↓w_slT, ↓w_addT, ↓w_dictT, ↓w_dictI, ↓w_get, ↓w_lrg1T, ↓w_lrg2T, ↓w_lrg1, ↓w_lrg2, ↓w_pop0, ↓w_lcT, ↓w_mth, ↓w_calm, ↓w_tryM, ↓w_tm0, ↓w_tmN, ↓w_tmS, ↓w_seq, ↓w_next, ↓w_break, ↓w_cont, ↓w_retN, ↓w_asg, ↓w_expr, ↓w_ret, ↓w_if, ↓w_asgG, ↓w_for, ↓w_put, ↓w_aug, ↓w_augS, ↓w_raise0, ↓w_raise1, ↓w_raise2, ↓w_try, ↓w_tryAs, ↓w_var, ↓w_c, ↓w_op, ↓w_chain, ↓w_notV, ↓w_andV, ↓w_orV, ↓w_ifE, ↓w_tst, ↓w_not, ↓w_and, ↓w_or, ↓w_yes, ↓w_nil, ↓w_cons, ↓w_tup, ↓w_lst, ↓w_lstT, ↓w_cb, ↓w_call, ↓w_callK, ↓w_neg, ↓w_no, ↓w_pt, ↓w_sl, ↓w_fld, ↓w_src, ↓w_rng, ↓w_enu, ↓w_listT, ↓w_app, ↓w_lc, ↓w_xf, ↓w_fldT, ↓w_make, ↓w_makeL, ↓w_run, ↓w_cut, ↓w_pure, ↓w_drop, nth2_eq, nth3_eq, w_ok, w_ex, w_nx, w_rt, w_bk, w_ct, w_exS, w_some, w_v, w_tr, w_fa, w_tb, w_ti, w_tn, w_L, w_L0, wb_not, cn_f, startD, arr, gN_eq, gTp, gTl, gCn, gNl, Option.bind_some, List.filterMap_cons, List.filterMap_nil, List.map_cons, List.map_nil, List.replicate_succ, List.replicate_zero, List.cons_append, List.nil_append, List.getElem?_cons_zero, List.getElem?_cons_succ, List.set_cons_zero, List.set_cons_succ, List.length_cons, List.length_nil, Nat.reduceAdd, Nat.reduceSub, Nat.reduceLeDiff, Nat.reduceEqDiff, Int.reducePow, Int.reduceToNat, Int.reduceNeg, Int.reduceAdd, Int.reduceMul, Int.reduceSub, Int.reduceLT, Int.reduceLE, Int.reduceEq, Nat.zero_add, Int.zero_add, big_eq, true_and, and_true, and_self, dSub_int, dAdd_int, dAddI_int, dLt_int, dLe_int, dGt_int, dGe_int, dEqD_int, bInt_int, bLen_lst, bLen_tup, bMin_int, bMax_int, bAbs_int, dIs_non, dIs_int, dIs_nn, Bool.not_true, Bool.not_false, decide_true, decide_false, reduceIte, Bool.false_eq_true, if_false, if_true, iSeq_lst, iSeq_tup, iSeq_rdl, iEnu_lst, iEnu_tup]
          rw [show (k : Int) - (i : Int) * (t : Int) + (d : Int) = ((k - i * t + d : Nat) : Int) by rw [← Int.natCast_mul]; omega, choose_ok (by omega) (by omega) (by omega)]
          simp (implicitDefEqProofs := false) only [↓w_srtT, ↓w_par2, ↓w_par3, ↓w_setd, ↓w_dict1, ↓w_maxDf, ↓w_slT, ↓w_addT, ↓w_dictT, ↓w_dictI, ↓w_get, ↓w_lrg1T, ↓w_lrg2T, ↓w_lrg1, ↓w_lrg2, ↓w_pop0, ↓w_lcT, ↓w_mth, ↓w_calm, ↓w_tryM, ↓w_tm0, ↓w_tmN, ↓w_tmS, ↓w_seq, ↓w_next, ↓w_break, ↓w_cont, ↓w_retN, ↓w_asg, ↓w_expr, ↓w_ret, ↓w_if, ↓w_asgG, ↓w_for, ↓w_put, ↓w_aug, ↓w_augS, ↓w_raise0, ↓w_raise1, ↓w_raise2, ↓w_try, ↓w_tryAs, ↓w_var, ↓w_c, ↓w_op, ↓w_chain, ↓w_notV, ↓w_andV, ↓w_orV, ↓w_ifE, ↓w_tst, ↓w_not, ↓w_and, ↓w_or, ↓w_yes, ↓w_nil, ↓w_cons, ↓w_tup, ↓w_lst, ↓w_lstT, ↓w_cb, ↓w_call, ↓w_callK, ↓w_neg, ↓w_no, ↓w_pt, ↓w_sl, ↓w_fld, ↓w_src, ↓w_rng, ↓w_enu, ↓w_listT, ↓w_app, ↓w_lc, ↓w_xf, ↓w_fldT, ↓w_make, ↓w_makeL, ↓w_run, ↓w_cut, ↓w_pure, ↓w_drop, nth2_eq, nth3_eq, w_ok, w_ex, w_nx, w_rt, w_bk, w_ct, w_exS, w_some, w_v, w_tr, w_fa, w_tb, w_ti, w_tn, w_L, w_L0, wb_not, cn_f, startD, arr, gN_eq, gTp, gTl, gCn, gNl, Option.bind_some, List.filterMap_cons, List.filterMap_nil, List.map_cons, List.map_nil, List.replicate_succ, List.replicate_zero, List.cons_append, List.nil_append, List.getElem?_cons_zero, List.getElem?_cons_succ, List.set_cons_zero, List.set_cons_succ, List.length_cons, List.length_nil, Nat.reduceAdd, Nat.reduceSub, Nat.reduceLeDiff, Nat.reduceEqDiff, Int.reducePow, Int.reduceToNat, Int.reduceNeg, Int.reduceAdd, Int.reduceMul, Int.reduceSub, Int.reduceLT, Int.reduceLE, Int.reduceEq, Nat.zero_add, Int.zero_add, big_eq, true_and, and_true, and_self, dSub_int, dAdd_int, dAddI_int, dLt_int, dLe_int, dGt_int, dGe_int, dEqD_int, bInt_int, bLen_lst, bLen_tup, bMin_int, bMax_int, bAbs_int, dIs_non, dIs_int, dIs_nn, Bool.not_true, Bool.not_false, decide_true, decide_false, reduceIte, Bool.false_eq_true, if_false, if_true, iSeq_lst, iSeq_tup, iSeq_rdl, iEnu_lst, iEnu_tup]
          rw [dMul_ok (bitsN (bin_bits (by omega))) (bitsN (bin_bits (by omega))) (by omega)]
          simp (implicitDefEqProofs := false) only [↓w_srtT, ↓w_par2, ↓w_par3, ↓w_setd, ↓w_dict1, ↓w_maxDf, ↓w_slT, ↓w_addT, ↓w_dictT, ↓w_dictI, ↓w_get, ↓w_lrg1T, ↓w_lrg2T, ↓w_lrg1, ↓w_lrg2, ↓w_pop0, ↓w_lcT, ↓w_mth, ↓w_calm, ↓w_tryM, ↓w_tm0, ↓w_tmN, ↓w_tmS, ↓w_seq, ↓w_next, ↓w_break, ↓w_cont, ↓w_retN, ↓w_asg, ↓w_expr, ↓w_ret, ↓w_if, ↓w_asgG, ↓w_for, ↓w_put, ↓w_aug, ↓w_augS, ↓w_raise0, ↓w_raise1, ↓w_raise2, ↓w_try, ↓w_tryAs, ↓w_var, ↓w_c, ↓w_op, ↓w_chain, ↓w_notV, ↓w_andV, ↓w_orV, ↓w_ifE, ↓w_tst, ↓w_not, ↓w_and, ↓w_or, ↓w_yes, ↓w_nil, ↓w_cons, ↓w_tup, ↓w_lst, ↓w_lstT, ↓w_cb, ↓w_call, ↓w_callK, ↓w_neg, ↓w_no, ↓w_pt, ↓w_sl, ↓w_fld, ↓w_src, ↓w_rng, ↓w_enu, ↓w_listT, ↓w_app, ↓w_lc, ↓w_xf, ↓w_fldT, ↓w_make, ↓w_makeL, ↓w_run, ↓w_cut, ↓w_pure, ↓w_drop, nth2_eq, nth3_eq, w_ok, w_ex, w_nx, w_rt, w_bk, w_ct, w_exS, w_some, w_v, w_tr, w_fa, w_tb, w_ti, w_tn, w_L, w_L0, wb_not, cn_f, startD, arr, gN_eq, gTp, gTl, gCn, gNl, Option.bind_some, List.filterMap_cons, List.filterMap_nil, List.map_cons, List.map_nil, List.replicate_succ, List.replicate_zero, List.cons_append, List.nil_append, List.getElem?_cons_zero, List.getElem?_cons_succ, List.set_cons_zero, List.set_cons_succ, List.length_cons, List.length_nil, Nat.reduceAdd, Nat.reduceSub, Nat.reduceLeDiff, Nat.reduceEqDiff, Int.reducePow, Int.reduceToNat, Int.reduceNeg, Int.reduceAdd, Int.reduceMul, Int.reduceSub, Int.reduceLT, Int.reduceLE, Int.reduceEq, Nat.zero_add, Int.zero_add, big_eq, true_and, and_true, and_self, dSub_int, dAdd_int, dAddI_int, dLt_int, dLe_int, dGt_int, dGe_int, dEqD_int, bInt_int, bLen_lst, bLen_tup, bMin_int, bMax_int, bAbs_int, dIs_non, dIs_int, dIs_nn, Bool.not_true, Bool.not_false, decide_true, decide_false, reduceIte, Bool.false_eq_true, if_false, if_true, iSeq_lst, iSeq_tup, iSeq_rdl, iEnu_lst, iEnu_tup]
          rw [dMod_int (by decide)]
          simp (implicitDefEqProofs := false) only [↓w_srtT, ↓w_par2, ↓w_par3, ↓w_setd, ↓w_dict1, ↓w_maxDf, ↓w_slT, ↓w_addT, ↓w_dictT, ↓w_dictI, ↓w_get, ↓w_lrg1T, ↓w_lrg2T, ↓w_lrg1, ↓w_lrg2, ↓w_pop0, ↓w_lcT, ↓w_mth, ↓w_calm, ↓w_tryM, ↓w_tm0, ↓w_tmN, ↓w_tmS, ↓w_seq, ↓w_next, ↓w_break, ↓w_cont, ↓w_retN, ↓w_asg, ↓w_expr, ↓w_ret, ↓w_if, ↓w_asgG, ↓w_for, ↓w_put, ↓w_aug, ↓w_augS, ↓w_raise0, ↓w_raise1, ↓w_raise2, ↓w_try, ↓w_tryAs, ↓w_var, ↓w_c, ↓w_op, ↓w_chain, ↓w_notV, ↓w_andV, ↓w_orV, ↓w_ifE, ↓w_tst, ↓w_not, ↓w_and, ↓w_or, ↓w_yes, ↓w_nil, ↓w_cons, ↓w_tup, ↓w_lst, ↓w_lstT, ↓w_cb, ↓w_call, ↓w_callK, ↓w_neg, ↓w_no, ↓w_pt, ↓w_sl, ↓w_fld, ↓w_src, ↓w_rng, ↓w_enu, ↓w_listT, ↓w_app, ↓w_lc, ↓w_xf, ↓w_fldT, ↓w_make, ↓w_makeL, ↓w_run, ↓w_cut, ↓w_pure, ↓w_drop, nth2_eq, nth3_eq, w_ok, w_ex, w_nx, w_rt, w_bk, w_ct, w_exS, w_some, w_v, w_tr, w_fa, w_tb, w_ti, w_tn, w_L, w_L0, wb_not, cn_f, startD, arr, gN_eq, gTp, gTl, gCn, gNl, Option.bind_some, List.filterMap_cons, List.filterMap_nil, List.map_cons, List.map_nil, List.replicate_succ, List.replicate_zero, List.cons_append, List.nil_append, List.getElem?_cons_zero, List.getElem?_cons_succ, List.set_cons_zero, List.set_cons_succ, List.length_cons, List.length_nil, Nat.reduceAdd, Nat.reduceSub, Nat.reduceLeDiff, Nat.reduceEqDiff, Int.reducePow, Int.reduceToNat, Int.reduceNeg, Int.reduceAdd, Int.reduceMul, Int.reduceSub, Int.reduceLT, Int.reduceLE, Int.reduceEq, Nat.zero_add, Int.zero_add, big_eq, true_and, and_true, and_self, dSub_int, dAdd_int, dAddI_int, dLt_int, dLe_int, dGt_int, dGe_int, dEqD_int, bInt_int, bLen_lst, bLen_tup, bMin_int, bMax_int, bAbs_int, dIs_non, dIs_int, dIs_nn, Bool.not_true, Bool.not_false, decide_true, decide_false, reduceIte, Bool.false_eq_true, if_false, if_true, iSeq_lst, iSeq_tup, iSeq_rdl, iEnu_lst, iEnu_tup]
          rw [smZ, sg_mod i]
          by_cases hp : i % 2 = 1
          · simp (implicitDefEqProofs := false) only [show (i : Int) % 2 = 1 by omega, hp, ↓w_srtT, ↓w_par2, ↓w_par3, ↓w_setd, ↓w_dict1, ↓w_maxDf, ↓w_slT, ↓w_addT, ↓w_dictT, ↓w_dictI, ↓w_get, ↓w_lrg1T, ↓w_lrg2T, ↓w_lrg1, ↓w_lrg2, ↓w_pop0, ↓w_lcT, ↓w_mth, ↓w_calm, ↓w_tryM, ↓w_tm0, ↓w_tmN, ↓w_tmS, ↓w_seq, ↓w_next, ↓w_break, ↓w_cont, ↓w_retN, ↓w_asg, ↓w_expr, ↓w_ret, ↓w_if, ↓w_asgG, ↓w_for, ↓w_put, ↓w_aug, ↓w_augS, ↓w_raise0, ↓w_raise1, ↓w_raise2, ↓w_try, ↓w_tryAs, ↓w_var, ↓w_c, ↓w_op, ↓w_chain, ↓w_notV, ↓w_andV, ↓w_orV, ↓w_ifE, ↓w_tst, ↓w_not, ↓w_and, ↓w_or, ↓w_yes, ↓w_nil, ↓w_cons, ↓w_tup, ↓w_lst, ↓w_lstT, ↓w_cb, ↓w_call, ↓w_callK, ↓w_neg, ↓w_no, ↓w_pt, ↓w_sl, ↓w_fld, ↓w_src, ↓w_rng, ↓w_enu, ↓w_listT, ↓w_app, ↓w_lc, ↓w_xf, ↓w_fldT, ↓w_make, ↓w_makeL, ↓w_run, ↓w_cut, ↓w_pure, ↓w_drop, nth2_eq, nth3_eq, w_ok, w_ex, w_nx, w_rt, w_bk, w_ct, w_exS, w_some, w_v, w_tr, w_fa, w_tb, w_ti, w_tn, w_L, w_L0, wb_not, cn_f, startD, arr, gN_eq, gTp, gTl, gCn, gNl, Option.bind_some, List.filterMap_cons, List.filterMap_nil, List.map_cons, List.map_nil, List.replicate_succ, List.replicate_zero, List.cons_append, List.nil_append, List.getElem?_cons_zero, List.getElem?_cons_succ, List.set_cons_zero, List.set_cons_succ, List.length_cons, List.length_nil, Nat.reduceAdd, Nat.reduceSub, Nat.reduceLeDiff, Nat.reduceEqDiff, Int.reducePow, Int.reduceToNat, Int.reduceNeg, Int.reduceAdd, Int.reduceMul, Int.reduceSub, Int.reduceLT, Int.reduceLE, Int.reduceEq, Nat.zero_add, Int.zero_add, big_eq, true_and, and_true, and_self, dSub_int, dAdd_int, dAddI_int, dLt_int, dLe_int, dGt_int, dGe_int, dEqD_int, bInt_int, bLen_lst, bLen_tup, bMin_int, bMax_int, bAbs_int, dIs_non, dIs_int, dIs_nn, Bool.not_true, Bool.not_false, decide_true, decide_false, reduceIte, Bool.false_eq_true, if_false, if_true, iSeq_lst, iSeq_tup, iSeq_rdl, iEnu_lst, iEnu_tup]
            exact ⟨_, _, by rw [Int.neg_mul, Int.neg_mul, Int.one_mul]; rfl⟩
          · simp (implicitDefEqProofs := false) only [show ¬ (i : Int) % 2 = 1 by omega, hp, ↓w_srtT, ↓w_par2, ↓w_par3, ↓w_setd, ↓w_dict1, ↓w_maxDf, ↓w_slT, ↓w_addT, ↓w_dictT, ↓w_dictI, ↓w_get, ↓w_lrg1T, ↓w_lrg2T, ↓w_lrg1, ↓w_lrg2, ↓w_pop0, ↓w_lcT, ↓w_mth, ↓w_calm, ↓w_tryM, ↓w_tm0, ↓w_tmN, ↓w_tmS, ↓w_seq, ↓w_next, ↓w_break, ↓w_cont, ↓w_retN, ↓w_asg, ↓w_expr, ↓w_ret, ↓w_if, ↓w_asgG, ↓w_for, ↓w_put, ↓w_aug, ↓w_augS, ↓w_raise0, ↓w_raise1, ↓w_raise2, ↓w_try, ↓w_tryAs, ↓w_var, ↓w_c, ↓w_op, ↓w_chain, ↓w_notV, ↓w_andV, ↓w_orV, ↓w_ifE, ↓w_tst, ↓w_not, ↓w_and, ↓w_or, ↓w_yes, ↓w_nil, ↓w_cons, ↓w_tup, ↓w_lst, ↓w_lstT, ↓w_cb, ↓w_call, ↓w_callK, ↓w_neg, ↓w_no, ↓w_pt, ↓w_sl, ↓w_fld, ↓w_src, ↓w_rng, ↓w_enu, ↓w_listT, ↓w_app, ↓w_lc, ↓w_xf, ↓w_fldT, ↓w_make, ↓w_makeL, ↓w_run, ↓w_cut, ↓w_pure, ↓w_drop, nth2_eq, nth3_eq, w_ok, w_ex, w_nx, w_rt, w_bk, w_ct, w_exS, w_some, w_v, w_tr, w_fa, w_tb, w_ti, w_tn, w_L, w_L0, wb_not, cn_f, startD, arr, gN_eq, gTp, gTl, gCn, gNl, Option.bind_some, List.filterMap_cons, List.filterMap_nil, List.map_cons, List.map_nil, List.replicate_succ, List.replicate_zero, List.cons_append, List.nil_append, List.getElem?_cons_zero, List.getElem?_cons_succ, List.set_cons_zero, List.set_cons_succ, List.length_cons, List.length_nil, Nat.reduceAdd, Nat.reduceSub, Nat.reduceLeDiff, Nat.reduceEqDiff, Int.reducePow, Int.reduceToNat, Int.reduceNeg, Int.reduceAdd, Int.reduceMul, Int.reduceSub, Int.reduceLT, Int.reduceLE, Int.reduceEq, Nat.zero_add, Int.zero_add, big_eq, true_and, and_true, and_self, dSub_int, dAdd_int, dAddI_int, dLt_int, dLe_int, dGt_int, dGe_int, dEqD_int, bInt_int, bLen_lst, bLen_tup, bMin_int, bMax_int, bAbs_int, dIs_non, dIs_int, dIs_nn, Bool.not_true, Bool.not_false, decide_true, decide_false, reduceIte, Bool.false_eq_true, if_false, if_true, iSeq_lst, iSeq_tup, iSeq_rdl, iEnu_lst, iEnu_tup]
            exact ⟨_, _, by rw [Int.one_mul]⟩
        · rintro L s' ⟨y, z, rfl, rfl⟩
          simp (implicitDefEqProofs := false) only [alt_sum t1 K hK, ↓w_srtT, ↓w_par2, ↓w_par3, ↓w_setd, ↓w_dict1, ↓w_maxDf, ↓w_slT, ↓w_addT, ↓w_dictT, ↓w_dictI, ↓w_get, ↓w_lrg1T, ↓w_lrg2T, ↓w_lrg1, ↓w_lrg2, ↓w_pop0, ↓w_lcT, ↓w_mth, ↓w_calm, ↓w_tryM, ↓w_tm0, ↓w_tmN, ↓w_tmS, ↓w_seq, ↓w_next, ↓w_break, ↓w_cont, ↓w_retN, ↓w_asg, ↓w_expr, ↓w_ret, ↓w_if, ↓w_asgG, ↓w_for, ↓w_put, ↓w_aug, ↓w_augS, ↓w_raise0, ↓w_raise1, ↓w_raise2, ↓w_try, ↓w_tryAs, ↓w_var, ↓w_c, ↓w_op, ↓w_chain, ↓w_notV, ↓w_andV, ↓w_orV, ↓w_ifE, ↓w_tst, ↓w_not, ↓w_and, ↓w_or, ↓w_yes, ↓w_nil, ↓w_cons, ↓w_tup, ↓w_lst, ↓w_lstT, ↓w_cb, ↓w_call, ↓w_callK, ↓w_neg, ↓w_no, ↓w_pt, ↓w_sl, ↓w_fld, ↓w_src, ↓w_rng, ↓w_enu, ↓w_listT, ↓w_app, ↓w_lc, ↓w_xf, ↓w_fldT, ↓w_make, ↓w_makeL, ↓w_run, ↓w_cut, ↓w_pure, ↓w_drop, nth2_eq, nth3_eq, w_ok, w_ex, w_nx, w_rt, w_bk, w_ct, w_exS, w_some, w_v, w_tr, w_fa, w_tb, w_ti, w_tn, w_L, w_L0, wb_not, cn_f, startD, arr, gN_eq, gTp, gTl, gCn, gNl, Option.bind_some, List.filterMap_cons, List.filterMap_nil, List.map_cons, List.map_nil, List.replicate_succ, List.replicate_zero, List.cons_append, List.nil_append, List.getElem?_cons_zero, List.getElem?_cons_succ, List.set_cons_zero, List.set_cons_succ, List.length_cons, List.length_nil, Nat.reduceAdd, Nat.reduceSub, Nat.reduceLeDiff, Nat.reduceEqDiff, Int.reducePow, Int.reduceToNat, Int.reduceNeg, Int.reduceAdd, Int.reduceMul, Int.reduceSub, Int.reduceLT, Int.reduceLE, Int.reduceEq, Nat.zero_add, Int.zero_add, big_eq, true_and, and_true, and_self, dSub_int, dAdd_int, dAddI_int, dLt_int, dLe_int, dGt_int, dGe_int, dEqD_int, bInt_int, bLen_lst, bLen_tup, bMin_int, bMax_int, bAbs_int, dIs_non, dIs_int, dIs_nn, Bool.not_true, Bool.not_false, decide_true, decide_false, reduceIte, Bool.false_eq_true, if_false, if_true, iSeq_lst, iSeq_tup, iSeq_rdl, iEnu_lst, iEnu_tup]
/-! ### machines -/
structure Mc where
  o : Int
  l : Int
  g : Int
namespace Mc
def letter (M : Mc) : Int := 2 * M.o + M.l
def gap (M : Mc) : Int := max M.o M.g
structure Ok (M : Mc) : Prop where
  o0 : 0 ≤ M.o
  o1 : M.o ≤ 1000000000
  l0 : 0 ≤ M.l
  l1 : M.l ≤ 1000000000
  g0 : 1 ≤ M.g
  g1 : M.g ≤ 1000000000
  z : 0 < 2 * M.o + M.l
def d (M : Mc) (c : Cl) : D := .ins c.Machine ["o", "l", "g", "letter", "gap"] [.int M.o, .int M.l, .int M.g, .int M.letter, .int M.gap]
variable {M : Mc}
theorem Ok.letter0 (h : M.Ok) : 1 ≤ M.letter := by
  have := h.z
  unfold letter
  omega
theorem Ok.letter1 (h : M.Ok) : M.letter ≤ 3000000000 := by
  have := h.o1
  have := h.l1
  unfold letter
  omega
theorem Ok.gap0 (h : M.Ok) : 1 ≤ M.gap := by
  have := h.g0
  unfold gap
  omega
theorem Ok.gap1 (h : M.Ok) : M.gap ≤ 1000000000 := by
  have := h.g1
  have := h.o1
  unfold gap
  omega
end Mc
variable {M : Mc}
theorem fld_any {s : S} {n : Str} {r : D} (hn : (List.zip (["o", "l", "g", "letter", "gap"] : List Str) [D.int M.o, .int M.l, .int M.g, .int M.letter, .int M.gap]).lookup n = some r) : fldOf s [c.Machine] n (M.d c) = some r := by
  unfold fldOf
  show (if c.Machine ∈ [c.Machine] then _ else _) = _
  rw [if_pos (List.mem_singleton.mpr rfl)]
  exact hn
theorem fld_o (s : S) : fldOf s [c.Machine] "o" (M.d c) = some (.int M.o) := fld_any rfl
theorem fld_g (s : S) : fldOf s [c.Machine] "g" (M.d c) = some (.int M.g) := fld_any rfl
theorem fld_letter (s : S) : fldOf s [c.Machine] "letter" (M.d c) = some (.int M.letter) := fld_any rfl
theorem fld_gap (s : S) : fldOf s [c.Machine] "gap" (M.d c) = some (.int M.gap) := fld_any rfl
def hor (M : Mc) (t : Option Nat) : Int := match t with
  | none => 120 * M.letter
  | some _ => 40 * M.letter
theorem horizon_ok (hM : M.Ok) (t : Option Nat) (s : S) : G_horizon c [M.d c, tD t] s = .ok (.int (hor M t)) s := by
  have l0 := hM.letter0
  have l1 := hM.letter1
  apply eq_ok
  unfold G_horizon
  cases t with
  | none =>
    simp (implicitDefEqProofs := false) only [tD, fld_letter, ↓w_srtT, ↓w_par2, ↓w_par3, ↓w_setd, ↓w_dict1, ↓w_maxDf, ↓w_slT, ↓w_addT, ↓w_dictT, ↓w_dictI, ↓w_get, ↓w_lrg1T, ↓w_lrg2T, ↓w_lrg1, ↓w_lrg2, ↓w_pop0, ↓w_lcT, ↓w_mth, ↓w_calm, ↓w_tryM, ↓w_tm0, ↓w_tmN, ↓w_tmS, ↓w_seq, ↓w_next, ↓w_break, ↓w_cont, ↓w_retN, ↓w_asg, ↓w_expr, ↓w_ret, ↓w_if, ↓w_asgG, ↓w_for, ↓w_put, ↓w_aug, ↓w_augS, ↓w_raise0, ↓w_raise1, ↓w_raise2, ↓w_try, ↓w_tryAs, ↓w_var, ↓w_c, ↓w_op, ↓w_chain, ↓w_notV, ↓w_andV, ↓w_orV, ↓w_ifE, ↓w_tst, ↓w_not, ↓w_and, ↓w_or, ↓w_yes, ↓w_nil, ↓w_cons, ↓w_tup, ↓w_lst, ↓w_lstT, ↓w_cb, ↓w_call, ↓w_callK, ↓w_neg, ↓w_no, ↓w_pt, ↓w_sl, ↓w_fld, ↓w_src, ↓w_rng, ↓w_enu, ↓w_listT, ↓w_app, ↓w_lc, ↓w_xf, ↓w_fldT, ↓w_make, ↓w_makeL, ↓w_run, ↓w_cut, ↓w_pure, ↓w_drop, nth2_eq, nth3_eq, w_ok, w_ex, w_nx, w_rt, w_bk, w_ct, w_exS, w_some, w_v, w_tr, w_fa, w_tb, w_ti, w_tn, w_L, w_L0, wb_not, cn_f, startD, arr, gN_eq, gTp, gTl, gCn, gNl, Option.bind_some, List.filterMap_cons, List.filterMap_nil, List.map_cons, List.map_nil, List.replicate_succ, List.replicate_zero, List.cons_append, List.nil_append, List.getElem?_cons_zero, List.getElem?_cons_succ, List.set_cons_zero, List.set_cons_succ, List.length_cons, List.length_nil, Nat.reduceAdd, Nat.reduceSub, Nat.reduceLeDiff, Nat.reduceEqDiff, Int.reducePow, Int.reduceToNat, Int.reduceNeg, Int.reduceAdd, Int.reduceMul, Int.reduceSub, Int.reduceLT, Int.reduceLE, Int.reduceEq, Nat.zero_add, Int.zero_add, big_eq, true_and, and_true, and_self, dSub_int, dAdd_int, dAddI_int, dLt_int, dLe_int, dGt_int, dGe_int, dEqD_int, bInt_int, bLen_lst, bLen_tup, bMin_int, bMax_int, bAbs_int, dIs_non, dIs_int, dIs_nn, Bool.not_true, Bool.not_false, decide_true, decide_false, reduceIte, Bool.false_eq_true, if_false, if_true, iSeq_lst, iSeq_tup, iSeq_rdl, iEnu_lst, iEnu_tup]
    rw [dMul_small (by omega) (by omega) (by omega) (by omega)]
    simp (implicitDefEqProofs := false) only [hor, ↓w_srtT, ↓w_par2, ↓w_par3, ↓w_setd, ↓w_dict1, ↓w_maxDf, ↓w_slT, ↓w_addT, ↓w_dictT, ↓w_dictI, ↓w_get, ↓w_lrg1T, ↓w_lrg2T, ↓w_lrg1, ↓w_lrg2, ↓w_pop0, ↓w_lcT, ↓w_mth, ↓w_calm, ↓w_tryM, ↓w_tm0, ↓w_tmN, ↓w_tmS, ↓w_seq, ↓w_next, ↓w_break, ↓w_cont, ↓w_retN, ↓w_asg, ↓w_expr, ↓w_ret, ↓w_if, ↓w_asgG, ↓w_for, ↓w_put, ↓w_aug, ↓w_augS, ↓w_raise0, ↓w_raise1, ↓w_raise2, ↓w_try, ↓w_tryAs, ↓w_var, ↓w_c, ↓w_op, ↓w_chain, ↓w_notV, ↓w_andV, ↓w_orV, ↓w_ifE, ↓w_tst, ↓w_not, ↓w_and, ↓w_or, ↓w_yes, ↓w_nil, ↓w_cons, ↓w_tup, ↓w_lst, ↓w_lstT, ↓w_cb, ↓w_call, ↓w_callK, ↓w_neg, ↓w_no, ↓w_pt, ↓w_sl, ↓w_fld, ↓w_src, ↓w_rng, ↓w_enu, ↓w_listT, ↓w_app, ↓w_lc, ↓w_xf, ↓w_fldT, ↓w_make, ↓w_makeL, ↓w_run, ↓w_cut, ↓w_pure, ↓w_drop, nth2_eq, nth3_eq, w_ok, w_ex, w_nx, w_rt, w_bk, w_ct, w_exS, w_some, w_v, w_tr, w_fa, w_tb, w_ti, w_tn, w_L, w_L0, wb_not, cn_f, startD, arr, gN_eq, gTp, gTl, gCn, gNl, Option.bind_some, List.filterMap_cons, List.filterMap_nil, List.map_cons, List.map_nil, List.replicate_succ, List.replicate_zero, List.cons_append, List.nil_append, List.getElem?_cons_zero, List.getElem?_cons_succ, List.set_cons_zero, List.set_cons_succ, List.length_cons, List.length_nil, Nat.reduceAdd, Nat.reduceSub, Nat.reduceLeDiff, Nat.reduceEqDiff, Int.reducePow, Int.reduceToNat, Int.reduceNeg, Int.reduceAdd, Int.reduceMul, Int.reduceSub, Int.reduceLT, Int.reduceLE, Int.reduceEq, Nat.zero_add, Int.zero_add, big_eq, true_and, and_true, and_self, dSub_int, dAdd_int, dAddI_int, dLt_int, dLe_int, dGt_int, dGe_int, dEqD_int, bInt_int, bLen_lst, bLen_tup, bMin_int, bMax_int, bAbs_int, dIs_non, dIs_int, dIs_nn, Bool.not_true, Bool.not_false, decide_true, decide_false, reduceIte, Bool.false_eq_true, if_false, if_true, iSeq_lst, iSeq_tup, iSeq_rdl, iEnu_lst, iEnu_tup]
  | some t =>
    simp (implicitDefEqProofs := false) only [tD, fld_letter, ↓w_srtT, ↓w_par2, ↓w_par3, ↓w_setd, ↓w_dict1, ↓w_maxDf, ↓w_slT, ↓w_addT, ↓w_dictT, ↓w_dictI, ↓w_get, ↓w_lrg1T, ↓w_lrg2T, ↓w_lrg1, ↓w_lrg2, ↓w_pop0, ↓w_lcT, ↓w_mth, ↓w_calm, ↓w_tryM, ↓w_tm0, ↓w_tmN, ↓w_tmS, ↓w_seq, ↓w_next, ↓w_break, ↓w_cont, ↓w_retN, ↓w_asg, ↓w_expr, ↓w_ret, ↓w_if, ↓w_asgG, ↓w_for, ↓w_put, ↓w_aug, ↓w_augS, ↓w_raise0, ↓w_raise1, ↓w_raise2, ↓w_try, ↓w_tryAs, ↓w_var, ↓w_c, ↓w_op, ↓w_chain, ↓w_notV, ↓w_andV, ↓w_orV, ↓w_ifE, ↓w_tst, ↓w_not, ↓w_and, ↓w_or, ↓w_yes, ↓w_nil, ↓w_cons, ↓w_tup, ↓w_lst, ↓w_lstT, ↓w_cb, ↓w_call, ↓w_callK, ↓w_neg, ↓w_no, ↓w_pt, ↓w_sl, ↓w_fld, ↓w_src, ↓w_rng, ↓w_enu, ↓w_listT, ↓w_app, ↓w_lc, ↓w_xf, ↓w_fldT, ↓w_make, ↓w_makeL, ↓w_run, ↓w_cut, ↓w_pure, ↓w_drop, nth2_eq, nth3_eq, w_ok, w_ex, w_nx, w_rt, w_bk, w_ct, w_exS, w_some, w_v, w_tr, w_fa, w_tb, w_ti, w_tn, w_L, w_L0, wb_not, cn_f, startD, arr, gN_eq, gTp, gTl, gCn, gNl, Option.bind_some, List.filterMap_cons, List.filterMap_nil, List.map_cons, List.map_nil, List.replicate_succ, List.replicate_zero, List.cons_append, List.nil_append, List.getElem?_cons_zero, List.getElem?_cons_succ, List.set_cons_zero, List.set_cons_succ, List.length_cons, List.length_nil, Nat.reduceAdd, Nat.reduceSub, Nat.reduceLeDiff, Nat.reduceEqDiff, Int.reducePow, Int.reduceToNat, Int.reduceNeg, Int.reduceAdd, Int.reduceMul, Int.reduceSub, Int.reduceLT, Int.reduceLE, Int.reduceEq, Nat.zero_add, Int.zero_add, big_eq, true_and, and_true, and_self, dSub_int, dAdd_int, dAddI_int, dLt_int, dLe_int, dGt_int, dGe_int, dEqD_int, bInt_int, bLen_lst, bLen_tup, bMin_int, bMax_int, bAbs_int, dIs_non, dIs_int, dIs_nn, Bool.not_true, Bool.not_false, decide_true, decide_false, reduceIte, Bool.false_eq_true, if_false, if_true, iSeq_lst, iSeq_tup, iSeq_rdl, iEnu_lst, iEnu_tup]
    rw [dMul_small (by omega) (by omega) (by omega) (by omega)]
    simp (implicitDefEqProofs := false) only [hor, ↓w_srtT, ↓w_par2, ↓w_par3, ↓w_setd, ↓w_dict1, ↓w_maxDf, ↓w_slT, ↓w_addT, ↓w_dictT, ↓w_dictI, ↓w_get, ↓w_lrg1T, ↓w_lrg2T, ↓w_lrg1, ↓w_lrg2, ↓w_pop0, ↓w_lcT, ↓w_mth, ↓w_calm, ↓w_tryM, ↓w_tm0, ↓w_tmN, ↓w_tmS, ↓w_seq, ↓w_next, ↓w_break, ↓w_cont, ↓w_retN, ↓w_asg, ↓w_expr, ↓w_ret, ↓w_if, ↓w_asgG, ↓w_for, ↓w_put, ↓w_aug, ↓w_augS, ↓w_raise0, ↓w_raise1, ↓w_raise2, ↓w_try, ↓w_tryAs, ↓w_var, ↓w_c, ↓w_op, ↓w_chain, ↓w_notV, ↓w_andV, ↓w_orV, ↓w_ifE, ↓w_tst, ↓w_not, ↓w_and, ↓w_or, ↓w_yes, ↓w_nil, ↓w_cons, ↓w_tup, ↓w_lst, ↓w_lstT, ↓w_cb, ↓w_call, ↓w_callK, ↓w_neg, ↓w_no, ↓w_pt, ↓w_sl, ↓w_fld, ↓w_src, ↓w_rng, ↓w_enu, ↓w_listT, ↓w_app, ↓w_lc, ↓w_xf, ↓w_fldT, ↓w_make, ↓w_makeL, ↓w_run, ↓w_cut, ↓w_pure, ↓w_drop, nth2_eq, nth3_eq, w_ok, w_ex, w_nx, w_rt, w_bk, w_ct, w_exS, w_some, w_v, w_tr, w_fa, w_tb, w_ti, w_tn, w_L, w_L0, wb_not, cn_f, startD, arr, gN_eq, gTp, gTl, gCn, gNl, Option.bind_some, List.filterMap_cons, List.filterMap_nil, List.map_cons, List.map_nil, List.replicate_succ, List.replicate_zero, List.cons_append, List.nil_append, List.getElem?_cons_zero, List.getElem?_cons_succ, List.set_cons_zero, List.set_cons_succ, List.length_cons, List.length_nil, Nat.reduceAdd, Nat.reduceSub, Nat.reduceLeDiff, Nat.reduceEqDiff, Int.reducePow, Int.reduceToNat, Int.reduceNeg, Int.reduceAdd, Int.reduceMul, Int.reduceSub, Int.reduceLT, Int.reduceLE, Int.reduceEq, Nat.zero_add, Int.zero_add, big_eq, true_and, and_true, and_self, dSub_int, dAdd_int, dAddI_int, dLt_int, dLe_int, dGt_int, dGe_int, dEqD_int, bInt_int, bLen_lst, bLen_tup, bMin_int, bMax_int, bAbs_int, dIs_non, dIs_int, dIs_nn, Bool.not_true, Bool.not_false, decide_true, decide_false, reduceIte, Bool.false_eq_true, if_false, if_true, iSeq_lst, iSeq_tup, iSeq_rdl, iEnu_lst, iEnu_tup]
/-! ### how many are known -/
def FR (M : Mc) (t : Option Nat) (x : Int) : Int := smZ (x / M.letter + 1).toNat fun d => cz t d ((x - d * M.letter) / M.gap)
def FRs (M : Mc) (t : Option Nat) (x : Int) : List Int → Int
  | [] => 0
  | r :: rs => FR M t (x - r) + FRs M t x rs
theorem cz_nonneg (t : Option Nat) (d : Nat) (m : Int) : 0 ≤ cz t d m := by
  unfold cz
  split <;> omega
theorem FR_nonneg (M : Mc) (t : Option Nat) (x : Int) : 0 ≤ FR M t x := smZ_nonneg fun _ _ => cz_nonneg ..
theorem FRs_nonneg (M : Mc) (t : Option Nat) (x : Int) : ∀ rs : List Int, 0 ≤ FRs M t x rs
  | [] => Int.le_refl _
  | r :: rs => Int.add_nonneg (FR_nonneg ..) (FRs_nonneg M t x rs)
theorem FRs_take (M : Mc) (t : Option Nat) (x : Int) : ∀ (rs : List Int) (i : Nat) (hi : i < rs.length), FRs M t x (rs.take (i + 1)) = FRs M t x (rs.take i) + FR M t (x - rs[i])
  | [], i, hi => absurd hi (Nat.not_lt_zero _)
  | r :: rs, 0, hi => by simp [FRs]
  | r :: rs, i + 1, hi => by
    rw [List.take_succ_cons, List.take_succ_cons, FRs, FRs, FRs_take M t x rs i (by simpa using hi), List.getElem_cons_succ]
    omega
theorem FRs_take_le (M : Mc) (t : Option Nat) (x : Int) : ∀ (rs : List Int) (i : Nat), FRs M t x (rs.take i) ≤ FRs M t x rs
  | [], i => by rw [List.take_nil]; exact Int.le_refl _
  | r :: rs, 0 => FRs_nonneg ..
  | r :: rs, i + 1 => by
    have := FRs_take_le M t x rs i
    rw [List.take_succ_cons, FRs, FRs]
    omega
/-- r is T, or is above e if T is -/
structure Kn (T e r : Int) : Prop where
  le : r ≤ T
  or : r = T ∨ e < r
theorem Kn.eq {T e r : Int} (h : Kn T e r) (hT : T ≤ e) : r = T := by
  rcases h.or with h1 | h1
  · exact h1
  · have := h.le
    omega
theorem Kn.lt {T e r : Int} (h : Kn T e r) (hT : e < T) : e < r := by
  rcases h.or with h1 | h1
  · omega
  · exact h1
theorem known_ok (hM : M.Ok) {t : Option Nat} (ht : OkT t) {x : Int} (hx0 : -1 ≤ x) (hx : x ≤ 1000 * M.letter) {rs : List Int} (hr : ∀ r ∈ rs, 0 ≤ r ∧ r ≤ 1000000000000) (e : Int) (s : S) :
    ∃ r, Kn (FRs M t x rs) e r ∧ G_known_by c [M.d c, .int x, tD t, .lst (rs.map D.int), .int e] s = .ok (.int r) s := by
  have l0 := hM.letter0
  have l1 := hM.letter1
  have g0 := hM.gap0
  have g1 := hM.gap1
  suffices h : @WR _ (G_known_by c [M.d c, .int x, tD t, .lst (rs.map D.int), .int e] s) ⟨fun d s' => ∃ r, d = .int r ∧ s' = s ∧ Kn (FRs M t x rs) e r⟩ ⟨nE⟩ by
    obtain ⟨a, s', h1, r, rfl, rfl, h2⟩ := ex_ok h
    exact ⟨r, h2, h1⟩
  unfold G_known_by
  simp (implicitDefEqProofs := false) only [↓w_srtT, ↓w_par2, ↓w_par3, ↓w_setd, ↓w_dict1, ↓w_maxDf, ↓w_slT, ↓w_addT, ↓w_dictT, ↓w_dictI, ↓w_get, ↓w_lrg1T, ↓w_lrg2T, ↓w_lrg1, ↓w_lrg2, ↓w_pop0, ↓w_lcT, ↓w_mth, ↓w_calm, ↓w_tryM, ↓w_tm0, ↓w_tmN, ↓w_tmS, ↓w_seq, ↓w_next, ↓w_break, ↓w_cont, ↓w_retN, ↓w_asg, ↓w_expr, ↓w_ret, ↓w_if, ↓w_asgG, ↓w_for, ↓w_put, ↓w_aug, ↓w_augS, ↓w_raise0, ↓w_raise1, ↓w_raise2, ↓w_try, ↓w_tryAs, ↓w_var, ↓w_c, ↓w_op, ↓w_chain, ↓w_notV, ↓w_andV, ↓w_orV, ↓w_ifE, ↓w_tst, ↓w_not, ↓w_and, ↓w_or, ↓w_yes, ↓w_nil, ↓w_cons, ↓w_tup, ↓w_lst, ↓w_lstT, ↓w_cb, ↓w_call, ↓w_callK, ↓w_neg, ↓w_no, ↓w_pt, ↓w_sl, ↓w_fld, ↓w_src, ↓w_rng, ↓w_enu, ↓w_listT, ↓w_app, ↓w_lc, ↓w_xf, ↓w_fldT, ↓w_make, ↓w_makeL, ↓w_run, ↓w_cut, ↓w_pure, ↓w_drop, nth2_eq, nth3_eq, w_ok, w_ex, w_nx, w_rt, w_bk, w_ct, w_exS, w_some, w_v, w_tr, w_fa, w_tb, w_ti, w_tn, w_L, w_L0, wb_not, cn_f, startD, arr, gN_eq, gTp, gTl, gCn, gNl, Option.bind_some, List.filterMap_cons, List.filterMap_nil, List.map_cons, List.map_nil, List.replicate_succ, List.replicate_zero, List.cons_append, List.nil_append, List.getElem?_cons_zero, List.getElem?_cons_succ, List.set_cons_zero, List.set_cons_succ, List.length_cons, List.length_nil, Nat.reduceAdd, Nat.reduceSub, Nat.reduceLeDiff, Nat.reduceEqDiff, Int.reducePow, Int.reduceToNat, Int.reduceNeg, Int.reduceAdd, Int.reduceMul, Int.reduceSub, Int.reduceLT, Int.reduceLE, Int.reduceEq, Nat.zero_add, Int.zero_add, big_eq, true_and, and_true, and_self, dSub_int, dAdd_int, dAddI_int, dLt_int, dLe_int, dGt_int, dGe_int, dEqD_int, bInt_int, bLen_lst, bLen_tup, bMin_int, bMax_int, bAbs_int, dIs_non, dIs_int, dIs_nn, Bool.not_true, Bool.not_false, decide_true, decide_false, reduceIte, Bool.false_eq_true, if_false, if_true, iSeq_lst, iSeq_tup, iSeq_rdl, iEnu_lst, iEnu_tup]
  refine ws_lst (fun i L s' => ∃ y1 y2 y3, L = [some (M.d c), some (.int x), some (tD t), some (.lst (rs.map D.int)), some (.int e), some (.int (FRs M t x (rs.take i))), y1, y2, y3] ∧ s = s') ⟨none, none, none, rfl, rfl⟩ ?_ ?_
  · rintro i hi L s' ⟨y1, y2, y3, rfl, rfl⟩
    obtain ⟨r, er⟩ : ∃ r, r = rs[i] := ⟨_, rfl⟩
    have r0 : 0 ≤ r ∧ r ≤ 1000000000000 := by rw [er]; exact hr _ (List.getElem_mem hi)
    have q1 : (x - r) / M.letter ≤ 1000 := Int.ediv_le_of_le_mul (by omega) (by omega)
    have q2 : -4611686018427387904 ≤ (x - r) / M.letter + 1 := by
      have := Int.le_ediv_of_mul_le (a := -10000000000000) (b := x - r) (c := M.letter) (by omega) (by omega)
      omega
    simp (implicitDefEqProofs := false) only [← er, fld_letter, ↓w_srtT, ↓w_par2, ↓w_par3, ↓w_setd, ↓w_dict1, ↓w_maxDf, ↓w_slT, ↓w_addT, ↓w_dictT, ↓w_dictI, ↓w_get, ↓w_lrg1T, ↓w_lrg2T, ↓w_lrg1, ↓w_lrg2, ↓w_pop0, ↓w_lcT, ↓w_mth, ↓w_calm, ↓w_tryM, ↓w_tm0, ↓w_tmN, ↓w_tmS, ↓w_seq, ↓w_next, ↓w_break, ↓w_cont, ↓w_retN, ↓w_asg, ↓w_expr, ↓w_ret, ↓w_if, ↓w_asgG, ↓w_for, ↓w_put, ↓w_aug, ↓w_augS, ↓w_raise0, ↓w_raise1, ↓w_raise2, ↓w_try, ↓w_tryAs, ↓w_var, ↓w_c, ↓w_op, ↓w_chain, ↓w_notV, ↓w_andV, ↓w_orV, ↓w_ifE, ↓w_tst, ↓w_not, ↓w_and, ↓w_or, ↓w_yes, ↓w_nil, ↓w_cons, ↓w_tup, ↓w_lst, ↓w_lstT, ↓w_cb, ↓w_call, ↓w_callK, ↓w_neg, ↓w_no, ↓w_pt, ↓w_sl, ↓w_fld, ↓w_src, ↓w_rng, ↓w_enu, ↓w_listT, ↓w_app, ↓w_lc, ↓w_xf, ↓w_fldT, ↓w_make, ↓w_makeL, ↓w_run, ↓w_cut, ↓w_pure, ↓w_drop, nth2_eq, nth3_eq, w_ok, w_ex, w_nx, w_rt, w_bk, w_ct, w_exS, w_some, w_v, w_tr, w_fa, w_tb, w_ti, w_tn, w_L, w_L0, wb_not, cn_f, startD, arr, gN_eq, gTp, gTl, gCn, gNl, Option.bind_some, List.filterMap_cons, List.filterMap_nil, List.map_cons, List.map_nil, List.replicate_succ, List.replicate_zero, List.cons_append, List.nil_append, List.getElem?_cons_zero, List.getElem?_cons_succ, List.set_cons_zero, List.set_cons_succ, List.length_cons, List.length_nil, Nat.reduceAdd, Nat.reduceSub, Nat.reduceLeDiff, Nat.reduceEqDiff, Int.reducePow, Int.reduceToNat, Int.reduceNeg, Int.reduceAdd, Int.reduceMul, Int.reduceSub, Int.reduceLT, Int.reduceLE, Int.reduceEq, Nat.zero_add, Int.zero_add, big_eq, true_and, and_true, and_self, dSub_int, dAdd_int, dAddI_int, dLt_int, dLe_int, dGt_int, dGe_int, dEqD_int, bInt_int, bLen_lst, bLen_tup, bMin_int, bMax_int, bAbs_int, dIs_non, dIs_int, dIs_nn, Bool.not_true, Bool.not_false, decide_true, decide_false, reduceIte, Bool.false_eq_true, if_false, if_true, iSeq_lst, iSeq_tup, iSeq_rdl, iEnu_lst, iEnu_tup]
    rw [dDiv_small (by omega) (by omega)]
    simp (implicitDefEqProofs := false) only [↓w_srtT, ↓w_par2, ↓w_par3, ↓w_setd, ↓w_dict1, ↓w_maxDf, ↓w_slT, ↓w_addT, ↓w_dictT, ↓w_dictI, ↓w_get, ↓w_lrg1T, ↓w_lrg2T, ↓w_lrg1, ↓w_lrg2, ↓w_pop0, ↓w_lcT, ↓w_mth, ↓w_calm, ↓w_tryM, ↓w_tm0, ↓w_tmN, ↓w_tmS, ↓w_seq, ↓w_next, ↓w_break, ↓w_cont, ↓w_retN, ↓w_asg, ↓w_expr, ↓w_ret, ↓w_if, ↓w_asgG, ↓w_for, ↓w_put, ↓w_aug, ↓w_augS, ↓w_raise0, ↓w_raise1, ↓w_raise2, ↓w_try, ↓w_tryAs, ↓w_var, ↓w_c, ↓w_op, ↓w_chain, ↓w_notV, ↓w_andV, ↓w_orV, ↓w_ifE, ↓w_tst, ↓w_not, ↓w_and, ↓w_or, ↓w_yes, ↓w_nil, ↓w_cons, ↓w_tup, ↓w_lst, ↓w_lstT, ↓w_cb, ↓w_call, ↓w_callK, ↓w_neg, ↓w_no, ↓w_pt, ↓w_sl, ↓w_fld, ↓w_src, ↓w_rng, ↓w_enu, ↓w_listT, ↓w_app, ↓w_lc, ↓w_xf, ↓w_fldT, ↓w_make, ↓w_makeL, ↓w_run, ↓w_cut, ↓w_pure, ↓w_drop, nth2_eq, nth3_eq, w_ok, w_ex, w_nx, w_rt, w_bk, w_ct, w_exS, w_some, w_v, w_tr, w_fa, w_tb, w_ti, w_tn, w_L, w_L0, wb_not, cn_f, startD, arr, gN_eq, gTp, gTl, gCn, gNl, Option.bind_some, List.filterMap_cons, List.filterMap_nil, List.map_cons, List.map_nil, List.replicate_succ, List.replicate_zero, List.cons_append, List.nil_append, List.getElem?_cons_zero, List.getElem?_cons_succ, List.set_cons_zero, List.set_cons_succ, List.length_cons, List.length_nil, Nat.reduceAdd, Nat.reduceSub, Nat.reduceLeDiff, Nat.reduceEqDiff, Int.reducePow, Int.reduceToNat, Int.reduceNeg, Int.reduceAdd, Int.reduceMul, Int.reduceSub, Int.reduceLT, Int.reduceLE, Int.reduceEq, Nat.zero_add, Int.zero_add, big_eq, true_and, and_true, and_self, dSub_int, dAdd_int, dAddI_int, dLt_int, dLe_int, dGt_int, dGe_int, dEqD_int, bInt_int, bLen_lst, bLen_tup, bMin_int, bMax_int, bAbs_int, dIs_non, dIs_int, dIs_nn, Bool.not_true, Bool.not_false, decide_true, decide_false, reduceIte, Bool.false_eq_true, if_false, if_true, iSeq_lst, iSeq_tup, iSeq_rdl, iEnu_lst, iEnu_tup]
    rw [rng1 (by omega) (by omega), w_some]
    have hT := FRs_take M t x rs i hi
    have hT2 := FRs_take_le M t x rs (i + 1)
    rw [← er] at hT
    obtain ⟨A, eA⟩ : ∃ A, A = FRs M t x (rs.take i) := ⟨_, rfl⟩
    rw [← eA] at hT ⊢
    have hF : FR M t (x - r) = smZ ((x - r) / M.letter + 1).toNat fun d => cz t d ((x - r - d * M.letter) / M.gap) := rfl
    refine ws_rng (fun j L s' => ∃ y2 y3, L = [some (M.d c), some (.int x), some (tD t), some (.lst (rs.map D.int)), some (.int e), some (.int (A + smZ j fun d => cz t d ((x - r - d * M.letter) / M.gap))), some (.int r), y2, y3] ∧ s = s') ⟨y2, y3, ?_, rfl⟩ ?_ ?_
    · rw [smZ, Int.add_zero]
    · rintro j L s' hj ⟨y2, y3, rfl, rfl⟩
      simp (implicitDefEqProofs := false) only [fld_letter, ↓w_srtT, ↓w_par2, ↓w_par3, ↓w_setd, ↓w_dict1, ↓w_maxDf, ↓w_slT, ↓w_addT, ↓w_dictT, ↓w_dictI, ↓w_get, ↓w_lrg1T, ↓w_lrg2T, ↓w_lrg1, ↓w_lrg2, ↓w_pop0, ↓w_lcT, ↓w_mth, ↓w_calm, ↓w_tryM, ↓w_tm0, ↓w_tmN, ↓w_tmS, ↓w_seq, ↓w_next, ↓w_break, ↓w_cont, ↓w_retN, ↓w_asg, ↓w_expr, ↓w_ret, ↓w_if, ↓w_asgG, ↓w_for, ↓w_put, ↓w_aug, ↓w_augS, ↓w_raise0, ↓w_raise1, ↓w_raise2, ↓w_try, ↓w_tryAs, ↓w_var, ↓w_c, ↓w_op, ↓w_chain, ↓w_notV, ↓w_andV, ↓w_orV, ↓w_ifE, ↓w_tst, ↓w_not, ↓w_and, ↓w_or, ↓w_yes, ↓w_nil, ↓w_cons, ↓w_tup, ↓w_lst, ↓w_lstT, ↓w_cb, ↓w_call, ↓w_callK, ↓w_neg, ↓w_no, ↓w_pt, ↓w_sl, ↓w_fld, ↓w_src, ↓w_rng, ↓w_enu, ↓w_listT, ↓w_app, ↓w_lc, ↓w_xf, ↓w_fldT, ↓w_make, ↓w_makeL, ↓w_run, ↓w_cut, ↓w_pure, ↓w_drop, nth2_eq, nth3_eq, w_ok, w_ex, w_nx, w_rt, w_bk, w_ct, w_exS, w_some, w_v, w_tr, w_fa, w_tb, w_ti, w_tn, w_L, w_L0, wb_not, cn_f, startD, arr, gN_eq, gTp, gTl, gCn, gNl, Option.bind_some, List.filterMap_cons, List.filterMap_nil, List.map_cons, List.map_nil, List.replicate_succ, List.replicate_zero, List.cons_append, List.nil_append, List.getElem?_cons_zero, List.getElem?_cons_succ, List.set_cons_zero, List.set_cons_succ, List.length_cons, List.length_nil, Nat.reduceAdd, Nat.reduceSub, Nat.reduceLeDiff, Nat.reduceEqDiff, Int.reducePow, Int.reduceToNat, Int.reduceNeg, Int.reduceAdd, Int.reduceMul, Int.reduceSub, Int.reduceLT, Int.reduceLE, Int.reduceEq, Nat.zero_add, Int.zero_add, big_eq, true_and, and_true, and_self, dSub_int, dAdd_int, dAddI_int, dLt_int, dLe_int, dGt_int, dGe_int, dEqD_int, bInt_int, bLen_lst, bLen_tup, bMin_int, bMax_int, bAbs_int, dIs_non, dIs_int, dIs_nn, Bool.not_true, Bool.not_false, decide_true, decide_false, reduceIte, Bool.false_eq_true, if_false, if_true, iSeq_lst, iSeq_tup, iSeq_rdl, iEnu_lst, iEnu_tup]
      rw [dMul_small (by omega) (by omega) (by omega) (by omega)]
      simp (implicitDefEqProofs := false) only [fld_gap, ↓w_srtT, ↓w_par2, ↓w_par3, ↓w_setd, ↓w_dict1, ↓w_maxDf, ↓w_slT, ↓w_addT, ↓w_dictT, ↓w_dictI, ↓w_get, ↓w_lrg1T, ↓w_lrg2T, ↓w_lrg1, ↓w_lrg2, ↓w_pop0, ↓w_lcT, ↓w_mth, ↓w_calm, ↓w_tryM, ↓w_tm0, ↓w_tmN, ↓w_tmS, ↓w_seq, ↓w_next, ↓w_break, ↓w_cont, ↓w_retN, ↓w_asg, ↓w_expr, ↓w_ret, ↓w_if, ↓w_asgG, ↓w_for, ↓w_put, ↓w_aug, ↓w_augS, ↓w_raise0, ↓w_raise1, ↓w_raise2, ↓w_try, ↓w_tryAs, ↓w_var, ↓w_c, ↓w_op, ↓w_chain, ↓w_notV, ↓w_andV, ↓w_orV, ↓w_ifE, ↓w_tst, ↓w_not, ↓w_and, ↓w_or, ↓w_yes, ↓w_nil, ↓w_cons, ↓w_tup, ↓w_lst, ↓w_lstT, ↓w_cb, ↓w_call, ↓w_callK, ↓w_neg, ↓w_no, ↓w_pt, ↓w_sl, ↓w_fld, ↓w_src, ↓w_rng, ↓w_enu, ↓w_listT, ↓w_app, ↓w_lc, ↓w_xf, ↓w_fldT, ↓w_make, ↓w_makeL, ↓w_run, ↓w_cut, ↓w_pure, ↓w_drop, nth2_eq, nth3_eq, w_ok, w_ex, w_nx, w_rt, w_bk, w_ct, w_exS, w_some, w_v, w_tr, w_fa, w_tb, w_ti, w_tn, w_L, w_L0, wb_not, cn_f, startD, arr, gN_eq, gTp, gTl, gCn, gNl, Option.bind_some, List.filterMap_cons, List.filterMap_nil, List.map_cons, List.map_nil, List.replicate_succ, List.replicate_zero, List.cons_append, List.nil_append, List.getElem?_cons_zero, List.getElem?_cons_succ, List.set_cons_zero, List.set_cons_succ, List.length_cons, List.length_nil, Nat.reduceAdd, Nat.reduceSub, Nat.reduceLeDiff, Nat.reduceEqDiff, Int.reducePow, Int.reduceToNat, Int.reduceNeg, Int.reduceAdd, Int.reduceMul, Int.reduceSub, Int.reduceLT, Int.reduceLE, Int.reduceEq, Nat.zero_add, Int.zero_add, big_eq, true_and, and_true, and_self, dSub_int, dAdd_int, dAddI_int, dLt_int, dLe_int, dGt_int, dGe_int, dEqD_int, bInt_int, bLen_lst, bLen_tup, bMin_int, bMax_int, bAbs_int, dIs_non, dIs_int, dIs_nn, Bool.not_true, Bool.not_false, decide_true, decide_false, reduceIte, Bool.false_eq_true, if_false, if_true, iSeq_lst, iSeq_tup, iSeq_rdl, iEnu_lst, iEnu_tup]
      rw [dDiv_small (by omega) (by omega)]
      simp (implicitDefEqProofs := false) only [↓w_srtT, ↓w_par2, ↓w_par3, ↓w_setd, ↓w_dict1, ↓w_maxDf, ↓w_slT, ↓w_addT, ↓w_dictT, ↓w_dictI, ↓w_get, ↓w_lrg1T, ↓w_lrg2T, ↓w_lrg1, ↓w_lrg2, ↓w_pop0, ↓w_lcT, ↓w_mth, ↓w_calm, ↓w_tryM, ↓w_tm0, ↓w_tmN, ↓w_tmS, ↓w_seq, ↓w_next, ↓w_break, ↓w_cont, ↓w_retN, ↓w_asg, ↓w_expr, ↓w_ret, ↓w_if, ↓w_asgG, ↓w_for, ↓w_put, ↓w_aug, ↓w_augS, ↓w_raise0, ↓w_raise1, ↓w_raise2, ↓w_try, ↓w_tryAs, ↓w_var, ↓w_c, ↓w_op, ↓w_chain, ↓w_notV, ↓w_andV, ↓w_orV, ↓w_ifE, ↓w_tst, ↓w_not, ↓w_and, ↓w_or, ↓w_yes, ↓w_nil, ↓w_cons, ↓w_tup, ↓w_lst, ↓w_lstT, ↓w_cb, ↓w_call, ↓w_callK, ↓w_neg, ↓w_no, ↓w_pt, ↓w_sl, ↓w_fld, ↓w_src, ↓w_rng, ↓w_enu, ↓w_listT, ↓w_app, ↓w_lc, ↓w_xf, ↓w_fldT, ↓w_make, ↓w_makeL, ↓w_run, ↓w_cut, ↓w_pure, ↓w_drop, nth2_eq, nth3_eq, w_ok, w_ex, w_nx, w_rt, w_bk, w_ct, w_exS, w_some, w_v, w_tr, w_fa, w_tb, w_ti, w_tn, w_L, w_L0, wb_not, cn_f, startD, arr, gN_eq, gTp, gTl, gCn, gNl, Option.bind_some, List.filterMap_cons, List.filterMap_nil, List.map_cons, List.map_nil, List.replicate_succ, List.replicate_zero, List.cons_append, List.nil_append, List.getElem?_cons_zero, List.getElem?_cons_succ, List.set_cons_zero, List.set_cons_succ, List.length_cons, List.length_nil, Nat.reduceAdd, Nat.reduceSub, Nat.reduceLeDiff, Nat.reduceEqDiff, Int.reducePow, Int.reduceToNat, Int.reduceNeg, Int.reduceAdd, Int.reduceMul, Int.reduceSub, Int.reduceLT, Int.reduceLE, Int.reduceEq, Nat.zero_add, Int.zero_add, big_eq, true_and, and_true, and_self, dSub_int, dAdd_int, dAddI_int, dLt_int, dLe_int, dGt_int, dGe_int, dEqD_int, bInt_int, bLen_lst, bLen_tup, bMin_int, bMax_int, bAbs_int, dIs_non, dIs_int, dIs_nn, Bool.not_true, Bool.not_false, decide_true, decide_false, reduceIte, Bool.false_eq_true, if_false, if_true, iSeq_lst, iSeq_tup, iSeq_rdl, iEnu_lst, iEnu_tup]
      have hd : (x - r - (j : Int) * M.letter) / M.gap < 10 ^ 25 := by
        have : (x - r - (j : Int) * M.letter) / M.gap ≤ 3000000000000 := by
          refine Int.ediv_le_of_le_mul (by omega) ?_
          have := Int.mul_nonneg (show (0 : Int) ≤ j by omega) (show 0 ≤ M.letter by omega)
          omega
        omega
      rw [tuples_ok ht (by omega) hd]
      simp (implicitDefEqProofs := false) only [↓w_srtT, ↓w_par2, ↓w_par3, ↓w_setd, ↓w_dict1, ↓w_maxDf, ↓w_slT, ↓w_addT, ↓w_dictT, ↓w_dictI, ↓w_get, ↓w_lrg1T, ↓w_lrg2T, ↓w_lrg1, ↓w_lrg2, ↓w_pop0, ↓w_lcT, ↓w_mth, ↓w_calm, ↓w_tryM, ↓w_tm0, ↓w_tmN, ↓w_tmS, ↓w_seq, ↓w_next, ↓w_break, ↓w_cont, ↓w_retN, ↓w_asg, ↓w_expr, ↓w_ret, ↓w_if, ↓w_asgG, ↓w_for, ↓w_put, ↓w_aug, ↓w_augS, ↓w_raise0, ↓w_raise1, ↓w_raise2, ↓w_try, ↓w_tryAs, ↓w_var, ↓w_c, ↓w_op, ↓w_chain, ↓w_notV, ↓w_andV, ↓w_orV, ↓w_ifE, ↓w_tst, ↓w_not, ↓w_and, ↓w_or, ↓w_yes, ↓w_nil, ↓w_cons, ↓w_tup, ↓w_lst, ↓w_lstT, ↓w_cb, ↓w_call, ↓w_callK, ↓w_neg, ↓w_no, ↓w_pt, ↓w_sl, ↓w_fld, ↓w_src, ↓w_rng, ↓w_enu, ↓w_listT, ↓w_app, ↓w_lc, ↓w_xf, ↓w_fldT, ↓w_make, ↓w_makeL, ↓w_run, ↓w_cut, ↓w_pure, ↓w_drop, nth2_eq, nth3_eq, w_ok, w_ex, w_nx, w_rt, w_bk, w_ct, w_exS, w_some, w_v, w_tr, w_fa, w_tb, w_ti, w_tn, w_L, w_L0, wb_not, cn_f, startD, arr, gN_eq, gTp, gTl, gCn, gNl, Option.bind_some, List.filterMap_cons, List.filterMap_nil, List.map_cons, List.map_nil, List.replicate_succ, List.replicate_zero, List.cons_append, List.nil_append, List.getElem?_cons_zero, List.getElem?_cons_succ, List.set_cons_zero, List.set_cons_succ, List.length_cons, List.length_nil, Nat.reduceAdd, Nat.reduceSub, Nat.reduceLeDiff, Nat.reduceEqDiff, Int.reducePow, Int.reduceToNat, Int.reduceNeg, Int.reduceAdd, Int.reduceMul, Int.reduceSub, Int.reduceLT, Int.reduceLE, Int.reduceEq, Nat.zero_add, Int.zero_add, big_eq, true_and, and_true, and_self, dSub_int, dAdd_int, dAddI_int, dLt_int, dLe_int, dGt_int, dGe_int, dEqD_int, bInt_int, bLen_lst, bLen_tup, bMin_int, bMax_int, bAbs_int, dIs_non, dIs_int, dIs_nn, Bool.not_true, Bool.not_false, decide_true, decide_false, reduceIte, Bool.false_eq_true, if_false, if_true, iSeq_lst, iSeq_tup, iSeq_rdl, iEnu_lst, iEnu_tup]
      refine wb_dec (fun h1 => ?_) (fun h1 => ?_)
      · simp (implicitDefEqProofs := false) only [↓w_srtT, ↓w_par2, ↓w_par3, ↓w_setd, ↓w_dict1, ↓w_maxDf, ↓w_slT, ↓w_addT, ↓w_dictT, ↓w_dictI, ↓w_get, ↓w_lrg1T, ↓w_lrg2T, ↓w_lrg1, ↓w_lrg2, ↓w_pop0, ↓w_lcT, ↓w_mth, ↓w_calm, ↓w_tryM, ↓w_tm0, ↓w_tmN, ↓w_tmS, ↓w_seq, ↓w_next, ↓w_break, ↓w_cont, ↓w_retN, ↓w_asg, ↓w_expr, ↓w_ret, ↓w_if, ↓w_asgG, ↓w_for, ↓w_put, ↓w_aug, ↓w_augS, ↓w_raise0, ↓w_raise1, ↓w_raise2, ↓w_try, ↓w_tryAs, ↓w_var, ↓w_c, ↓w_op, ↓w_chain, ↓w_notV, ↓w_andV, ↓w_orV, ↓w_ifE, ↓w_tst, ↓w_not, ↓w_and, ↓w_or, ↓w_yes, ↓w_nil, ↓w_cons, ↓w_tup, ↓w_lst, ↓w_lstT, ↓w_cb, ↓w_call, ↓w_callK, ↓w_neg, ↓w_no, ↓w_pt, ↓w_sl, ↓w_fld, ↓w_src, ↓w_rng, ↓w_enu, ↓w_listT, ↓w_app, ↓w_lc, ↓w_xf, ↓w_fldT, ↓w_make, ↓w_makeL, ↓w_run, ↓w_cut, ↓w_pure, ↓w_drop, nth2_eq, nth3_eq, w_ok, w_ex, w_nx, w_rt, w_bk, w_ct, w_exS, w_some, w_v, w_tr, w_fa, w_tb, w_ti, w_tn, w_L, w_L0, wb_not, cn_f, startD, arr, gN_eq, gTp, gTl, gCn, gNl, Option.bind_some, List.filterMap_cons, List.filterMap_nil, List.map_cons, List.map_nil, List.replicate_succ, List.replicate_zero, List.cons_append, List.nil_append, List.getElem?_cons_zero, List.getElem?_cons_succ, List.set_cons_zero, List.set_cons_succ, List.length_cons, List.length_nil, Nat.reduceAdd, Nat.reduceSub, Nat.reduceLeDiff, Nat.reduceEqDiff, Int.reducePow, Int.reduceToNat, Int.reduceNeg, Int.reduceAdd, Int.reduceMul, Int.reduceSub, Int.reduceLT, Int.reduceLE, Int.reduceEq, Nat.zero_add, Int.zero_add, big_eq, true_and, and_true, and_self, dSub_int, dAdd_int, dAddI_int, dLt_int, dLe_int, dGt_int, dGe_int, dEqD_int, bInt_int, bLen_lst, bLen_tup, bMin_int, bMax_int, bAbs_int, dIs_non, dIs_int, dIs_nn, Bool.not_true, Bool.not_false, decide_true, decide_false, reduceIte, Bool.false_eq_true, if_false, if_true, iSeq_lst, iSeq_tup, iSeq_rdl, iEnu_lst, iEnu_tup]
        have hs := smZ_shorter (n := j + 1) (m := ((x - r) / M.letter + 1).toNat) (f := fun d => cz t d ((x - r - d * M.letter) / M.gap)) hj fun _ _ => cz_nonneg ..
        rw [smZ] at hs
        exact ⟨_, rfl, by omega, .inr (by omega)⟩
      · simp (implicitDefEqProofs := false) only [↓w_srtT, ↓w_par2, ↓w_par3, ↓w_setd, ↓w_dict1, ↓w_maxDf, ↓w_slT, ↓w_addT, ↓w_dictT, ↓w_dictI, ↓w_get, ↓w_lrg1T, ↓w_lrg2T, ↓w_lrg1, ↓w_lrg2, ↓w_pop0, ↓w_lcT, ↓w_mth, ↓w_calm, ↓w_tryM, ↓w_tm0, ↓w_tmN, ↓w_tmS, ↓w_seq, ↓w_next, ↓w_break, ↓w_cont, ↓w_retN, ↓w_asg, ↓w_expr, ↓w_ret, ↓w_if, ↓w_asgG, ↓w_for, ↓w_put, ↓w_aug, ↓w_augS, ↓w_raise0, ↓w_raise1, ↓w_raise2, ↓w_try, ↓w_tryAs, ↓w_var, ↓w_c, ↓w_op, ↓w_chain, ↓w_notV, ↓w_andV, ↓w_orV, ↓w_ifE, ↓w_tst, ↓w_not, ↓w_and, ↓w_or, ↓w_yes, ↓w_nil, ↓w_cons, ↓w_tup, ↓w_lst, ↓w_lstT, ↓w_cb, ↓w_call, ↓w_callK, ↓w_neg, ↓w_no, ↓w_pt, ↓w_sl, ↓w_fld, ↓w_src, ↓w_rng, ↓w_enu, ↓w_listT, ↓w_app, ↓w_lc, ↓w_xf, ↓w_fldT, ↓w_make, ↓w_makeL, ↓w_run, ↓w_cut, ↓w_pure, ↓w_drop, nth2_eq, nth3_eq, w_ok, w_ex, w_nx, w_rt, w_bk, w_ct, w_exS, w_some, w_v, w_tr, w_fa, w_tb, w_ti, w_tn, w_L, w_L0, wb_not, cn_f, startD, arr, gN_eq, gTp, gTl, gCn, gNl, Option.bind_some, List.filterMap_cons, List.filterMap_nil, List.map_cons, List.map_nil, List.replicate_succ, List.replicate_zero, List.cons_append, List.nil_append, List.getElem?_cons_zero, List.getElem?_cons_succ, List.set_cons_zero, List.set_cons_succ, List.length_cons, List.length_nil, Nat.reduceAdd, Nat.reduceSub, Nat.reduceLeDiff, Nat.reduceEqDiff, Int.reducePow, Int.reduceToNat, Int.reduceNeg, Int.reduceAdd, Int.reduceMul, Int.reduceSub, Int.reduceLT, Int.reduceLE, Int.reduceEq, Nat.zero_add, Int.zero_add, big_eq, true_and, and_true, and_self, dSub_int, dAdd_int, dAddI_int, dLt_int, dLe_int, dGt_int, dGe_int, dEqD_int, bInt_int, bLen_lst, bLen_tup, bMin_int, bMax_int, bAbs_int, dIs_non, dIs_int, dIs_nn, Bool.not_true, Bool.not_false, decide_true, decide_false, reduceIte, Bool.false_eq_true, if_false, if_true, iSeq_lst, iSeq_tup, iSeq_rdl, iEnu_lst, iEnu_tup]
        exact ⟨_, _, by rw [smZ, Int.add_assoc]⟩
    · rintro L s' ⟨y2, y3, rfl, rfl⟩
      rw [hT, hF]
      exact ⟨_, _, _, rfl, rfl⟩
  · rintro L s' ⟨y1, y2, y3, rfl, rfl⟩
    simp (implicitDefEqProofs := false) only [↓w_srtT, ↓w_par2, ↓w_par3, ↓w_setd, ↓w_dict1, ↓w_maxDf, ↓w_slT, ↓w_addT, ↓w_dictT, ↓w_dictI, ↓w_get, ↓w_lrg1T, ↓w_lrg2T, ↓w_lrg1, ↓w_lrg2, ↓w_pop0, ↓w_lcT, ↓w_mth, ↓w_calm, ↓w_tryM, ↓w_tm0, ↓w_tmN, ↓w_tmS, ↓w_seq, ↓w_next, ↓w_break, ↓w_cont, ↓w_retN, ↓w_asg, ↓w_expr, ↓w_ret, ↓w_if, ↓w_asgG, ↓w_for, ↓w_put, ↓w_aug, ↓w_augS, ↓w_raise0, ↓w_raise1, ↓w_raise2, ↓w_try, ↓w_tryAs, ↓w_var, ↓w_c, ↓w_op, ↓w_chain, ↓w_notV, ↓w_andV, ↓w_orV, ↓w_ifE, ↓w_tst, ↓w_not, ↓w_and, ↓w_or, ↓w_yes, ↓w_nil, ↓w_cons, ↓w_tup, ↓w_lst, ↓w_lstT, ↓w_cb, ↓w_call, ↓w_callK, ↓w_neg, ↓w_no, ↓w_pt, ↓w_sl, ↓w_fld, ↓w_src, ↓w_rng, ↓w_enu, ↓w_listT, ↓w_app, ↓w_lc, ↓w_xf, ↓w_fldT, ↓w_make, ↓w_makeL, ↓w_run, ↓w_cut, ↓w_pure, ↓w_drop, nth2_eq, nth3_eq, w_ok, w_ex, w_nx, w_rt, w_bk, w_ct, w_exS, w_some, w_v, w_tr, w_fa, w_tb, w_ti, w_tn, w_L, w_L0, wb_not, cn_f, startD, arr, gN_eq, gTp, gTl, gCn, gNl, Option.bind_some, List.filterMap_cons, List.filterMap_nil, List.map_cons, List.map_nil, List.replicate_succ, List.replicate_zero, List.cons_append, List.nil_append, List.getElem?_cons_zero, List.getElem?_cons_succ, List.set_cons_zero, List.set_cons_succ, List.length_cons, List.length_nil, Nat.reduceAdd, Nat.reduceSub, Nat.reduceLeDiff, Nat.reduceEqDiff, Int.reducePow, Int.reduceToNat, Int.reduceNeg, Int.reduceAdd, Int.reduceMul, Int.reduceSub, Int.reduceLT, Int.reduceLE, Int.reduceEq, Nat.zero_add, Int.zero_add, big_eq, true_and, and_true, and_self, dSub_int, dAdd_int, dAddI_int, dLt_int, dLe_int, dGt_int, dGe_int, dEqD_int, bInt_int, bLen_lst, bLen_tup, bMin_int, bMax_int, bAbs_int, dIs_non, dIs_int, dIs_nn, Bool.not_true, Bool.not_false, decide_true, decide_false, reduceIte, Bool.false_eq_true, if_false, if_true, iSeq_lst, iSeq_tup, iSeq_rdl, iEnu_lst, iEnu_tup]
    refine ⟨_, rfl, ?_, .inl ?_⟩
    · exact FRs_take_le ..
    · rw [List.take_length]
end Pg

namespace Pg
open PySem L2 SI Mt
variable {c : Cl} {M : Mc}
/-! ### integers and other things -/
theorem isint_int (i : Int) (s : S) : G_is_integer c [.int i] s = .ok (.bl true) s := rfl
/-- no integer -/
def NI (c : Cl) (d : D) : Prop := ∀ s, G_is_integer c [d] s = .ok (.bl false) s
theorem NI.nint {i : Int} (h : NI c (.int i)) : False := by
  have := (h []).symm.trans (isint_int i [])
  cases this
inductive Th (c : Cl) : D → Prop
  | int (i : Int) : Th c (.int i)
  | ni {d : D} (h : NI c d) : Th c d
/-- an integer from lo to hi -/
def gb (d : D) (lo hi : Int) : Bool := match d with
  | .int i => decide (lo ≤ i) && decide (i ≤ hi)
  | _ => false
theorem gb_ni {d : D} (h : NI c d) (lo hi : Int) : gb d lo hi = false := by
  unfold gb
  split
  · exact h.nint.elim
  · rfl
theorem gb_in {i lo hi : Int} (h0 : lo ≤ i) (h1 : i ≤ hi) : gb (.int i) lo hi = true := by
  unfold gb
  simp [h0, h1]
theorem between_ok {d : D} (h : Th c d) (lo hi : Int) (s : S) : G_between c [d, .int lo, .int hi] s = .ok (.bl (gb d lo hi)) s := by
  apply eq_ok
  unfold G_between
  cases h with
  | int i =>
    unfold gb
    by_cases h : lo ≤ i
    · simp (implicitDefEqProofs := false) only [isint_int, h, Bool.true_and, ↓w_srtT, ↓w_par2, ↓w_par3, ↓w_setd, ↓w_dict1, ↓w_maxDf, ↓w_slT, ↓w_addT, ↓w_dictT, ↓w_dictI, ↓w_get, ↓w_lrg1T, ↓w_lrg2T, ↓w_lrg1, ↓w_lrg2, ↓w_pop0, ↓w_lcT, ↓w_mth, ↓w_calm, ↓w_tryM, ↓w_tm0, ↓w_tmN, ↓w_tmS, ↓w_seq, ↓w_next, ↓w_break, ↓w_cont, ↓w_retN, ↓w_asg, ↓w_expr, ↓w_ret, ↓w_if, ↓w_asgG, ↓w_for, ↓w_put, ↓w_aug, ↓w_augS, ↓w_raise0, ↓w_raise1, ↓w_raise2, ↓w_try, ↓w_tryAs, ↓w_var, ↓w_c, ↓w_op, ↓w_chain, ↓w_notV, ↓w_andV, ↓w_orV, ↓w_ifE, ↓w_tst, ↓w_not, ↓w_and, ↓w_or, ↓w_yes, ↓w_nil, ↓w_cons, ↓w_tup, ↓w_lst, ↓w_lstT, ↓w_cb, ↓w_call, ↓w_callK, ↓w_neg, ↓w_no, ↓w_pt, ↓w_sl, ↓w_fld, ↓w_src, ↓w_rng, ↓w_enu, ↓w_listT, ↓w_app, ↓w_lc, ↓w_xf, ↓w_fldT, ↓w_make, ↓w_makeL, ↓w_run, ↓w_cut, ↓w_pure, ↓w_drop, nth2_eq, nth3_eq, w_ok, w_ex, w_nx, w_rt, w_bk, w_ct, w_exS, w_some, w_v, w_tr, w_fa, w_tb, w_ti, w_tn, w_L, w_L0, wb_not, cn_f, startD, arr, gN_eq, gTp, gTl, gCn, gNl, Option.bind_some, List.filterMap_cons, List.filterMap_nil, List.map_cons, List.map_nil, List.replicate_succ, List.replicate_zero, List.cons_append, List.nil_append, List.getElem?_cons_zero, List.getElem?_cons_succ, List.set_cons_zero, List.set_cons_succ, List.length_cons, List.length_nil, Nat.reduceAdd, Nat.reduceSub, Nat.reduceLeDiff, Nat.reduceEqDiff, Int.reducePow, Int.reduceToNat, Int.reduceNeg, Int.reduceAdd, Int.reduceMul, Int.reduceSub, Int.reduceLT, Int.reduceLE, Int.reduceEq, Nat.zero_add, Int.zero_add, big_eq, true_and, and_true, and_self, dSub_int, dAdd_int, dAddI_int, dLt_int, dLe_int, dGt_int, dGe_int, dEqD_int, bInt_int, bLen_lst, bLen_tup, bMin_int, bMax_int, bAbs_int, dIs_non, dIs_int, dIs_nn, Bool.not_true, Bool.not_false, decide_true, decide_false, reduceIte, Bool.false_eq_true, if_false, if_true, iSeq_lst, iSeq_tup, iSeq_rdl, iEnu_lst, iEnu_tup]
    · simp (implicitDefEqProofs := false) only [isint_int, h, Bool.false_and, ↓w_srtT, ↓w_par2, ↓w_par3, ↓w_setd, ↓w_dict1, ↓w_maxDf, ↓w_slT, ↓w_addT, ↓w_dictT, ↓w_dictI, ↓w_get, ↓w_lrg1T, ↓w_lrg2T, ↓w_lrg1, ↓w_lrg2, ↓w_pop0, ↓w_lcT, ↓w_mth, ↓w_calm, ↓w_tryM, ↓w_tm0, ↓w_tmN, ↓w_tmS, ↓w_seq, ↓w_next, ↓w_break, ↓w_cont, ↓w_retN, ↓w_asg, ↓w_expr, ↓w_ret, ↓w_if, ↓w_asgG, ↓w_for, ↓w_put, ↓w_aug, ↓w_augS, ↓w_raise0, ↓w_raise1, ↓w_raise2, ↓w_try, ↓w_tryAs, ↓w_var, ↓w_c, ↓w_op, ↓w_chain, ↓w_notV, ↓w_andV, ↓w_orV, ↓w_ifE, ↓w_tst, ↓w_not, ↓w_and, ↓w_or, ↓w_yes, ↓w_nil, ↓w_cons, ↓w_tup, ↓w_lst, ↓w_lstT, ↓w_cb, ↓w_call, ↓w_callK, ↓w_neg, ↓w_no, ↓w_pt, ↓w_sl, ↓w_fld, ↓w_src, ↓w_rng, ↓w_enu, ↓w_listT, ↓w_app, ↓w_lc, ↓w_xf, ↓w_fldT, ↓w_make, ↓w_makeL, ↓w_run, ↓w_cut, ↓w_pure, ↓w_drop, nth2_eq, nth3_eq, w_ok, w_ex, w_nx, w_rt, w_bk, w_ct, w_exS, w_some, w_v, w_tr, w_fa, w_tb, w_ti, w_tn, w_L, w_L0, wb_not, cn_f, startD, arr, gN_eq, gTp, gTl, gCn, gNl, Option.bind_some, List.filterMap_cons, List.filterMap_nil, List.map_cons, List.map_nil, List.replicate_succ, List.replicate_zero, List.cons_append, List.nil_append, List.getElem?_cons_zero, List.getElem?_cons_succ, List.set_cons_zero, List.set_cons_succ, List.length_cons, List.length_nil, Nat.reduceAdd, Nat.reduceSub, Nat.reduceLeDiff, Nat.reduceEqDiff, Int.reducePow, Int.reduceToNat, Int.reduceNeg, Int.reduceAdd, Int.reduceMul, Int.reduceSub, Int.reduceLT, Int.reduceLE, Int.reduceEq, Nat.zero_add, Int.zero_add, big_eq, true_and, and_true, and_self, dSub_int, dAdd_int, dAddI_int, dLt_int, dLe_int, dGt_int, dGe_int, dEqD_int, bInt_int, bLen_lst, bLen_tup, bMin_int, bMax_int, bAbs_int, dIs_non, dIs_int, dIs_nn, Bool.not_true, Bool.not_false, decide_true, decide_false, reduceIte, Bool.false_eq_true, if_false, if_true, iSeq_lst, iSeq_tup, iSeq_rdl, iEnu_lst, iEnu_tup]
  | ni h =>
    rw [gb_ni h]
    have h' := h s
    simp (implicitDefEqProofs := false) only [h', ↓w_srtT, ↓w_par2, ↓w_par3, ↓w_setd, ↓w_dict1, ↓w_maxDf, ↓w_slT, ↓w_addT, ↓w_dictT, ↓w_dictI, ↓w_get, ↓w_lrg1T, ↓w_lrg2T, ↓w_lrg1, ↓w_lrg2, ↓w_pop0, ↓w_lcT, ↓w_mth, ↓w_calm, ↓w_tryM, ↓w_tm0, ↓w_tmN, ↓w_tmS, ↓w_seq, ↓w_next, ↓w_break, ↓w_cont, ↓w_retN, ↓w_asg, ↓w_expr, ↓w_ret, ↓w_if, ↓w_asgG, ↓w_for, ↓w_put, ↓w_aug, ↓w_augS, ↓w_raise0, ↓w_raise1, ↓w_raise2, ↓w_try, ↓w_tryAs, ↓w_var, ↓w_c, ↓w_op, ↓w_chain, ↓w_notV, ↓w_andV, ↓w_orV, ↓w_ifE, ↓w_tst, ↓w_not, ↓w_and, ↓w_or, ↓w_yes, ↓w_nil, ↓w_cons, ↓w_tup, ↓w_lst, ↓w_lstT, ↓w_cb, ↓w_call, ↓w_callK, ↓w_neg, ↓w_no, ↓w_pt, ↓w_sl, ↓w_fld, ↓w_src, ↓w_rng, ↓w_enu, ↓w_listT, ↓w_app, ↓w_lc, ↓w_xf, ↓w_fldT, ↓w_make, ↓w_makeL, ↓w_run, ↓w_cut, ↓w_pure, ↓w_drop, nth2_eq, nth3_eq, w_ok, w_ex, w_nx, w_rt, w_bk, w_ct, w_exS, w_some, w_v, w_tr, w_fa, w_tb, w_ti, w_tn, w_L, w_L0, wb_not, cn_f, startD, arr, gN_eq, gTp, gTl, gCn, gNl, Option.bind_some, List.filterMap_cons, List.filterMap_nil, List.map_cons, List.map_nil, List.replicate_succ, List.replicate_zero, List.cons_append, List.nil_append, List.getElem?_cons_zero, List.getElem?_cons_succ, List.set_cons_zero, List.set_cons_succ, List.length_cons, List.length_nil, Nat.reduceAdd, Nat.reduceSub, Nat.reduceLeDiff, Nat.reduceEqDiff, Int.reducePow, Int.reduceToNat, Int.reduceNeg, Int.reduceAdd, Int.reduceMul, Int.reduceSub, Int.reduceLT, Int.reduceLE, Int.reduceEq, Nat.zero_add, Int.zero_add, big_eq, true_and, and_true, and_self, dSub_int, dAdd_int, dAddI_int, dLt_int, dLe_int, dGt_int, dGe_int, dEqD_int, bInt_int, bLen_lst, bLen_tup, bMin_int, bMax_int, bAbs_int, dIs_non, dIs_int, dIs_nn, Bool.not_true, Bool.not_false, decide_true, decide_false, reduceIte, Bool.false_eq_true, if_false, if_true, iSeq_lst, iSeq_tup, iSeq_rdl, iEnu_lst, iEnu_tup]
theorem between_int {i lo hi : Int} (h0 : lo ≤ i) (h1 : i ≤ hi) (s : S) : G_between c [.int i, .int lo, .int hi] s = .ok (.bl true) s := by
  rw [between_ok (.int i), gb_in h0 h1]
theorem count_ok {i lo hi : Int} (h0 : lo ≤ i) (h1 : i ≤ hi) (s : S) : G_checked_count c [.int i, .int lo, .int hi] s = .ok (.int i) s := by
  apply eq_ok
  unfold G_checked_count
  simp (implicitDefEqProofs := false) only [between_int h0 h1, ↓w_srtT, ↓w_par2, ↓w_par3, ↓w_setd, ↓w_dict1, ↓w_maxDf, ↓w_slT, ↓w_addT, ↓w_dictT, ↓w_dictI, ↓w_get, ↓w_lrg1T, ↓w_lrg2T, ↓w_lrg1, ↓w_lrg2, ↓w_pop0, ↓w_lcT, ↓w_mth, ↓w_calm, ↓w_tryM, ↓w_tm0, ↓w_tmN, ↓w_tmS, ↓w_seq, ↓w_next, ↓w_break, ↓w_cont, ↓w_retN, ↓w_asg, ↓w_expr, ↓w_ret, ↓w_if, ↓w_asgG, ↓w_for, ↓w_put, ↓w_aug, ↓w_augS, ↓w_raise0, ↓w_raise1, ↓w_raise2, ↓w_try, ↓w_tryAs, ↓w_var, ↓w_c, ↓w_op, ↓w_chain, ↓w_notV, ↓w_andV, ↓w_orV, ↓w_ifE, ↓w_tst, ↓w_not, ↓w_and, ↓w_or, ↓w_yes, ↓w_nil, ↓w_cons, ↓w_tup, ↓w_lst, ↓w_lstT, ↓w_cb, ↓w_call, ↓w_callK, ↓w_neg, ↓w_no, ↓w_pt, ↓w_sl, ↓w_fld, ↓w_src, ↓w_rng, ↓w_enu, ↓w_listT, ↓w_app, ↓w_lc, ↓w_xf, ↓w_fldT, ↓w_make, ↓w_makeL, ↓w_run, ↓w_cut, ↓w_pure, ↓w_drop, nth2_eq, nth3_eq, w_ok, w_ex, w_nx, w_rt, w_bk, w_ct, w_exS, w_some, w_v, w_tr, w_fa, w_tb, w_ti, w_tn, w_L, w_L0, wb_not, cn_f, startD, arr, gN_eq, gTp, gTl, gCn, gNl, Option.bind_some, List.filterMap_cons, List.filterMap_nil, List.map_cons, List.map_nil, List.replicate_succ, List.replicate_zero, List.cons_append, List.nil_append, List.getElem?_cons_zero, List.getElem?_cons_succ, List.set_cons_zero, List.set_cons_succ, List.length_cons, List.length_nil, Nat.reduceAdd, Nat.reduceSub, Nat.reduceLeDiff, Nat.reduceEqDiff, Int.reducePow, Int.reduceToNat, Int.reduceNeg, Int.reduceAdd, Int.reduceMul, Int.reduceSub, Int.reduceLT, Int.reduceLE, Int.reduceEq, Nat.zero_add, Int.zero_add, big_eq, true_and, and_true, and_self, dSub_int, dAdd_int, dAddI_int, dLt_int, dLe_int, dGt_int, dGe_int, dEqD_int, bInt_int, bLen_lst, bLen_tup, bMin_int, bMax_int, bAbs_int, dIs_non, dIs_int, dIs_nn, Bool.not_true, Bool.not_false, decide_true, decide_false, reduceIte, Bool.false_eq_true, if_false, if_true, iSeq_lst, iSeq_tup, iSeq_rdl, iEnu_lst, iEnu_tup]
theorem turns_ok {t : Option Nat} (h : OkT t) (s : S) : G_checked_turns c [tD t] s = .ok (tD t) s := by
  apply eq_ok
  unfold G_checked_turns
  cases t with
  | none => simp (implicitDefEqProofs := false) only [tD, ↓w_srtT, ↓w_par2, ↓w_par3, ↓w_setd, ↓w_dict1, ↓w_maxDf, ↓w_slT, ↓w_addT, ↓w_dictT, ↓w_dictI, ↓w_get, ↓w_lrg1T, ↓w_lrg2T, ↓w_lrg1, ↓w_lrg2, ↓w_pop0, ↓w_lcT, ↓w_mth, ↓w_calm, ↓w_tryM, ↓w_tm0, ↓w_tmN, ↓w_tmS, ↓w_seq, ↓w_next, ↓w_break, ↓w_cont, ↓w_retN, ↓w_asg, ↓w_expr, ↓w_ret, ↓w_if, ↓w_asgG, ↓w_for, ↓w_put, ↓w_aug, ↓w_augS, ↓w_raise0, ↓w_raise1, ↓w_raise2, ↓w_try, ↓w_tryAs, ↓w_var, ↓w_c, ↓w_op, ↓w_chain, ↓w_notV, ↓w_andV, ↓w_orV, ↓w_ifE, ↓w_tst, ↓w_not, ↓w_and, ↓w_or, ↓w_yes, ↓w_nil, ↓w_cons, ↓w_tup, ↓w_lst, ↓w_lstT, ↓w_cb, ↓w_call, ↓w_callK, ↓w_neg, ↓w_no, ↓w_pt, ↓w_sl, ↓w_fld, ↓w_src, ↓w_rng, ↓w_enu, ↓w_listT, ↓w_app, ↓w_lc, ↓w_xf, ↓w_fldT, ↓w_make, ↓w_makeL, ↓w_run, ↓w_cut, ↓w_pure, ↓w_drop, nth2_eq, nth3_eq, w_ok, w_ex, w_nx, w_rt, w_bk, w_ct, w_exS, w_some, w_v, w_tr, w_fa, w_tb, w_ti, w_tn, w_L, w_L0, wb_not, cn_f, startD, arr, gN_eq, gTp, gTl, gCn, gNl, Option.bind_some, List.filterMap_cons, List.filterMap_nil, List.map_cons, List.map_nil, List.replicate_succ, List.replicate_zero, List.cons_append, List.nil_append, List.getElem?_cons_zero, List.getElem?_cons_succ, List.set_cons_zero, List.set_cons_succ, List.length_cons, List.length_nil, Nat.reduceAdd, Nat.reduceSub, Nat.reduceLeDiff, Nat.reduceEqDiff, Int.reducePow, Int.reduceToNat, Int.reduceNeg, Int.reduceAdd, Int.reduceMul, Int.reduceSub, Int.reduceLT, Int.reduceLE, Int.reduceEq, Nat.zero_add, Int.zero_add, big_eq, true_and, and_true, and_self, dSub_int, dAdd_int, dAddI_int, dLt_int, dLe_int, dGt_int, dGe_int, dEqD_int, bInt_int, bLen_lst, bLen_tup, bMin_int, bMax_int, bAbs_int, dIs_non, dIs_int, dIs_nn, Bool.not_true, Bool.not_false, decide_true, decide_false, reduceIte, Bool.false_eq_true, if_false, if_true, iSeq_lst, iSeq_tup, iSeq_rdl, iEnu_lst, iEnu_tup]
  | some t =>
    have := h t rfl
    simp (implicitDefEqProofs := false) only [tD, between_int (i := (t : Int)) (lo := 1) (hi := 1000000000000) (by omega) (by omega), ↓w_srtT, ↓w_par2, ↓w_par3, ↓w_setd, ↓w_dict1, ↓w_maxDf, ↓w_slT, ↓w_addT, ↓w_dictT, ↓w_dictI, ↓w_get, ↓w_lrg1T, ↓w_lrg2T, ↓w_lrg1, ↓w_lrg2, ↓w_pop0, ↓w_lcT, ↓w_mth, ↓w_calm, ↓w_tryM, ↓w_tm0, ↓w_tmN, ↓w_tmS, ↓w_seq, ↓w_next, ↓w_break, ↓w_cont, ↓w_retN, ↓w_asg, ↓w_expr, ↓w_ret, ↓w_if, ↓w_asgG, ↓w_for, ↓w_put, ↓w_aug, ↓w_augS, ↓w_raise0, ↓w_raise1, ↓w_raise2, ↓w_try, ↓w_tryAs, ↓w_var, ↓w_c, ↓w_op, ↓w_chain, ↓w_notV, ↓w_andV, ↓w_orV, ↓w_ifE, ↓w_tst, ↓w_not, ↓w_and, ↓w_or, ↓w_yes, ↓w_nil, ↓w_cons, ↓w_tup, ↓w_lst, ↓w_lstT, ↓w_cb, ↓w_call, ↓w_callK, ↓w_neg, ↓w_no, ↓w_pt, ↓w_sl, ↓w_fld, ↓w_src, ↓w_rng, ↓w_enu, ↓w_listT, ↓w_app, ↓w_lc, ↓w_xf, ↓w_fldT, ↓w_make, ↓w_makeL, ↓w_run, ↓w_cut, ↓w_pure, ↓w_drop, nth2_eq, nth3_eq, w_ok, w_ex, w_nx, w_rt, w_bk, w_ct, w_exS, w_some, w_v, w_tr, w_fa, w_tb, w_ti, w_tn, w_L, w_L0, wb_not, cn_f, startD, arr, gN_eq, gTp, gTl, gCn, gNl, Option.bind_some, List.filterMap_cons, List.filterMap_nil, List.map_cons, List.map_nil, List.replicate_succ, List.replicate_zero, List.cons_append, List.nil_append, List.getElem?_cons_zero, List.getElem?_cons_succ, List.set_cons_zero, List.set_cons_succ, List.length_cons, List.length_nil, Nat.reduceAdd, Nat.reduceSub, Nat.reduceLeDiff, Nat.reduceEqDiff, Int.reducePow, Int.reduceToNat, Int.reduceNeg, Int.reduceAdd, Int.reduceMul, Int.reduceSub, Int.reduceLT, Int.reduceLE, Int.reduceEq, Nat.zero_add, Int.zero_add, big_eq, true_and, and_true, and_self, dSub_int, dAdd_int, dAddI_int, dLt_int, dLe_int, dGt_int, dGe_int, dEqD_int, bInt_int, bLen_lst, bLen_tup, bMin_int, bMax_int, bAbs_int, dIs_non, dIs_int, dIs_nn, Bool.not_true, Bool.not_false, decide_true, decide_false, reduceIte, Bool.false_eq_true, if_false, if_true, iSeq_lst, iSeq_tup, iSeq_rdl, iEnu_lst, iEnu_tup]
/-! ### roots -/
/-- ascending from lo on, at most 10 ** 12 -/
def Asc : Int → List Int → Prop
  | _, [] => True
  | lo, r :: rs => lo ≤ r ∧ r ≤ 1000000000000 ∧ Asc r rs
theorem Asc.mono {lo lo' : Int} (h : lo' ≤ lo) : ∀ {rs : List Int}, Asc lo rs → Asc lo' rs
  | [], _ => trivial
  | r :: rs, ⟨h1, h2, h3⟩ => ⟨by omega, h2, h3⟩
theorem Asc.mem {lo : Int} : ∀ {rs : List Int}, Asc lo rs → ∀ r ∈ rs, lo ≤ r ∧ r ≤ 1000000000000
  | r :: rs, ⟨h1, h2, h3⟩, x, hx => by
    rcases List.mem_cons.mp hx with rfl | hx
    · exact ⟨h1, h2⟩
    · exact (h3.mono h1).mem x hx
structure OkR (rs : List Int) : Prop where
  l0 : 1 ≤ rs.length
  l1 : rs.length ≤ 6
  asc : Asc 0 rs
theorem OkR.mem {rs : List Int} (h : OkR rs) : ∀ r ∈ rs, 0 ≤ r ∧ r ≤ 1000000000000 := h.asc.mem
theorem okR0 : OkR [0] := ⟨by decide, by decide, by decide, by decide, trivial⟩
def lastOr : Int → List Int → Int
  | lo, [] => lo
  | _, r :: rs => lastOr r rs
theorem asc_at {lo : Int} : ∀ {rs : List Int} {i : Nat} (hi : i < rs.length), Asc lo rs → lastOr lo (rs.take i) ≤ rs[i] ∧ rs[i] ≤ 1000000000000 ∧ lastOr lo (rs.take (i + 1)) = rs[i]
  | r :: rs, 0, hi, ⟨h1, h2, h3⟩ => ⟨h1, h2, by simp [lastOr]⟩
  | r :: rs, i + 1, hi, ⟨h1, h2, h3⟩ => by
    have := asc_at (lo := r) (rs := rs) (i := i) (by simpa using hi) h3
    simpa only [List.take_succ_cons, lastOr, List.getElem_cons_succ] using this
theorem roots_run {rs : List Int} (h : OkR rs) (d : D) (hd : d = .lst (rs.map .int) ∨ d = .tup (rs.map .int)) (s : S) : G_checked_roots c [d] s = .ok (.lst (rs.map .int)) s := by
  have hi1 : bIsiT c.cs s [d, .tup [.ty "list", .ty "tuple"]] = some (.bl true) := by
    rcases hd with rfl | rfl <;> rfl
  have hl : bLen s [d] = some (.int rs.length) := by
    rcases hd with rfl | rfl <;> simp
  have he : iEnu s d = some ⟨enumI 0 (rs.map .int), none⟩ := by
    rcases hd with rfl | rfl <;> rfl
  have hb : bList s [d] = some (.lst (rs.map .int)) := by
    rcases hd with rfl | rfl <;> rfl
  apply eq_ok
  have := h.l0
  have := h.l1
  unfold G_checked_roots
  simp (implicitDefEqProofs := false) only [hi1, hl, show (1 : Int) ≤ rs.length by omega, show (rs.length : Int) ≤ 6 by omega, he, ↓w_srtT, ↓w_par2, ↓w_par3, ↓w_setd, ↓w_dict1, ↓w_maxDf, ↓w_slT, ↓w_addT, ↓w_dictT, ↓w_dictI, ↓w_get, ↓w_lrg1T, ↓w_lrg2T, ↓w_lrg1, ↓w_lrg2, ↓w_pop0, ↓w_lcT, ↓w_mth, ↓w_calm, ↓w_tryM, ↓w_tm0, ↓w_tmN, ↓w_tmS, ↓w_seq, ↓w_next, ↓w_break, ↓w_cont, ↓w_retN, ↓w_asg, ↓w_expr, ↓w_ret, ↓w_if, ↓w_asgG, ↓w_for, ↓w_put, ↓w_aug, ↓w_augS, ↓w_raise0, ↓w_raise1, ↓w_raise2, ↓w_try, ↓w_tryAs, ↓w_var, ↓w_c, ↓w_op, ↓w_chain, ↓w_notV, ↓w_andV, ↓w_orV, ↓w_ifE, ↓w_tst, ↓w_not, ↓w_and, ↓w_or, ↓w_yes, ↓w_nil, ↓w_cons, ↓w_tup, ↓w_lst, ↓w_lstT, ↓w_cb, ↓w_call, ↓w_callK, ↓w_neg, ↓w_no, ↓w_pt, ↓w_sl, ↓w_fld, ↓w_src, ↓w_rng, ↓w_enu, ↓w_listT, ↓w_app, ↓w_lc, ↓w_xf, ↓w_fldT, ↓w_make, ↓w_makeL, ↓w_run, ↓w_cut, ↓w_pure, ↓w_drop, nth2_eq, nth3_eq, w_ok, w_ex, w_nx, w_rt, w_bk, w_ct, w_exS, w_some, w_v, w_tr, w_fa, w_tb, w_ti, w_tn, w_L, w_L0, wb_not, cn_f, startD, arr, gN_eq, gTp, gTl, gCn, gNl, Option.bind_some, List.filterMap_cons, List.filterMap_nil, List.map_cons, List.map_nil, List.replicate_succ, List.replicate_zero, List.cons_append, List.nil_append, List.getElem?_cons_zero, List.getElem?_cons_succ, List.set_cons_zero, List.set_cons_succ, List.length_cons, List.length_nil, Nat.reduceAdd, Nat.reduceSub, Nat.reduceLeDiff, Nat.reduceEqDiff, Int.reducePow, Int.reduceToNat, Int.reduceNeg, Int.reduceAdd, Int.reduceMul, Int.reduceSub, Int.reduceLT, Int.reduceLE, Int.reduceEq, Nat.zero_add, Int.zero_add, big_eq, true_and, and_true, and_self, dSub_int, dAdd_int, dAddI_int, dLt_int, dLe_int, dGt_int, dGe_int, dEqD_int, bInt_int, bLen_lst, bLen_tup, bMin_int, bMax_int, bAbs_int, dIs_non, dIs_int, dIs_nn, Bool.not_true, Bool.not_false, decide_true, decide_false, reduceIte, Bool.false_eq_true, if_false, if_true, iSeq_lst, iSeq_tup, iSeq_rdl, iEnu_lst, iEnu_tup]
  refine ws_for (fun i L s' => ∃ y z, L = [some d, some (.int (lastOr 0 (rs.take i))), y, z] ∧ s = s') _ 0 ⟨none, none, rfl, rfl⟩ ?_ ?_
  · rintro i x L s' hx ⟨y, z, rfl, rfl⟩
    rw [enum_get, List.getElem?_map] at hx
    simp only [Option.map_map, Option.map_eq_some_iff, Function.comp] at hx
    obtain ⟨r, hr, rfl⟩ := hx
    obtain ⟨hi, rfl⟩ := List.getElem?_eq_some_iff.mp hr
    obtain ⟨h1, h2, h3⟩ := asc_at hi h.asc
    refine ⟨rfl, ?_⟩
    rw [Nat.zero_add] at *
    simp (implicitDefEqProofs := false) only [between_int h1 h2, ↓w_srtT, ↓w_par2, ↓w_par3, ↓w_setd, ↓w_dict1, ↓w_maxDf, ↓w_slT, ↓w_addT, ↓w_dictT, ↓w_dictI, ↓w_get, ↓w_lrg1T, ↓w_lrg2T, ↓w_lrg1, ↓w_lrg2, ↓w_pop0, ↓w_lcT, ↓w_mth, ↓w_calm, ↓w_tryM, ↓w_tm0, ↓w_tmN, ↓w_tmS, ↓w_seq, ↓w_next, ↓w_break, ↓w_cont, ↓w_retN, ↓w_asg, ↓w_expr, ↓w_ret, ↓w_if, ↓w_asgG, ↓w_for, ↓w_put, ↓w_aug, ↓w_augS, ↓w_raise0, ↓w_raise1, ↓w_raise2, ↓w_try, ↓w_tryAs, ↓w_var, ↓w_c, ↓w_op, ↓w_chain, ↓w_notV, ↓w_andV, ↓w_orV, ↓w_ifE, ↓w_tst, ↓w_not, ↓w_and, ↓w_or, ↓w_yes, ↓w_nil, ↓w_cons, ↓w_tup, ↓w_lst, ↓w_lstT, ↓w_cb, ↓w_call, ↓w_callK, ↓w_neg, ↓w_no, ↓w_pt, ↓w_sl, ↓w_fld, ↓w_src, ↓w_rng, ↓w_enu, ↓w_listT, ↓w_app, ↓w_lc, ↓w_xf, ↓w_fldT, ↓w_make, ↓w_makeL, ↓w_run, ↓w_cut, ↓w_pure, ↓w_drop, nth2_eq, nth3_eq, w_ok, w_ex, w_nx, w_rt, w_bk, w_ct, w_exS, w_some, w_v, w_tr, w_fa, w_tb, w_ti, w_tn, w_L, w_L0, wb_not, cn_f, startD, arr, gN_eq, gTp, gTl, gCn, gNl, Option.bind_some, List.filterMap_cons, List.filterMap_nil, List.map_cons, List.map_nil, List.replicate_succ, List.replicate_zero, List.cons_append, List.nil_append, List.getElem?_cons_zero, List.getElem?_cons_succ, List.set_cons_zero, List.set_cons_succ, List.length_cons, List.length_nil, Nat.reduceAdd, Nat.reduceSub, Nat.reduceLeDiff, Nat.reduceEqDiff, Int.reducePow, Int.reduceToNat, Int.reduceNeg, Int.reduceAdd, Int.reduceMul, Int.reduceSub, Int.reduceLT, Int.reduceLE, Int.reduceEq, Nat.zero_add, Int.zero_add, big_eq, true_and, and_true, and_self, dSub_int, dAdd_int, dAddI_int, dLt_int, dLe_int, dGt_int, dGe_int, dEqD_int, bInt_int, bLen_lst, bLen_tup, bMin_int, bMax_int, bAbs_int, dIs_non, dIs_int, dIs_nn, Bool.not_true, Bool.not_false, decide_true, decide_false, reduceIte, Bool.false_eq_true, if_false, if_true, iSeq_lst, iSeq_tup, iSeq_rdl, iEnu_lst, iEnu_tup]
    exact ⟨_, _, by rw [h3]⟩
  · rintro L s' ⟨y, z, rfl, rfl⟩
    refine ⟨rfl, ?_⟩
    simp (implicitDefEqProofs := false) only [hb, ↓w_srtT, ↓w_par2, ↓w_par3, ↓w_setd, ↓w_dict1, ↓w_maxDf, ↓w_slT, ↓w_addT, ↓w_dictT, ↓w_dictI, ↓w_get, ↓w_lrg1T, ↓w_lrg2T, ↓w_lrg1, ↓w_lrg2, ↓w_pop0, ↓w_lcT, ↓w_mth, ↓w_calm, ↓w_tryM, ↓w_tm0, ↓w_tmN, ↓w_tmS, ↓w_seq, ↓w_next, ↓w_break, ↓w_cont, ↓w_retN, ↓w_asg, ↓w_expr, ↓w_ret, ↓w_if, ↓w_asgG, ↓w_for, ↓w_put, ↓w_aug, ↓w_augS, ↓w_raise0, ↓w_raise1, ↓w_raise2, ↓w_try, ↓w_tryAs, ↓w_var, ↓w_c, ↓w_op, ↓w_chain, ↓w_notV, ↓w_andV, ↓w_orV, ↓w_ifE, ↓w_tst, ↓w_not, ↓w_and, ↓w_or, ↓w_yes, ↓w_nil, ↓w_cons, ↓w_tup, ↓w_lst, ↓w_lstT, ↓w_cb, ↓w_call, ↓w_callK, ↓w_neg, ↓w_no, ↓w_pt, ↓w_sl, ↓w_fld, ↓w_src, ↓w_rng, ↓w_enu, ↓w_listT, ↓w_app, ↓w_lc, ↓w_xf, ↓w_fldT, ↓w_make, ↓w_makeL, ↓w_run, ↓w_cut, ↓w_pure, ↓w_drop, nth2_eq, nth3_eq, w_ok, w_ex, w_nx, w_rt, w_bk, w_ct, w_exS, w_some, w_v, w_tr, w_fa, w_tb, w_ti, w_tn, w_L, w_L0, wb_not, cn_f, startD, arr, gN_eq, gTp, gTl, gCn, gNl, Option.bind_some, List.filterMap_cons, List.filterMap_nil, List.map_cons, List.map_nil, List.replicate_succ, List.replicate_zero, List.cons_append, List.nil_append, List.getElem?_cons_zero, List.getElem?_cons_succ, List.set_cons_zero, List.set_cons_succ, List.length_cons, List.length_nil, Nat.reduceAdd, Nat.reduceSub, Nat.reduceLeDiff, Nat.reduceEqDiff, Int.reducePow, Int.reduceToNat, Int.reduceNeg, Int.reduceAdd, Int.reduceMul, Int.reduceSub, Int.reduceLT, Int.reduceLE, Int.reduceEq, Nat.zero_add, Int.zero_add, big_eq, true_and, and_true, and_self, dSub_int, dAdd_int, dAddI_int, dLt_int, dLe_int, dGt_int, dGe_int, dEqD_int, bInt_int, bLen_lst, bLen_tup, bMin_int, bMax_int, bAbs_int, dIs_non, dIs_int, dIs_nn, Bool.not_true, Bool.not_false, decide_true, decide_false, reduceIte, Bool.false_eq_true, if_false, if_true, iSeq_lst, iSeq_tup, iSeq_rdl, iEnu_lst, iEnu_tup]
/-! ### Machine(..) -/
theorem mk_ok (hM : M.Ok) (s : S) : mkD c.Machine 4 (G_Machine___init__ c) [.int M.o, .int M.l, .int M.g] s = .ok (M.d c) s := by
  have o0 := hM.o0
  have o1 := hM.o1
  apply eq_ok
  rw [w_mk]
  unfold G_Machine___init__
  have hm : ∀ s, dMul s (.int 2) (.int M.o) = some (.int (2 * M.o)) := fun s => dMul_small (by omega) (by omega) (by omega) (by omega)
  have f0 : fldPut (s ++ [.ins c.Machine [] []]) [c.Machine] "o" (.ref s.length) (.int M.o) = some (s ++ [.ins c.Machine ["o"] [.int M.o]]) := fld_app s (List.mem_singleton.mpr rfl) (by show 0 < 1000; decide)
  have f1 : fldPut (s ++ [.ins c.Machine ["o"] [.int M.o]]) [c.Machine] "l" (.ref s.length) (.int M.l) = some (s ++ [.ins c.Machine ["o", "l"] [.int M.o, .int M.l]]) := fld_app s (List.mem_singleton.mpr rfl) (by show 1 < 1000; decide)
  have f2 : fldPut (s ++ [.ins c.Machine ["o", "l"] [.int M.o, .int M.l]]) [c.Machine] "g" (.ref s.length) (.int M.g) = some (s ++ [.ins c.Machine ["o", "l", "g"] [.int M.o, .int M.l, .int M.g]]) := fld_app s (List.mem_singleton.mpr rfl) (by show 2 < 1000; decide)
  have f3 : fldPut (s ++ [.ins c.Machine ["o", "l", "g"] [.int M.o, .int M.l, .int M.g]]) [c.Machine] "letter" (.ref s.length) (.int (2 * M.o + M.l)) = some (s ++ [.ins c.Machine ["o", "l", "g", "letter"] [.int M.o, .int M.l, .int M.g, .int (2 * M.o + M.l)]]) := fld_app s (List.mem_singleton.mpr rfl) (by show 3 < 1000; decide)
  have f4 : fldPut (s ++ [.ins c.Machine ["o", "l", "g", "letter"] [.int M.o, .int M.l, .int M.g, .int (2 * M.o + M.l)]]) [c.Machine] "gap" (.ref s.length) (.int (max M.o M.g)) = some (s ++ [.ins c.Machine ["o", "l", "g", "letter", "gap"] [.int M.o, .int M.l, .int M.g, .int (2 * M.o + M.l), .int (max M.o M.g)]]) := fld_app s (List.mem_singleton.mpr rfl) (by show 4 < 1000; decide)
  have gi : insOf (s ++ [.ins c.Machine ["o", "l", "g", "letter", "gap"] [.int M.o, .int M.l, .int M.g, .int (2 * M.o + M.l), .int (max M.o M.g)]]) (.ref s.length) = some ((c.Machine, (["o", "l", "g", "letter", "gap"] : List Str), [D.int M.o, .int M.l, .int M.g, .int (2 * M.o + M.l), .int (max M.o M.g)])) := by
    unfold insOf
    simp only [get_app]
  simp (implicitDefEqProofs := false) only [between_int hM.o0 hM.o1, between_int hM.l0 hM.l1, between_int hM.g0 hM.g1, hm, show ¬ 2 * M.o + M.l = 0 by have := hM.z; omega, f0, f1, f2, f3, f4, gi, List.take_left, ↓w_srtT, ↓w_par2, ↓w_par3, ↓w_setd, ↓w_dict1, ↓w_maxDf, ↓w_slT, ↓w_addT, ↓w_dictT, ↓w_dictI, ↓w_get, ↓w_lrg1T, ↓w_lrg2T, ↓w_lrg1, ↓w_lrg2, ↓w_pop0, ↓w_lcT, ↓w_mth, ↓w_calm, ↓w_tryM, ↓w_tm0, ↓w_tmN, ↓w_tmS, ↓w_seq, ↓w_next, ↓w_break, ↓w_cont, ↓w_retN, ↓w_asg, ↓w_expr, ↓w_ret, ↓w_if, ↓w_asgG, ↓w_for, ↓w_put, ↓w_aug, ↓w_augS, ↓w_raise0, ↓w_raise1, ↓w_raise2, ↓w_try, ↓w_tryAs, ↓w_var, ↓w_c, ↓w_op, ↓w_chain, ↓w_notV, ↓w_andV, ↓w_orV, ↓w_ifE, ↓w_tst, ↓w_not, ↓w_and, ↓w_or, ↓w_yes, ↓w_nil, ↓w_cons, ↓w_tup, ↓w_lst, ↓w_lstT, ↓w_cb, ↓w_call, ↓w_callK, ↓w_neg, ↓w_no, ↓w_pt, ↓w_sl, ↓w_fld, ↓w_src, ↓w_rng, ↓w_enu, ↓w_listT, ↓w_app, ↓w_lc, ↓w_xf, ↓w_fldT, ↓w_make, ↓w_makeL, ↓w_run, ↓w_cut, ↓w_pure, ↓w_drop, nth2_eq, nth3_eq, w_ok, w_ex, w_nx, w_rt, w_bk, w_ct, w_exS, w_some, w_v, w_tr, w_fa, w_tb, w_ti, w_tn, w_L, w_L0, wb_not, cn_f, startD, arr, gN_eq, gTp, gTl, gCn, gNl, Option.bind_some, List.filterMap_cons, List.filterMap_nil, List.map_cons, List.map_nil, List.replicate_succ, List.replicate_zero, List.cons_append, List.nil_append, List.getElem?_cons_zero, List.getElem?_cons_succ, List.set_cons_zero, List.set_cons_succ, List.length_cons, List.length_nil, Nat.reduceAdd, Nat.reduceSub, Nat.reduceLeDiff, Nat.reduceEqDiff, Int.reducePow, Int.reduceToNat, Int.reduceNeg, Int.reduceAdd, Int.reduceMul, Int.reduceSub, Int.reduceLT, Int.reduceLE, Int.reduceEq, Nat.zero_add, Int.zero_add, big_eq, true_and, and_true, and_self, dSub_int, dAdd_int, dAddI_int, dLt_int, dLe_int, dGt_int, dGe_int, dEqD_int, bInt_int, bLen_lst, bLen_tup, bMin_int, bMax_int, bAbs_int, dIs_non, dIs_int, dIs_nn, Bool.not_true, Bool.not_false, decide_true, decide_false, reduceIte, Bool.false_eq_true, if_false, if_true, iSeq_lst, iSeq_tup, iSeq_rdl, iEnu_lst, iEnu_tup]
  exact ⟨rfl, rfl⟩
/-! ### reach, least_time -/
def MOST : Int := 10000000000000000000000000000000000000000
theorem hor_le (hM : M.Ok) (t : Option Nat) : hor M t ≤ 120 * M.letter := by
  have := hM.letter0
  unfold hor
  split <;> omega
theorem hor_pos (hM : M.Ok) (t : Option Nat) : 40 * M.letter ≤ hor M t := by
  have := hM.letter0
  unfold hor
  split <;> omega
/-- what is taken for roots -/
def RtD (rs : List Int) (d : D) : Prop := d = .lst (rs.map .int) ∨ d = .tup (rs.map .int)
theorem rtd0 : RtD [0] (.tup [.int 0]) := .inr rfl
end Pg

namespace SI
open PySem L2 Pg Mt
variable {c : Cl} {Q : Cn (D → S → Prop)} {E : Cn (Addr → List Str → List D → S → Prop)} {v : SrcV} {n : Nat} {r : S} {lim : Int}
theorem SrcV.Ok.mono {m : Nat} (h : v.Ok n) (hm : n ≤ m) : v.Ok m := ⟨h.i0, h.a0, h.b0, by have := h.bn; omega, h.d0, h.dn, h.cs⟩
/-- a draw -/
theorem draw_wp (ok : v.Ok n) (hn : n < 2 ^ 60) (h0 : 0 < lim) (h1 : lim < 2 ^ 200) (h : ∀ x v', 0 ≤ x → x < lim → SrcV.Ok v' (n + 1) → Q (.int x) (v'.o :: r)) : @WR _ (drawG [.ref 0, .int lim] (v.o :: r)) Q E := by
  obtain ⟨x, v', a, b, k, e⟩ := draw_ok (s := v.o :: r) (k := 0) rfl ok hn h0 h1
  rw [e]
  exact h x v' a b k
theorem src_wp {ns : List Int} (hl : ns.length ≤ 63) (hb : ∀ z ∈ ns, Builtin.Int.intBits z ≤ 1048576) (h : ∀ v : SrcV, v.Ok 0 → Q (.ref 0) [v.o]) : @WR _ (srcG [.rdl (ns.map D.int)] []) Q E := by
  rw [src_ok ns hl]
  exact h _ (src_start hb)
/-! items of a written list -/
theorem it0 (s : S) (a : D) (xs : List D) : dIx s (.tup (a :: xs)) (.int 0) = some a := by
  rw [dIx_tup, atI_in (by decide) (by simp only [List.length_cons]; omega)]
  rfl
theorem it1 (s : S) (a b : D) (xs : List D) : dIx s (.tup (a :: b :: xs)) (.int 1) = some b := by
  rw [dIx_tup, atI_in (by decide) (by simp only [List.length_cons]; omega)]
  rfl
theorem it2 (s : S) (a b d : D) (xs : List D) : dIx s (.tup (a :: b :: d :: xs)) (.int 2) = some d := by
  rw [dIx_tup, atI_in (by decide) (by simp only [List.length_cons]; omega)]
  rfl
theorem pow_lit {s : S} {i j : Int} {r : Int} (h : powOk i j = true) (e : i ^ j.toNat = r) : dPow s (.int i) (.int j) = some (.int r) := by
  rw [dPow_lit, if_pos h, e]
/-! ### numbers of a machine -/
end SI

/-! the tracked list that came last -/
namespace SI
open PySem L2
variable {o p : O} {r : S} {xs : List D}
/-! the same behind any store -/
theorem atI_map {α : Type} {f : α → D} {ys : List α} {i : Nat} {y : α} (h : ys[i]? = some y) : L2.atI (ys.map f) (i : Int) = some (f y) := by
  obtain ⟨hi, e⟩ := List.getElem?_eq_some_iff.mp h
  rw [atI_in (by omega) (by rw [List.length_map]; omega), Int.toNat_natCast, List.getElem?_map, h]
  rfl
/-! texts that are written in the law -/
end SI

/-! == of data with itself -/
namespace SI
open PySem L2
/-- data of at most n levels -/
def dOk : Nat → D → Bool
  | _, .non => true
  | _, .bl _ => true
  | _, .int _ => true
  | _, .str x => PyData.strOk x
  | n + 1, .tup xs => xs.all (dOk n)
  | n + 1, .lst xs => xs.all (dOk n)
  | _, _ => false
theorem toPy_ok (s : S) : ∀ (n : Nat) (d : D), dOk n d = true → ∃ y, toPy s d = some y ∧ y.canLay0 = true ∧ y.depth ≤ n := by
  intro n
  induction n with
  | zero =>
    intro d h
    cases d <;> simp only [dOk, Bool.false_eq_true] at h <;> exact ⟨_, rfl, by simp [PyData.canLay0, *], by simp [PyData.depth]⟩
  | succ n ih =>
    have all : ∀ xs : List D, xs.all (dOk n) = true → ∃ ys, toPys s xs = some ys ∧ PyData.canLayAll0 ys = true ∧ PyData.depthAll ys ≤ n := fun xs => by
      induction xs with
      | nil => exact fun _ => ⟨[], rfl, rfl, by simp [PyData.depthAll]⟩
      | cons x xs ih2 =>
        intro h
        simp only [List.all_cons, Bool.and_eq_true] at h
        obtain ⟨y, e1, e2, e3⟩ := ih x h.1
        obtain ⟨ys, e4, e5, e6⟩ := ih2 h.2
        refine ⟨y :: ys, by simp only [toPys, e1, e4], by simp [PyData.canLayAll0, e2, e5], ?_⟩
        simp only [PyData.depthAll]
        omega
    intro d h
    cases d <;> simp only [dOk, Bool.false_eq_true] at h
    · exact ⟨_, rfl, by simp [PyData.canLay0, *], by simp [PyData.depth]⟩
    · exact ⟨_, rfl, by simp [PyData.canLay0, *], by simp [PyData.depth]⟩
    · exact ⟨_, rfl, by simp [PyData.canLay0, *], by simp [PyData.depth]⟩
    · exact ⟨_, rfl, by simp [PyData.canLay0, *], by simp [PyData.depth]⟩
    · obtain ⟨ys, e1, e2, e3⟩ := all _ h
      refine ⟨.tuple ys, by simp only [toPy, e1, Option.map_some], by simpa [PyData.canLay0] using e2, ?_⟩
      simp only [PyData.depth]
      omega
    · obtain ⟨ys, e1, e2, e3⟩ := all _ h
      refine ⟨.list ys, by simp only [toPy, e1, Option.map_some], by simpa [PyData.canLay0] using e2, ?_⟩
      simp only [PyData.depth]
      omega
theorem shaped_of {y : PyData} (h1 : y.canLay0 = true) (h2 : y.depth ≤ 64) : SeqAt.shaped y = true := by
  unfold SeqAt.shaped
  simp [h1, h2]
end SI

/-! list comprehensions over plain data -/
namespace SI
open PySem L2
variable {L : Lc} {s : S} {Q : Cn (D → S → Prop)} {E : Cn (Addr → List Str → List D → S → Prop)}
theorem lc_run {α : Type} {q : Tg} {t : F Bool} {fe : F D} {r : Src} {L0 : Lc} {s : S} (f : α → D) (p : α → Bool) (g : α → D) (hc : ∀ acc, chk r (s ++ [.lst acc]) = true) : ∀ (xs : List α) (acc : List D), acc.length + xs.length ≤ 1000000 →
    (∀ x ∈ xs, ∀ acc, @WO _ (q (f x) L0) ⟨fun L1 => @WR _ (t L1 (s ++ [.lst acc])) ⟨fun b s' => b = p x ∧ s' = s ++ [.lst acc] ∧ (p x = true → @WR _ (fe L1 (s ++ [.lst acc])) ⟨fun y s'' => y = g x ∧ s'' = s ++ [.lst acc]⟩ ⟨nE⟩)⟩ ⟨nE⟩⟩) →
    lcL q t fe r L0 s.length (xs.map f) (s ++ [.lst acc]) = .ok () (s ++ [.lst (acc ++ (xs.filter p).map g)])
  | [], acc, _, _ => by
    rw [List.map_nil, lcL, if_pos (hc acc)]
    simp
  | x :: xs, acc, hl, hx => by
    have h1 := hx x (List.mem_cons_self ..) acc
    rw [List.map_cons, lcL, if_pos (hc acc)]
    cases eq : q (f x) L0 with
    | none =>
      rw [eq] at h1
      exact h1.elim
    | some L1 =>
      rw [eq] at h1
      have h1' : @WR _ (t L1 (s ++ [.lst acc])) ⟨fun b s' => b = p x ∧ s' = s ++ [.lst acc] ∧ (p x = true → @WR _ (fe L1 (s ++ [.lst acc])) ⟨fun y s'' => y = g x ∧ s'' = s ++ [.lst acc]⟩ ⟨nE⟩)⟩ ⟨nE⟩ := h1
      obtain ⟨b, s', e1, rfl, rfl, h2⟩ := ex_ok h1'
      dsimp only
      rw [e1, R_bind_ok]
      rw [List.length_cons] at hl
      cases hp : p x with
      | true =>
        obtain ⟨y, s'', e2, rfl, rfl⟩ := ex_ok (h2 hp)
        rw [if_pos rfl, e2, R_bind_ok, get_app]
        dsimp only
        rw [if_pos (show acc.length < big by show acc.length < 1000000; omega), set_app, lc_run f p g hc xs _ (by simp; omega) fun z hz => hx z (List.mem_cons_of_mem _ hz)]
        simp [hp]
      | false =>
        rw [if_neg (by simp), lc_run f p g hc xs acc (by omega) fun z hz => hx z (List.mem_cons_of_mem _ hz)]
        simp [hp]
theorem lc_wp {α : Type} {q : Tg} {t : F Bool} {fe : F D} {vs : List Nat} {r : Src} (xs : List α) (f : α → D) (p : α → Bool) (g : α → D) (hr : r.items = xs.map f) (hc : ∀ acc, chk r (s ++ [.lst acc]) = true) (hl : xs.length ≤ 1000000)
    (hx : ∀ x ∈ xs, ∀ acc, @WO _ (q (f x) (wipeD L vs)) ⟨fun L1 => @WR _ (t L1 (s ++ [.lst acc])) ⟨fun b s' => b = p x ∧ s' = s ++ [.lst acc] ∧ (p x = true → @WR _ (fe L1 (s ++ [.lst acc])) ⟨fun y s'' => y = g x ∧ s'' = s ++ [.lst acc]⟩ ⟨nE⟩)⟩ ⟨nE⟩⟩)
    (hb1 : s.all (O.bel s.length) = true) (hb2 : D.bels s.length ((xs.filter p).map g) = true) (hQ : Q (.lst ((xs.filter p).map g)) s) : @WR _ (lcE q t fe vs L r s) Q E := by
  have e := lc_run (L0 := wipeD L vs) (s := s) (fe := fe) (r := r) f p g hc xs [] (by simpa using hl) hx
  unfold lcE
  rw [hr, e, List.nil_append]
  show @WR _ (match (s ++ [O.lst ((xs.filter p).map g)])[s.length]? with
    | some (.lst ys) => _
    | _ => .bad) Q E
  rw [get_app]
  dsimp only
  rw [List.take_left, if_pos ⟨hb1, hb2⟩]
  exact hQ
/-- without a test -/
theorem lc_all {α : Type} {q : Tg} {fe : F D} {vs : List Nat} {r : Src} (xs : List α) (f g : α → D) (hr : r.items = xs.map f) (hc : ∀ acc, chk r (s ++ [.lst acc]) = true) (hl : xs.length ≤ 1000000)
    (hx : ∀ x ∈ xs, ∀ acc, @WO _ (q (f x) (wipeD L vs)) ⟨fun L1 => @WR _ (fe L1 (s ++ [.lst acc])) ⟨fun y s'' => y = g x ∧ s'' = s ++ [.lst acc]⟩ ⟨nE⟩⟩)
    (hb1 : s.all (O.bel s.length) = true) (hb2 : D.bels s.length (xs.map g) = true) (hQ : Q (.lst (xs.map g)) s) : @WR _ (lcE q fYes fe vs L r s) Q E := by
  have ef : xs.filter (fun _ => true) = xs := by simp
  refine lc_wp xs f (fun _ => true) g hr hc hl (fun x h acc => ?_) hb1 (by rw [ef]; exact hb2) (by rw [ef]; exact hQ)
  have h1 := hx x h acc
  cases eq : q (f x) (wipeD L vs) with
  | none =>
    rw [eq] at h1
    exact h1.elim
  | some L1 =>
    rw [eq] at h1
    exact ⟨rfl, rfl, fun _ => h1⟩
theorem lcT_all {α : Type} {q : Tg} {fe : F D} {vs : List Nat} {r : Src} (xs : List α) (f g : α → D) (hr : r.items = xs.map f) (hc : ∀ acc, chk r (s ++ [.lst acc]) = true) (hl : xs.length ≤ 1000000)
    (hx : ∀ x ∈ xs, ∀ acc, @WO _ (q (f x) (wipeD L vs)) ⟨fun L1 => @WR _ (fe L1 (s ++ [.lst acc])) ⟨fun y s'' => y = g x ∧ s'' = s ++ [.lst acc]⟩ ⟨nE⟩⟩)
    (hQ : Q (.ref s.length) (s ++ [.lst (xs.map g)])) : @WR _ (lcTE q fYes fe vs L r s) Q E := by
  have ef : xs.filter (fun _ => true) = xs := by simp
  have e := lc_run (q := q) (L0 := wipeD L vs) (s := s) (t := fYes) (fe := fe) (r := r) f (fun _ => true) g hc xs [] (by simpa using hl) (fun x h acc => by
    have h1 := hx x h acc
    cases eq : q (f x) (wipeD L vs) with
    | none =>
      rw [eq] at h1
      exact h1.elim
    | some L1 =>
      rw [eq] at h1
      exact ⟨rfl, rfl, fun _ => h1⟩)
  unfold lcTE
  rw [hr, e, List.nil_append, ef]
  show @WR _ (match (s ++ [O.lst (xs.map g)])[s.length]? with
    | some (.lst ys) => _
    | _ => .bad) Q E
  rw [get_app]
  exact hQ
theorem bels_ints (n : Nat) (rs : List Int) : D.bels n (rs.map D.int) = true := bels_intsC n rs
theorem bel_src (v : SrcV) (n : Nat) : O.bel n v.o = true := src_bel v n
end SI
namespace SI
open PySem L2
end SI

/-! the two tracked lists that came last; min, index of ints -/
namespace SI
open PySem L2 Pg
variable {s : S} {x y : O} {a b : List D}
theorem tw_get0 : (s ++ [x, y])[s.length]? = some x := by simp
theorem tw_get1 : (s ++ [x, y])[s.length + 1]? = some y := by
  rw [List.getElem?_append_right (by omega)]
  simp
theorem tw_set0 (z : O) : (s ++ [x, y]).set s.length z = s ++ [z, y] := by
  rw [List.set_append_right _ _ (by omega)]
  simp
theorem tw_set1 (z : O) : (s ++ [x, y]).set (s.length + 1) z = s ++ [x, z] := by
  rw [List.set_append_right _ _ (by omega)]
  simp
theorem tw_isl0 : isLst s.length (s ++ [.lst a, y]) = true := by
  unfold isLst
  rw [tw_get0]
theorem tw_isl1 : isLst (s.length + 1) (s ++ [x, .lst b]) = true := by
  unfold isLst
  rw [tw_get1]
theorem tw_app0 (d : D) (h : a.length < 1000000) : appOf s.length d (s ++ [.lst a, y]) = some (s ++ [.lst (a ++ [d]), y]) := by
  unfold appOf
  rw [tw_get0]
  show (if a.length < big then _ else _) = _
  rw [if_pos (show a.length < big from h), tw_set0]
theorem tw_app1 (d : D) (h : b.length < 1000000) : appOf (s.length + 1) d (s ++ [x, .lst b]) = some (s ++ [x, .lst (b ++ [d])]) := by
  unfold appOf
  rw [tw_get1]
  show (if b.length < big then _ else _) = _
  rw [if_pos (show b.length < big from h), tw_set1]
theorem tw_seq0 : seqOf (s ++ [.lst a, y]) (.ref s.length) = some a := by
  unfold seqOf
  simp only [tw_get0]
theorem tw_lst1 : lstOf (s ++ [x, .lst b]) (.ref (s.length + 1)) = some b := by
  unfold lstOf
  simp only [tw_get1]
theorem tw_len0 : bLen (s ++ [.lst a, y]) [.ref s.length] = some (.int a.length) := by
  show (seqOf _ _).map _ = _
  rw [tw_seq0]
  rfl
theorem ixN_in {n k : Nat} (h : k < n) : ixN n (k : Int) = some k := by
  unfold ixN
  rw [if_pos (by omega), if_pos (by omega)]
  simp
theorem tw_put1 {k : Nat} (h : k < b.length) (d : D) : dPut (s ++ [x, .lst b]) (.ref (s.length + 1)) (.int k) d = some (s ++ [x, .lst (b.set k d)]) := by
  unfold dPut
  simp only [tw_get1]
  rw [ixN_in h]
  show some _ = _
  rw [tw_set1]
theorem intsOf_map (is : List Int) : intsOf (is.map D.int) = some is := by
  induction is with
  | nil => rfl
  | cons i is ih => simp only [List.map_cons, intsOf, ih]; rfl
theorem bMin1_of {s : S} {d : D} {is : List Int} (h : lstOf s d = some (is.map D.int)) : bMin1 s [d] = (lsI is).map .int := by
  show ((lstOf s d).bind intsOf).bind _ = _
  rw [h, Option.bind_some, intsOf_map]
  rfl
theorem mIndex_of {s : S} {d : D} {is : List Int} {k : Int} (h : lstOf s d = some (is.map D.int)) : mIndex s d [.int k] = (ixI k is).map fun j => (.int (j : Nat), s) := by
  show ((lstOf s d).bind intsOf).bind _ = _
  rw [h, Option.bind_some, intsOf_map]
  rfl
theorem ixI_lt {k : Int} {is : List Int} {j : Nat} (h : ixI k is = some j) : j < is.length := (List.getElem?_eq_some_iff.mp (ixI_at h).1).1
end SI

/-! the number of hands: its recursion and its bounds -/
namespace Pg
open Mt
variable {M : Mc} {t : Option Nat}
theorem ediv_neg {a b : Int} (h : a < 0) (hb : 0 < b) : a / b < 0 := Int.ediv_neg_of_neg_of_pos h hb
theorem FR_ext (hM : M.Ok) {x : Int} {N : Nat} (h : (x / M.letter + 1).toNat ≤ N) : FR M t x = smZ N fun d => cz t d ((x - d * M.letter) / M.gap) := by
  have l0 := hM.letter0
  have g0 := hM.gap0
  unfold FR
  refine (smZ_extend h fun i h1 h2 => ?_).symm
  have hx : x / M.letter < (i : Int) := by omega
  have : x < i * M.letter := (Int.ediv_lt_iff_lt_mul (by omega)).mp hx
  exact cz_neg (ediv_neg (by omega) (by omega))
theorem FR_neg (hM : M.Ok) {x : Int} (h : x < 0) : FR M t x = 0 := by
  have l0 := hM.letter0
  have := ediv_neg h (show 0 < M.letter by omega)
  unfold FR
  rw [show (x / M.letter + 1).toNat = 0 by omega]
  rfl
/-! bounds -/
end Pg

/-! monotony of the counts; least times -/
namespace Pg
open PySem L2 SI Mt
variable {c : Cl} {M : Mc} {t : Option Nat}
theorem cz_mono {d : Nat} {m n : Int} (h : m ≤ n) : cz t d m ≤ cz t d n := by
  by_cases h0 : m < 0
  · rw [cz_neg h0]
    exact cz_nonneg ..
  · unfold cz
    rw [if_neg h0, if_neg (by omega)]
    exact_mod_cast cnt_mono t d (by omega)
theorem FR_mono (hM : M.Ok) {x y : Int} (h : x ≤ y) : FR M t x ≤ FR M t y := by
  have l0 := hM.letter0
  have g0 := hM.gap0
  have : x / M.letter ≤ y / M.letter := Int.ediv_le_ediv (by omega) h
  rw [FR_ext hM (N := (y / M.letter + 1).toNat) (by omega)]
  unfold FR
  exact smZ_le fun d _ => cz_mono (Int.ediv_le_ediv (by omega) (by omega))
theorem FRs_mono (hM : M.Ok) {x y : Int} (h : x ≤ y) : ∀ rs : List Int, FRs M t x rs ≤ FRs M t y rs
  | [] => Int.le_refl _
  | r :: rs => by
    have h1 := FR_mono (t := t) hM (x := x - r) (y := y - r) (by omega)
    have h2 := FRs_mono hM h rs
    rw [FRs, FRs]
    omega
/-- x is the first time at which n hands are known -/
structure LT (M : Mc) (t : Option Nat) (rs : List Int) (n x : Int) : Prop where
  x0 : 0 ≤ x
  x1 : x ≤ hor M t
  lt : FRs M t (x - 1) rs < n
  le : n ≤ FRs M t x rs
theorem LT.uniq (hM : M.Ok) {rs : List Int} {n x y : Int} (h : LT M t rs n x) (h' : LT M t rs n y) : x = y := by
  rcases Int.lt_trichotomy x y with z | z | z
  · have := FRs_mono (t := t) hM (x := x) (y := y - 1) (by omega) rs
    have := h.le
    have := h'.lt
    omega
  · exact z
  · have := FRs_mono (t := t) hM (x := y) (y := x - 1) (by omega) rs
    have := h'.le
    have := h.lt
    omega
theorem FRs_neg (hM : M.Ok) {x : Int} (hx : x < 0) : ∀ {rs : List Int}, (∀ r ∈ rs, 0 ≤ r ∧ r ≤ 1000000000000) → FRs M t x rs = 0
  | [], _ => rfl
  | r :: rs, h => by
    have h1 := h r (List.mem_cons_self ..)
    rw [FRs, FR_neg hM (by omega), FRs_neg hM hx fun z hz => h z (List.mem_cons_of_mem _ hz)]
    rfl
theorem first_ok (hM : M.Ok) (ht : OkT t) {rs : List Int} (hr : ∀ r ∈ rs, 0 ≤ r ∧ r ≤ 1000000000000) {n : Int} (n0 : 1 ≤ n) (h : n ≤ FRs M t (hor M t) rs) (s : S) : ∃ x, LT M t rs n x ∧ G_first_time c [M.d c, .int n, tD t, .lst (rs.map D.int)] s = .ok (.int x) s := by
  have l0 := hM.letter0
  have l1 := hM.letter1
  have h1 := hor_le hM t
  have h2 := hor_pos hM t
  suffices g : @WR _ (G_first_time c [M.d c, .int n, tD t, .lst (rs.map D.int)] s) ⟨fun d s' => ∃ x, d = .int x ∧ s' = s ∧ LT M t rs n x⟩ ⟨nE⟩ by
    obtain ⟨a, s', e, x, rfl, rfl, hx⟩ := ex_ok g
    exact ⟨x, hx, e⟩
  have kb : ∀ x, -1 ≤ x → x ≤ hor M t → ∃ r, (r < n ↔ FRs M t x rs < n) ∧ G_known_by c [M.d c, .int x, tD t, .lst (rs.map D.int), .int (n - 1)] s = .ok (.int r) s := fun x x0 x1 => by
    obtain ⟨r, hk, e⟩ := known_ok (c := c) hM ht (x := x) (by omega) (by omega) hr (n - 1) s
    refine ⟨r, ?_, e⟩
    have := hk.le
    rcases hk.or with z | z
    · rw [z]
    · constructor <;> intro _ <;> omega
  obtain ⟨r, hk, e⟩ := kb (hor M t) (by omega) (by omega)
  unfold G_first_time
  simp (implicitDefEqProofs := false) only [horizon_ok hM t, e, show ¬ r < n by rw [hk]; omega, ↓w_srtT, ↓w_par2, ↓w_par3, ↓w_setd, ↓w_dict1, ↓w_maxDf, ↓w_slT, ↓w_addT, ↓w_dictT, ↓w_dictI, ↓w_get, ↓w_lrg1T, ↓w_lrg2T, ↓w_lrg1, ↓w_lrg2, ↓w_pop0, ↓w_lcT, ↓w_mth, ↓w_calm, ↓w_tryM, ↓w_tm0, ↓w_tmN, ↓w_tmS, ↓w_seq, ↓w_next, ↓w_break, ↓w_cont, ↓w_retN, ↓w_asg, ↓w_expr, ↓w_ret, ↓w_if, ↓w_asgG, ↓w_for, ↓w_put, ↓w_aug, ↓w_augS, ↓w_raise0, ↓w_raise1, ↓w_raise2, ↓w_try, ↓w_tryAs, ↓w_var, ↓w_c, ↓w_op, ↓w_chain, ↓w_notV, ↓w_andV, ↓w_orV, ↓w_ifE, ↓w_tst, ↓w_not, ↓w_and, ↓w_or, ↓w_yes, ↓w_nil, ↓w_cons, ↓w_tup, ↓w_lst, ↓w_lstT, ↓w_cb, ↓w_call, ↓w_callK, ↓w_neg, ↓w_no, ↓w_pt, ↓w_sl, ↓w_fld, ↓w_src, ↓w_rng, ↓w_enu, ↓w_listT, ↓w_app, ↓w_lc, ↓w_xf, ↓w_fldT, ↓w_make, ↓w_makeL, ↓w_run, ↓w_cut, ↓w_pure, ↓w_drop, nth2_eq, nth3_eq, w_ok, w_ex, w_nx, w_rt, w_bk, w_ct, w_exS, w_some, w_v, w_tr, w_fa, w_tb, w_ti, w_tn, w_L, w_L0, wb_not, cn_f, startD, arr, gN_eq, gTp, gTl, gCn, gNl, Option.bind_some, List.filterMap_cons, List.filterMap_nil, List.map_cons, List.map_nil, List.replicate_succ, List.replicate_zero, List.cons_append, List.nil_append, List.getElem?_cons_zero, List.getElem?_cons_succ, List.set_cons_zero, List.set_cons_succ, List.length_cons, List.length_nil, Nat.reduceAdd, Nat.reduceSub, Nat.reduceLeDiff, Nat.reduceEqDiff, Int.reducePow, Int.reduceToNat, Int.reduceNeg, Int.reduceAdd, Int.reduceMul, Int.reduceSub, Int.reduceLT, Int.reduceLE, Int.reduceEq, Nat.zero_add, Int.zero_add, big_eq, true_and, and_true, and_self, dSub_int, dAdd_int, dAddI_int, dLt_int, dLe_int, dGt_int, dGe_int, dEqD_int, bInt_int, bLen_lst, bLen_tup, bMin_int, bMax_int, bAbs_int, dIs_non, dIs_int, dIs_nn, Bool.not_true, Bool.not_false, decide_true, decide_false, reduceIte, Bool.false_eq_true, if_false, if_true, iSeq_lst, iSeq_tup, iSeq_rdl, iEnu_lst, iEnu_tup]
  refine ws_while (fun k L s' => ∃ (lo hi : Int) (y : Option D), L = [some (M.d c), some (.int n), some (tD t), some (.lst (rs.map D.int)), some (.int lo), some (.int hi), y] ∧ s = s' ∧ -1 ≤ lo ∧ lo < hi ∧ hi ≤ hor M t ∧ hi - lo ≤ 2 ^ k ∧ FRs M t lo rs < n ∧ n ≤ FRs M t hi rs) 100000 50 ⟨-1, hor M t, none, rfl, rfl, by omega, by omega, by omega, ?_, ?_, h⟩ (by decide) ?_
  · have : (2 : Int) ^ 50 = 1125899906842624 := by decide +kernel
    omega
  · rw [FRs_neg hM (by omega) hr]
    omega
  · rintro k L s' ⟨lo, hi, y, rfl, rfl, a1, a2, a3, a4, a5, a6⟩
    simp (implicitDefEqProofs := false) only [↓w_srtT, ↓w_par2, ↓w_par3, ↓w_setd, ↓w_dict1, ↓w_maxDf, ↓w_slT, ↓w_addT, ↓w_dictT, ↓w_dictI, ↓w_get, ↓w_lrg1T, ↓w_lrg2T, ↓w_lrg1, ↓w_lrg2, ↓w_pop0, ↓w_lcT, ↓w_mth, ↓w_calm, ↓w_tryM, ↓w_tm0, ↓w_tmN, ↓w_tmS, ↓w_seq, ↓w_next, ↓w_break, ↓w_cont, ↓w_retN, ↓w_asg, ↓w_expr, ↓w_ret, ↓w_if, ↓w_asgG, ↓w_for, ↓w_put, ↓w_aug, ↓w_augS, ↓w_raise0, ↓w_raise1, ↓w_raise2, ↓w_try, ↓w_tryAs, ↓w_var, ↓w_c, ↓w_op, ↓w_chain, ↓w_notV, ↓w_andV, ↓w_orV, ↓w_ifE, ↓w_tst, ↓w_not, ↓w_and, ↓w_or, ↓w_yes, ↓w_nil, ↓w_cons, ↓w_tup, ↓w_lst, ↓w_lstT, ↓w_cb, ↓w_call, ↓w_callK, ↓w_neg, ↓w_no, ↓w_pt, ↓w_sl, ↓w_fld, ↓w_src, ↓w_rng, ↓w_enu, ↓w_listT, ↓w_app, ↓w_lc, ↓w_xf, ↓w_fldT, ↓w_make, ↓w_makeL, ↓w_run, ↓w_cut, ↓w_pure, ↓w_drop, nth2_eq, nth3_eq, w_ok, w_ex, w_nx, w_rt, w_bk, w_ct, w_exS, w_some, w_v, w_tr, w_fa, w_tb, w_ti, w_tn, w_L, w_L0, wb_not, cn_f, startD, arr, gN_eq, gTp, gTl, gCn, gNl, Option.bind_some, List.filterMap_cons, List.filterMap_nil, List.map_cons, List.map_nil, List.replicate_succ, List.replicate_zero, List.cons_append, List.nil_append, List.getElem?_cons_zero, List.getElem?_cons_succ, List.set_cons_zero, List.set_cons_succ, List.length_cons, List.length_nil, Nat.reduceAdd, Nat.reduceSub, Nat.reduceLeDiff, Nat.reduceEqDiff, Int.reducePow, Int.reduceToNat, Int.reduceNeg, Int.reduceAdd, Int.reduceMul, Int.reduceSub, Int.reduceLT, Int.reduceLE, Int.reduceEq, Nat.zero_add, Int.zero_add, big_eq, true_and, and_true, and_self, dSub_int, dAdd_int, dAddI_int, dLt_int, dLe_int, dGt_int, dGe_int, dEqD_int, bInt_int, bLen_lst, bLen_tup, bMin_int, bMax_int, bAbs_int, dIs_non, dIs_int, dIs_nn, Bool.not_true, Bool.not_false, decide_true, decide_false, reduceIte, Bool.false_eq_true, if_false, if_true, iSeq_lst, iSeq_tup, iSeq_rdl, iEnu_lst, iEnu_tup]
    refine wb_dec (fun hw => ?_) (fun hw => ?_)
    · obtain ⟨m, em⟩ : ∃ m, m = (lo + hi) / 2 := ⟨_, rfl⟩
      obtain ⟨r, hk, e⟩ := kb m (by omega) (by omega)
      cases k with
      | zero =>
        have : (2 : Int) ^ 0 = 1 := rfl
        omega
      | succ k =>
        rw [Int.pow_succ] at a4
        simp (implicitDefEqProofs := false) only [↓w_srtT, ↓w_par2, ↓w_par3, ↓w_setd, ↓w_dict1, ↓w_maxDf, ↓w_slT, ↓w_addT, ↓w_dictT, ↓w_dictI, ↓w_get, ↓w_lrg1T, ↓w_lrg2T, ↓w_lrg1, ↓w_lrg2, ↓w_pop0, ↓w_lcT, ↓w_mth, ↓w_calm, ↓w_tryM, ↓w_tm0, ↓w_tmN, ↓w_tmS, ↓w_seq, ↓w_next, ↓w_break, ↓w_cont, ↓w_retN, ↓w_asg, ↓w_expr, ↓w_ret, ↓w_if, ↓w_asgG, ↓w_for, ↓w_put, ↓w_aug, ↓w_augS, ↓w_raise0, ↓w_raise1, ↓w_raise2, ↓w_try, ↓w_tryAs, ↓w_var, ↓w_c, ↓w_op, ↓w_chain, ↓w_notV, ↓w_andV, ↓w_orV, ↓w_ifE, ↓w_tst, ↓w_not, ↓w_and, ↓w_or, ↓w_yes, ↓w_nil, ↓w_cons, ↓w_tup, ↓w_lst, ↓w_lstT, ↓w_cb, ↓w_call, ↓w_callK, ↓w_neg, ↓w_no, ↓w_pt, ↓w_sl, ↓w_fld, ↓w_src, ↓w_rng, ↓w_enu, ↓w_listT, ↓w_app, ↓w_lc, ↓w_xf, ↓w_fldT, ↓w_make, ↓w_makeL, ↓w_run, ↓w_cut, ↓w_pure, ↓w_drop, nth2_eq, nth3_eq, w_ok, w_ex, w_nx, w_rt, w_bk, w_ct, w_exS, w_some, w_v, w_tr, w_fa, w_tb, w_ti, w_tn, w_L, w_L0, wb_not, cn_f, startD, arr, gN_eq, gTp, gTl, gCn, gNl, Option.bind_some, List.filterMap_cons, List.filterMap_nil, List.map_cons, List.map_nil, List.replicate_succ, List.replicate_zero, List.cons_append, List.nil_append, List.getElem?_cons_zero, List.getElem?_cons_succ, List.set_cons_zero, List.set_cons_succ, List.length_cons, List.length_nil, Nat.reduceAdd, Nat.reduceSub, Nat.reduceLeDiff, Nat.reduceEqDiff, Int.reducePow, Int.reduceToNat, Int.reduceNeg, Int.reduceAdd, Int.reduceMul, Int.reduceSub, Int.reduceLT, Int.reduceLE, Int.reduceEq, Nat.zero_add, Int.zero_add, big_eq, true_and, and_true, and_self, dSub_int, dAdd_int, dAddI_int, dLt_int, dLe_int, dGt_int, dGe_int, dEqD_int, bInt_int, bLen_lst, bLen_tup, bMin_int, bMax_int, bAbs_int, dIs_non, dIs_int, dIs_nn, Bool.not_true, Bool.not_false, decide_true, decide_false, reduceIte, Bool.false_eq_true, if_false, if_true, iSeq_lst, iSeq_tup, iSeq_rdl, iEnu_lst, iEnu_tup]
        rw [dDiv_small (by decide) (by decide)]
        simp (implicitDefEqProofs := false) only [← em, e, ↓w_srtT, ↓w_par2, ↓w_par3, ↓w_setd, ↓w_dict1, ↓w_maxDf, ↓w_slT, ↓w_addT, ↓w_dictT, ↓w_dictI, ↓w_get, ↓w_lrg1T, ↓w_lrg2T, ↓w_lrg1, ↓w_lrg2, ↓w_pop0, ↓w_lcT, ↓w_mth, ↓w_calm, ↓w_tryM, ↓w_tm0, ↓w_tmN, ↓w_tmS, ↓w_seq, ↓w_next, ↓w_break, ↓w_cont, ↓w_retN, ↓w_asg, ↓w_expr, ↓w_ret, ↓w_if, ↓w_asgG, ↓w_for, ↓w_put, ↓w_aug, ↓w_augS, ↓w_raise0, ↓w_raise1, ↓w_raise2, ↓w_try, ↓w_tryAs, ↓w_var, ↓w_c, ↓w_op, ↓w_chain, ↓w_notV, ↓w_andV, ↓w_orV, ↓w_ifE, ↓w_tst, ↓w_not, ↓w_and, ↓w_or, ↓w_yes, ↓w_nil, ↓w_cons, ↓w_tup, ↓w_lst, ↓w_lstT, ↓w_cb, ↓w_call, ↓w_callK, ↓w_neg, ↓w_no, ↓w_pt, ↓w_sl, ↓w_fld, ↓w_src, ↓w_rng, ↓w_enu, ↓w_listT, ↓w_app, ↓w_lc, ↓w_xf, ↓w_fldT, ↓w_make, ↓w_makeL, ↓w_run, ↓w_cut, ↓w_pure, ↓w_drop, nth2_eq, nth3_eq, w_ok, w_ex, w_nx, w_rt, w_bk, w_ct, w_exS, w_some, w_v, w_tr, w_fa, w_tb, w_ti, w_tn, w_L, w_L0, wb_not, cn_f, startD, arr, gN_eq, gTp, gTl, gCn, gNl, Option.bind_some, List.filterMap_cons, List.filterMap_nil, List.map_cons, List.map_nil, List.replicate_succ, List.replicate_zero, List.cons_append, List.nil_append, List.getElem?_cons_zero, List.getElem?_cons_succ, List.set_cons_zero, List.set_cons_succ, List.length_cons, List.length_nil, Nat.reduceAdd, Nat.reduceSub, Nat.reduceLeDiff, Nat.reduceEqDiff, Int.reducePow, Int.reduceToNat, Int.reduceNeg, Int.reduceAdd, Int.reduceMul, Int.reduceSub, Int.reduceLT, Int.reduceLE, Int.reduceEq, Nat.zero_add, Int.zero_add, big_eq, true_and, and_true, and_self, dSub_int, dAdd_int, dAddI_int, dLt_int, dLe_int, dGt_int, dGe_int, dEqD_int, bInt_int, bLen_lst, bLen_tup, bMin_int, bMax_int, bAbs_int, dIs_non, dIs_int, dIs_nn, Bool.not_true, Bool.not_false, decide_true, decide_false, reduceIte, Bool.false_eq_true, if_false, if_true, iSeq_lst, iSeq_tup, iSeq_rdl, iEnu_lst, iEnu_tup]
        refine wb_dec (fun hz => ?_) (fun hz => ?_)
        · simp (implicitDefEqProofs := false) only [↓w_srtT, ↓w_par2, ↓w_par3, ↓w_setd, ↓w_dict1, ↓w_maxDf, ↓w_slT, ↓w_addT, ↓w_dictT, ↓w_dictI, ↓w_get, ↓w_lrg1T, ↓w_lrg2T, ↓w_lrg1, ↓w_lrg2, ↓w_pop0, ↓w_lcT, ↓w_mth, ↓w_calm, ↓w_tryM, ↓w_tm0, ↓w_tmN, ↓w_tmS, ↓w_seq, ↓w_next, ↓w_break, ↓w_cont, ↓w_retN, ↓w_asg, ↓w_expr, ↓w_ret, ↓w_if, ↓w_asgG, ↓w_for, ↓w_put, ↓w_aug, ↓w_augS, ↓w_raise0, ↓w_raise1, ↓w_raise2, ↓w_try, ↓w_tryAs, ↓w_var, ↓w_c, ↓w_op, ↓w_chain, ↓w_notV, ↓w_andV, ↓w_orV, ↓w_ifE, ↓w_tst, ↓w_not, ↓w_and, ↓w_or, ↓w_yes, ↓w_nil, ↓w_cons, ↓w_tup, ↓w_lst, ↓w_lstT, ↓w_cb, ↓w_call, ↓w_callK, ↓w_neg, ↓w_no, ↓w_pt, ↓w_sl, ↓w_fld, ↓w_src, ↓w_rng, ↓w_enu, ↓w_listT, ↓w_app, ↓w_lc, ↓w_xf, ↓w_fldT, ↓w_make, ↓w_makeL, ↓w_run, ↓w_cut, ↓w_pure, ↓w_drop, nth2_eq, nth3_eq, w_ok, w_ex, w_nx, w_rt, w_bk, w_ct, w_exS, w_some, w_v, w_tr, w_fa, w_tb, w_ti, w_tn, w_L, w_L0, wb_not, cn_f, startD, arr, gN_eq, gTp, gTl, gCn, gNl, Option.bind_some, List.filterMap_cons, List.filterMap_nil, List.map_cons, List.map_nil, List.replicate_succ, List.replicate_zero, List.cons_append, List.nil_append, List.getElem?_cons_zero, List.getElem?_cons_succ, List.set_cons_zero, List.set_cons_succ, List.length_cons, List.length_nil, Nat.reduceAdd, Nat.reduceSub, Nat.reduceLeDiff, Nat.reduceEqDiff, Int.reducePow, Int.reduceToNat, Int.reduceNeg, Int.reduceAdd, Int.reduceMul, Int.reduceSub, Int.reduceLT, Int.reduceLE, Int.reduceEq, Nat.zero_add, Int.zero_add, big_eq, true_and, and_true, and_self, dSub_int, dAdd_int, dAddI_int, dLt_int, dLe_int, dGt_int, dGe_int, dEqD_int, bInt_int, bLen_lst, bLen_tup, bMin_int, bMax_int, bAbs_int, dIs_non, dIs_int, dIs_nn, Bool.not_true, Bool.not_false, decide_true, decide_false, reduceIte, Bool.false_eq_true, if_false, if_true, iSeq_lst, iSeq_tup, iSeq_rdl, iEnu_lst, iEnu_tup]
          exact ⟨k, by omega, _, _, _, rfl, by omega, by omega, by omega, by omega, hk.mp hz, a6⟩
        · simp (implicitDefEqProofs := false) only [↓w_srtT, ↓w_par2, ↓w_par3, ↓w_setd, ↓w_dict1, ↓w_maxDf, ↓w_slT, ↓w_addT, ↓w_dictT, ↓w_dictI, ↓w_get, ↓w_lrg1T, ↓w_lrg2T, ↓w_lrg1, ↓w_lrg2, ↓w_pop0, ↓w_lcT, ↓w_mth, ↓w_calm, ↓w_tryM, ↓w_tm0, ↓w_tmN, ↓w_tmS, ↓w_seq, ↓w_next, ↓w_break, ↓w_cont, ↓w_retN, ↓w_asg, ↓w_expr, ↓w_ret, ↓w_if, ↓w_asgG, ↓w_for, ↓w_put, ↓w_aug, ↓w_augS, ↓w_raise0, ↓w_raise1, ↓w_raise2, ↓w_try, ↓w_tryAs, ↓w_var, ↓w_c, ↓w_op, ↓w_chain, ↓w_notV, ↓w_andV, ↓w_orV, ↓w_ifE, ↓w_tst, ↓w_not, ↓w_and, ↓w_or, ↓w_yes, ↓w_nil, ↓w_cons, ↓w_tup, ↓w_lst, ↓w_lstT, ↓w_cb, ↓w_call, ↓w_callK, ↓w_neg, ↓w_no, ↓w_pt, ↓w_sl, ↓w_fld, ↓w_src, ↓w_rng, ↓w_enu, ↓w_listT, ↓w_app, ↓w_lc, ↓w_xf, ↓w_fldT, ↓w_make, ↓w_makeL, ↓w_run, ↓w_cut, ↓w_pure, ↓w_drop, nth2_eq, nth3_eq, w_ok, w_ex, w_nx, w_rt, w_bk, w_ct, w_exS, w_some, w_v, w_tr, w_fa, w_tb, w_ti, w_tn, w_L, w_L0, wb_not, cn_f, startD, arr, gN_eq, gTp, gTl, gCn, gNl, Option.bind_some, List.filterMap_cons, List.filterMap_nil, List.map_cons, List.map_nil, List.replicate_succ, List.replicate_zero, List.cons_append, List.nil_append, List.getElem?_cons_zero, List.getElem?_cons_succ, List.set_cons_zero, List.set_cons_succ, List.length_cons, List.length_nil, Nat.reduceAdd, Nat.reduceSub, Nat.reduceLeDiff, Nat.reduceEqDiff, Int.reducePow, Int.reduceToNat, Int.reduceNeg, Int.reduceAdd, Int.reduceMul, Int.reduceSub, Int.reduceLT, Int.reduceLE, Int.reduceEq, Nat.zero_add, Int.zero_add, big_eq, true_and, and_true, and_self, dSub_int, dAdd_int, dAddI_int, dLt_int, dLe_int, dGt_int, dGe_int, dEqD_int, bInt_int, bLen_lst, bLen_tup, bMin_int, bMax_int, bAbs_int, dIs_non, dIs_int, dIs_nn, Bool.not_true, Bool.not_false, decide_true, decide_false, reduceIte, Bool.false_eq_true, if_false, if_true, iSeq_lst, iSeq_tup, iSeq_rdl, iEnu_lst, iEnu_tup]
          refine ⟨k, by omega, _, _, _, rfl, by omega, by omega, by omega, by omega, a5, ?_⟩
          rw [hk] at hz
          omega
    · simp (implicitDefEqProofs := false) only [↓w_srtT, ↓w_par2, ↓w_par3, ↓w_setd, ↓w_dict1, ↓w_maxDf, ↓w_slT, ↓w_addT, ↓w_dictT, ↓w_dictI, ↓w_get, ↓w_lrg1T, ↓w_lrg2T, ↓w_lrg1, ↓w_lrg2, ↓w_pop0, ↓w_lcT, ↓w_mth, ↓w_calm, ↓w_tryM, ↓w_tm0, ↓w_tmN, ↓w_tmS, ↓w_seq, ↓w_next, ↓w_break, ↓w_cont, ↓w_retN, ↓w_asg, ↓w_expr, ↓w_ret, ↓w_if, ↓w_asgG, ↓w_for, ↓w_put, ↓w_aug, ↓w_augS, ↓w_raise0, ↓w_raise1, ↓w_raise2, ↓w_try, ↓w_tryAs, ↓w_var, ↓w_c, ↓w_op, ↓w_chain, ↓w_notV, ↓w_andV, ↓w_orV, ↓w_ifE, ↓w_tst, ↓w_not, ↓w_and, ↓w_or, ↓w_yes, ↓w_nil, ↓w_cons, ↓w_tup, ↓w_lst, ↓w_lstT, ↓w_cb, ↓w_call, ↓w_callK, ↓w_neg, ↓w_no, ↓w_pt, ↓w_sl, ↓w_fld, ↓w_src, ↓w_rng, ↓w_enu, ↓w_listT, ↓w_app, ↓w_lc, ↓w_xf, ↓w_fldT, ↓w_make, ↓w_makeL, ↓w_run, ↓w_cut, ↓w_pure, ↓w_drop, nth2_eq, nth3_eq, w_ok, w_ex, w_nx, w_rt, w_bk, w_ct, w_exS, w_some, w_v, w_tr, w_fa, w_tb, w_ti, w_tn, w_L, w_L0, wb_not, cn_f, startD, arr, gN_eq, gTp, gTl, gCn, gNl, Option.bind_some, List.filterMap_cons, List.filterMap_nil, List.map_cons, List.map_nil, List.replicate_succ, List.replicate_zero, List.cons_append, List.nil_append, List.getElem?_cons_zero, List.getElem?_cons_succ, List.set_cons_zero, List.set_cons_succ, List.length_cons, List.length_nil, Nat.reduceAdd, Nat.reduceSub, Nat.reduceLeDiff, Nat.reduceEqDiff, Int.reducePow, Int.reduceToNat, Int.reduceNeg, Int.reduceAdd, Int.reduceMul, Int.reduceSub, Int.reduceLT, Int.reduceLE, Int.reduceEq, Nat.zero_add, Int.zero_add, big_eq, true_and, and_true, and_self, dSub_int, dAdd_int, dAddI_int, dLt_int, dLe_int, dGt_int, dGe_int, dEqD_int, bInt_int, bLen_lst, bLen_tup, bMin_int, bMax_int, bAbs_int, dIs_non, dIs_int, dIs_nn, Bool.not_true, Bool.not_false, decide_true, decide_false, reduceIte, Bool.false_eq_true, if_false, if_true, iSeq_lst, iSeq_tup, iSeq_rdl, iEnu_lst, iEnu_tup]
      exact ⟨_, rfl, by omega, by omega, by rw [show hi - 1 = lo by omega]; exact a5, a6⟩
end Pg

/-! hands that are known just at a time -/
namespace Pg
open PySem L2 SI Mt
variable {c : Cl} {M : Mc} {t : Option Nat}
/-- of one depth, y behind its first -/
def KJ (M : Mc) (t : Option Nat) (d : Nat) (y : Int) : Int := cz t d (y / M.gap) - cz t d ((y - 1) / M.gap)
theorem KJ_nonneg (hM : M.Ok) (d : Nat) (y : Int) : 0 ≤ KJ M t d y := by
  have g0 := hM.gap0
  have := cz_mono (t := t) (d := d) (show (y - 1) / M.gap ≤ y / M.gap from Int.ediv_le_ediv (by omega) (by omega))
  unfold KJ
  omega
theorem KJ_neg (hM : M.Ok) {d : Nat} {y : Int} (h : y < 0) : KJ M t d y = 0 := by
  have g0 := hM.gap0
  unfold KJ
  rw [cz_neg (ediv_neg h (by omega)), cz_neg (ediv_neg (by omega) (by omega))]
  rfl
theorem div_pred (hM : M.Ok) {y : Int} (h : y % M.gap = 0) : (y - 1) / M.gap = y / M.gap - 1 := by
  have g0 := hM.gap0
  have e := Int.mul_ediv_add_emod y M.gap
  rw [h, Int.add_zero] at e
  have : (y - 1) / M.gap = (M.gap - 1 + (y / M.gap - 1) * M.gap) / M.gap := by
    congr 1
    rw [Int.sub_mul, Int.one_mul, Int.mul_comm (y / M.gap)]
    omega
  rw [this, Int.add_mul_ediv_right _ _ (by omega), Int.ediv_eq_zero_of_lt (by omega) (by omega)]
  omega
theorem div_pred' (hM : M.Ok) {y : Int} (h : ¬ y % M.gap = 0) : (y - 1) / M.gap = y / M.gap := by
  have g0 := hM.gap0
  have e := Int.mul_ediv_add_emod y M.gap
  have h1 := Int.emod_nonneg y (show M.gap ≠ 0 by omega)
  have h2 := Int.emod_lt_of_pos y (show 0 < M.gap by omega)
  have : (y - 1) / M.gap = (y % M.gap - 1 + (y / M.gap) * M.gap) / M.gap := by
    congr 1
    rw [Int.mul_comm (y / M.gap)]
    omega
  rw [this, Int.add_mul_ediv_right _ _ (by omega), Int.ediv_eq_zero_of_lt (by omega) (by omega)]
  omega
theorem tuplesof_ok (ht : OkT t) {d : Nat} {m : Int} (hd : d ≤ 5000) (hm : m < 10 ^ 25) (s : S) : G_tuples_of c [.int d, .int m, tD t] s = .ok (.int (cz t d m - cz t d (m - 1))) s := by
  apply eq_ok
  unfold G_tuples_of
  simp (implicitDefEqProofs := false) only [tuples_ok ht hd hm, tuples_ok ht hd (show m - 1 < 10 ^ 25 by omega), ↓w_srtT, ↓w_par2, ↓w_par3, ↓w_setd, ↓w_dict1, ↓w_maxDf, ↓w_slT, ↓w_addT, ↓w_dictT, ↓w_dictI, ↓w_get, ↓w_lrg1T, ↓w_lrg2T, ↓w_lrg1, ↓w_lrg2, ↓w_pop0, ↓w_lcT, ↓w_mth, ↓w_calm, ↓w_tryM, ↓w_tm0, ↓w_tmN, ↓w_tmS, ↓w_seq, ↓w_next, ↓w_break, ↓w_cont, ↓w_retN, ↓w_asg, ↓w_expr, ↓w_ret, ↓w_if, ↓w_asgG, ↓w_for, ↓w_put, ↓w_aug, ↓w_augS, ↓w_raise0, ↓w_raise1, ↓w_raise2, ↓w_try, ↓w_tryAs, ↓w_var, ↓w_c, ↓w_op, ↓w_chain, ↓w_notV, ↓w_andV, ↓w_orV, ↓w_ifE, ↓w_tst, ↓w_not, ↓w_and, ↓w_or, ↓w_yes, ↓w_nil, ↓w_cons, ↓w_tup, ↓w_lst, ↓w_lstT, ↓w_cb, ↓w_call, ↓w_callK, ↓w_neg, ↓w_no, ↓w_pt, ↓w_sl, ↓w_fld, ↓w_src, ↓w_rng, ↓w_enu, ↓w_listT, ↓w_app, ↓w_lc, ↓w_xf, ↓w_fldT, ↓w_make, ↓w_makeL, ↓w_run, ↓w_cut, ↓w_pure, ↓w_drop, nth2_eq, nth3_eq, w_ok, w_ex, w_nx, w_rt, w_bk, w_ct, w_exS, w_some, w_v, w_tr, w_fa, w_tb, w_ti, w_tn, w_L, w_L0, wb_not, cn_f, startD, arr, gN_eq, gTp, gTl, gCn, gNl, Option.bind_some, List.filterMap_cons, List.filterMap_nil, List.map_cons, List.map_nil, List.replicate_succ, List.replicate_zero, List.cons_append, List.nil_append, List.getElem?_cons_zero, List.getElem?_cons_succ, List.set_cons_zero, List.set_cons_succ, List.length_cons, List.length_nil, Nat.reduceAdd, Nat.reduceSub, Nat.reduceLeDiff, Nat.reduceEqDiff, Int.reducePow, Int.reduceToNat, Int.reduceNeg, Int.reduceAdd, Int.reduceMul, Int.reduceSub, Int.reduceLT, Int.reduceLE, Int.reduceEq, Nat.zero_add, Int.zero_add, big_eq, true_and, and_true, and_self, dSub_int, dAdd_int, dAddI_int, dLt_int, dLe_int, dGt_int, dGe_int, dEqD_int, bInt_int, bLen_lst, bLen_tup, bMin_int, bMax_int, bAbs_int, dIs_non, dIs_int, dIs_nn, Bool.not_true, Bool.not_false, decide_true, decide_false, reduceIte, Bool.false_eq_true, if_false, if_true, iSeq_lst, iSeq_tup, iSeq_rdl, iEnu_lst, iEnu_tup]
theorem just_ok (hM : M.Ok) (ht : OkT t) {x r : Int} (hx0 : -10000000000000 ≤ x) (hx : x ≤ 1000 * M.letter) (hr : 0 ≤ r ∧ r ≤ 1000000000000) {d : Nat} (hd : d ≤ 5000) (s : S) : G_known_just_at c [M.d c, .int x, tD t, .int r, .int d] s = .ok (.int (KJ M t d (x - r - d * M.letter))) s := by
  have l0 := hM.letter0
  have l1 := hM.letter1
  have g0 := hM.gap0
  have g1 := hM.gap1
  have hdl : (d : Int) * M.letter ≤ 5000 * M.letter := Int.mul_le_mul_of_nonneg_right (by omega) (by omega)
  have hdl0 : 0 ≤ (d : Int) * M.letter := Int.mul_nonneg (by omega) (by omega)
  apply eq_ok
  unfold G_known_just_at
  simp (implicitDefEqProofs := false) only [fld_letter, ↓w_srtT, ↓w_par2, ↓w_par3, ↓w_setd, ↓w_dict1, ↓w_maxDf, ↓w_slT, ↓w_addT, ↓w_dictT, ↓w_dictI, ↓w_get, ↓w_lrg1T, ↓w_lrg2T, ↓w_lrg1, ↓w_lrg2, ↓w_pop0, ↓w_lcT, ↓w_mth, ↓w_calm, ↓w_tryM, ↓w_tm0, ↓w_tmN, ↓w_tmS, ↓w_seq, ↓w_next, ↓w_break, ↓w_cont, ↓w_retN, ↓w_asg, ↓w_expr, ↓w_ret, ↓w_if, ↓w_asgG, ↓w_for, ↓w_put, ↓w_aug, ↓w_augS, ↓w_raise0, ↓w_raise1, ↓w_raise2, ↓w_try, ↓w_tryAs, ↓w_var, ↓w_c, ↓w_op, ↓w_chain, ↓w_notV, ↓w_andV, ↓w_orV, ↓w_ifE, ↓w_tst, ↓w_not, ↓w_and, ↓w_or, ↓w_yes, ↓w_nil, ↓w_cons, ↓w_tup, ↓w_lst, ↓w_lstT, ↓w_cb, ↓w_call, ↓w_callK, ↓w_neg, ↓w_no, ↓w_pt, ↓w_sl, ↓w_fld, ↓w_src, ↓w_rng, ↓w_enu, ↓w_listT, ↓w_app, ↓w_lc, ↓w_xf, ↓w_fldT, ↓w_make, ↓w_makeL, ↓w_run, ↓w_cut, ↓w_pure, ↓w_drop, nth2_eq, nth3_eq, w_ok, w_ex, w_nx, w_rt, w_bk, w_ct, w_exS, w_some, w_v, w_tr, w_fa, w_tb, w_ti, w_tn, w_L, w_L0, wb_not, cn_f, startD, arr, gN_eq, gTp, gTl, gCn, gNl, Option.bind_some, List.filterMap_cons, List.filterMap_nil, List.map_cons, List.map_nil, List.replicate_succ, List.replicate_zero, List.cons_append, List.nil_append, List.getElem?_cons_zero, List.getElem?_cons_succ, List.set_cons_zero, List.set_cons_succ, List.length_cons, List.length_nil, Nat.reduceAdd, Nat.reduceSub, Nat.reduceLeDiff, Nat.reduceEqDiff, Int.reducePow, Int.reduceToNat, Int.reduceNeg, Int.reduceAdd, Int.reduceMul, Int.reduceSub, Int.reduceLT, Int.reduceLE, Int.reduceEq, Nat.zero_add, Int.zero_add, big_eq, true_and, and_true, and_self, dSub_int, dAdd_int, dAddI_int, dLt_int, dLe_int, dGt_int, dGe_int, dEqD_int, bInt_int, bLen_lst, bLen_tup, bMin_int, bMax_int, bAbs_int, dIs_non, dIs_int, dIs_nn, Bool.not_true, Bool.not_false, decide_true, decide_false, reduceIte, Bool.false_eq_true, if_false, if_true, iSeq_lst, iSeq_tup, iSeq_rdl, iEnu_lst, iEnu_tup]
  rw [dMul_small (by omega) (by omega) (by omega) (by omega)]
  obtain ⟨y, ey⟩ : ∃ y, y = x - r - d * M.letter := ⟨_, rfl⟩
  simp (implicitDefEqProofs := false) only [← ey, ↓w_srtT, ↓w_par2, ↓w_par3, ↓w_setd, ↓w_dict1, ↓w_maxDf, ↓w_slT, ↓w_addT, ↓w_dictT, ↓w_dictI, ↓w_get, ↓w_lrg1T, ↓w_lrg2T, ↓w_lrg1, ↓w_lrg2, ↓w_pop0, ↓w_lcT, ↓w_mth, ↓w_calm, ↓w_tryM, ↓w_tm0, ↓w_tmN, ↓w_tmS, ↓w_seq, ↓w_next, ↓w_break, ↓w_cont, ↓w_retN, ↓w_asg, ↓w_expr, ↓w_ret, ↓w_if, ↓w_asgG, ↓w_for, ↓w_put, ↓w_aug, ↓w_augS, ↓w_raise0, ↓w_raise1, ↓w_raise2, ↓w_try, ↓w_tryAs, ↓w_var, ↓w_c, ↓w_op, ↓w_chain, ↓w_notV, ↓w_andV, ↓w_orV, ↓w_ifE, ↓w_tst, ↓w_not, ↓w_and, ↓w_or, ↓w_yes, ↓w_nil, ↓w_cons, ↓w_tup, ↓w_lst, ↓w_lstT, ↓w_cb, ↓w_call, ↓w_callK, ↓w_neg, ↓w_no, ↓w_pt, ↓w_sl, ↓w_fld, ↓w_src, ↓w_rng, ↓w_enu, ↓w_listT, ↓w_app, ↓w_lc, ↓w_xf, ↓w_fldT, ↓w_make, ↓w_makeL, ↓w_run, ↓w_cut, ↓w_pure, ↓w_drop, nth2_eq, nth3_eq, w_ok, w_ex, w_nx, w_rt, w_bk, w_ct, w_exS, w_some, w_v, w_tr, w_fa, w_tb, w_ti, w_tn, w_L, w_L0, wb_not, cn_f, startD, arr, gN_eq, gTp, gTl, gCn, gNl, Option.bind_some, List.filterMap_cons, List.filterMap_nil, List.map_cons, List.map_nil, List.replicate_succ, List.replicate_zero, List.cons_append, List.nil_append, List.getElem?_cons_zero, List.getElem?_cons_succ, List.set_cons_zero, List.set_cons_succ, List.length_cons, List.length_nil, Nat.reduceAdd, Nat.reduceSub, Nat.reduceLeDiff, Nat.reduceEqDiff, Int.reducePow, Int.reduceToNat, Int.reduceNeg, Int.reduceAdd, Int.reduceMul, Int.reduceSub, Int.reduceLT, Int.reduceLE, Int.reduceEq, Nat.zero_add, Int.zero_add, big_eq, true_and, and_true, and_self, dSub_int, dAdd_int, dAddI_int, dLt_int, dLe_int, dGt_int, dGe_int, dEqD_int, bInt_int, bLen_lst, bLen_tup, bMin_int, bMax_int, bAbs_int, dIs_non, dIs_int, dIs_nn, Bool.not_true, Bool.not_false, decide_true, decide_false, reduceIte, Bool.false_eq_true, if_false, if_true, iSeq_lst, iSeq_tup, iSeq_rdl, iEnu_lst, iEnu_tup]
  refine wb_dec (fun h => ?_) (fun h => ?_)
  · simp (implicitDefEqProofs := false) only [↓w_srtT, ↓w_par2, ↓w_par3, ↓w_setd, ↓w_dict1, ↓w_maxDf, ↓w_slT, ↓w_addT, ↓w_dictT, ↓w_dictI, ↓w_get, ↓w_lrg1T, ↓w_lrg2T, ↓w_lrg1, ↓w_lrg2, ↓w_pop0, ↓w_lcT, ↓w_mth, ↓w_calm, ↓w_tryM, ↓w_tm0, ↓w_tmN, ↓w_tmS, ↓w_seq, ↓w_next, ↓w_break, ↓w_cont, ↓w_retN, ↓w_asg, ↓w_expr, ↓w_ret, ↓w_if, ↓w_asgG, ↓w_for, ↓w_put, ↓w_aug, ↓w_augS, ↓w_raise0, ↓w_raise1, ↓w_raise2, ↓w_try, ↓w_tryAs, ↓w_var, ↓w_c, ↓w_op, ↓w_chain, ↓w_notV, ↓w_andV, ↓w_orV, ↓w_ifE, ↓w_tst, ↓w_not, ↓w_and, ↓w_or, ↓w_yes, ↓w_nil, ↓w_cons, ↓w_tup, ↓w_lst, ↓w_lstT, ↓w_cb, ↓w_call, ↓w_callK, ↓w_neg, ↓w_no, ↓w_pt, ↓w_sl, ↓w_fld, ↓w_src, ↓w_rng, ↓w_enu, ↓w_listT, ↓w_app, ↓w_lc, ↓w_xf, ↓w_fldT, ↓w_make, ↓w_makeL, ↓w_run, ↓w_cut, ↓w_pure, ↓w_drop, nth2_eq, nth3_eq, w_ok, w_ex, w_nx, w_rt, w_bk, w_ct, w_exS, w_some, w_v, w_tr, w_fa, w_tb, w_ti, w_tn, w_L, w_L0, wb_not, cn_f, startD, arr, gN_eq, gTp, gTl, gCn, gNl, Option.bind_some, List.filterMap_cons, List.filterMap_nil, List.map_cons, List.map_nil, List.replicate_succ, List.replicate_zero, List.cons_append, List.nil_append, List.getElem?_cons_zero, List.getElem?_cons_succ, List.set_cons_zero, List.set_cons_succ, List.length_cons, List.length_nil, Nat.reduceAdd, Nat.reduceSub, Nat.reduceLeDiff, Nat.reduceEqDiff, Int.reducePow, Int.reduceToNat, Int.reduceNeg, Int.reduceAdd, Int.reduceMul, Int.reduceSub, Int.reduceLT, Int.reduceLE, Int.reduceEq, Nat.zero_add, Int.zero_add, big_eq, true_and, and_true, and_self, dSub_int, dAdd_int, dAddI_int, dLt_int, dLe_int, dGt_int, dGe_int, dEqD_int, bInt_int, bLen_lst, bLen_tup, bMin_int, bMax_int, bAbs_int, dIs_non, dIs_int, dIs_nn, Bool.not_true, Bool.not_false, decide_true, decide_false, reduceIte, Bool.false_eq_true, if_false, if_true, iSeq_lst, iSeq_tup, iSeq_rdl, iEnu_lst, iEnu_tup]
    rw [← ey, KJ_neg hM h]
  · simp (implicitDefEqProofs := false) only [fld_gap, ↓w_srtT, ↓w_par2, ↓w_par3, ↓w_setd, ↓w_dict1, ↓w_maxDf, ↓w_slT, ↓w_addT, ↓w_dictT, ↓w_dictI, ↓w_get, ↓w_lrg1T, ↓w_lrg2T, ↓w_lrg1, ↓w_lrg2, ↓w_pop0, ↓w_lcT, ↓w_mth, ↓w_calm, ↓w_tryM, ↓w_tm0, ↓w_tmN, ↓w_tmS, ↓w_seq, ↓w_next, ↓w_break, ↓w_cont, ↓w_retN, ↓w_asg, ↓w_expr, ↓w_ret, ↓w_if, ↓w_asgG, ↓w_for, ↓w_put, ↓w_aug, ↓w_augS, ↓w_raise0, ↓w_raise1, ↓w_raise2, ↓w_try, ↓w_tryAs, ↓w_var, ↓w_c, ↓w_op, ↓w_chain, ↓w_notV, ↓w_andV, ↓w_orV, ↓w_ifE, ↓w_tst, ↓w_not, ↓w_and, ↓w_or, ↓w_yes, ↓w_nil, ↓w_cons, ↓w_tup, ↓w_lst, ↓w_lstT, ↓w_cb, ↓w_call, ↓w_callK, ↓w_neg, ↓w_no, ↓w_pt, ↓w_sl, ↓w_fld, ↓w_src, ↓w_rng, ↓w_enu, ↓w_listT, ↓w_app, ↓w_lc, ↓w_xf, ↓w_fldT, ↓w_make, ↓w_makeL, ↓w_run, ↓w_cut, ↓w_pure, ↓w_drop, nth2_eq, nth3_eq, w_ok, w_ex, w_nx, w_rt, w_bk, w_ct, w_exS, w_some, w_v, w_tr, w_fa, w_tb, w_ti, w_tn, w_L, w_L0, wb_not, cn_f, startD, arr, gN_eq, gTp, gTl, gCn, gNl, Option.bind_some, List.filterMap_cons, List.filterMap_nil, List.map_cons, List.map_nil, List.replicate_succ, List.replicate_zero, List.cons_append, List.nil_append, List.getElem?_cons_zero, List.getElem?_cons_succ, List.set_cons_zero, List.set_cons_succ, List.length_cons, List.length_nil, Nat.reduceAdd, Nat.reduceSub, Nat.reduceLeDiff, Nat.reduceEqDiff, Int.reducePow, Int.reduceToNat, Int.reduceNeg, Int.reduceAdd, Int.reduceMul, Int.reduceSub, Int.reduceLT, Int.reduceLE, Int.reduceEq, Nat.zero_add, Int.zero_add, big_eq, true_and, and_true, and_self, dSub_int, dAdd_int, dAddI_int, dLt_int, dLe_int, dGt_int, dGe_int, dEqD_int, bInt_int, bLen_lst, bLen_tup, bMin_int, bMax_int, bAbs_int, dIs_non, dIs_int, dIs_nn, Bool.not_true, Bool.not_false, decide_true, decide_false, reduceIte, Bool.false_eq_true, if_false, if_true, iSeq_lst, iSeq_tup, iSeq_rdl, iEnu_lst, iEnu_tup]
    rw [dMod_int (by omega)]
    simp (implicitDefEqProofs := false) only [↓w_srtT, ↓w_par2, ↓w_par3, ↓w_setd, ↓w_dict1, ↓w_maxDf, ↓w_slT, ↓w_addT, ↓w_dictT, ↓w_dictI, ↓w_get, ↓w_lrg1T, ↓w_lrg2T, ↓w_lrg1, ↓w_lrg2, ↓w_pop0, ↓w_lcT, ↓w_mth, ↓w_calm, ↓w_tryM, ↓w_tm0, ↓w_tmN, ↓w_tmS, ↓w_seq, ↓w_next, ↓w_break, ↓w_cont, ↓w_retN, ↓w_asg, ↓w_expr, ↓w_ret, ↓w_if, ↓w_asgG, ↓w_for, ↓w_put, ↓w_aug, ↓w_augS, ↓w_raise0, ↓w_raise1, ↓w_raise2, ↓w_try, ↓w_tryAs, ↓w_var, ↓w_c, ↓w_op, ↓w_chain, ↓w_notV, ↓w_andV, ↓w_orV, ↓w_ifE, ↓w_tst, ↓w_not, ↓w_and, ↓w_or, ↓w_yes, ↓w_nil, ↓w_cons, ↓w_tup, ↓w_lst, ↓w_lstT, ↓w_cb, ↓w_call, ↓w_callK, ↓w_neg, ↓w_no, ↓w_pt, ↓w_sl, ↓w_fld, ↓w_src, ↓w_rng, ↓w_enu, ↓w_listT, ↓w_app, ↓w_lc, ↓w_xf, ↓w_fldT, ↓w_make, ↓w_makeL, ↓w_run, ↓w_cut, ↓w_pure, ↓w_drop, nth2_eq, nth3_eq, w_ok, w_ex, w_nx, w_rt, w_bk, w_ct, w_exS, w_some, w_v, w_tr, w_fa, w_tb, w_ti, w_tn, w_L, w_L0, wb_not, cn_f, startD, arr, gN_eq, gTp, gTl, gCn, gNl, Option.bind_some, List.filterMap_cons, List.filterMap_nil, List.map_cons, List.map_nil, List.replicate_succ, List.replicate_zero, List.cons_append, List.nil_append, List.getElem?_cons_zero, List.getElem?_cons_succ, List.set_cons_zero, List.set_cons_succ, List.length_cons, List.length_nil, Nat.reduceAdd, Nat.reduceSub, Nat.reduceLeDiff, Nat.reduceEqDiff, Int.reducePow, Int.reduceToNat, Int.reduceNeg, Int.reduceAdd, Int.reduceMul, Int.reduceSub, Int.reduceLT, Int.reduceLE, Int.reduceEq, Nat.zero_add, Int.zero_add, big_eq, true_and, and_true, and_self, dSub_int, dAdd_int, dAddI_int, dLt_int, dLe_int, dGt_int, dGe_int, dEqD_int, bInt_int, bLen_lst, bLen_tup, bMin_int, bMax_int, bAbs_int, dIs_non, dIs_int, dIs_nn, Bool.not_true, Bool.not_false, decide_true, decide_false, reduceIte, Bool.false_eq_true, if_false, if_true, iSeq_lst, iSeq_tup, iSeq_rdl, iEnu_lst, iEnu_tup]
    by_cases hz : y % M.gap = 0
    · simp (implicitDefEqProofs := false) only [hz, fld_gap, ↓w_srtT, ↓w_par2, ↓w_par3, ↓w_setd, ↓w_dict1, ↓w_maxDf, ↓w_slT, ↓w_addT, ↓w_dictT, ↓w_dictI, ↓w_get, ↓w_lrg1T, ↓w_lrg2T, ↓w_lrg1, ↓w_lrg2, ↓w_pop0, ↓w_lcT, ↓w_mth, ↓w_calm, ↓w_tryM, ↓w_tm0, ↓w_tmN, ↓w_tmS, ↓w_seq, ↓w_next, ↓w_break, ↓w_cont, ↓w_retN, ↓w_asg, ↓w_expr, ↓w_ret, ↓w_if, ↓w_asgG, ↓w_for, ↓w_put, ↓w_aug, ↓w_augS, ↓w_raise0, ↓w_raise1, ↓w_raise2, ↓w_try, ↓w_tryAs, ↓w_var, ↓w_c, ↓w_op, ↓w_chain, ↓w_notV, ↓w_andV, ↓w_orV, ↓w_ifE, ↓w_tst, ↓w_not, ↓w_and, ↓w_or, ↓w_yes, ↓w_nil, ↓w_cons, ↓w_tup, ↓w_lst, ↓w_lstT, ↓w_cb, ↓w_call, ↓w_callK, ↓w_neg, ↓w_no, ↓w_pt, ↓w_sl, ↓w_fld, ↓w_src, ↓w_rng, ↓w_enu, ↓w_listT, ↓w_app, ↓w_lc, ↓w_xf, ↓w_fldT, ↓w_make, ↓w_makeL, ↓w_run, ↓w_cut, ↓w_pure, ↓w_drop, nth2_eq, nth3_eq, w_ok, w_ex, w_nx, w_rt, w_bk, w_ct, w_exS, w_some, w_v, w_tr, w_fa, w_tb, w_ti, w_tn, w_L, w_L0, wb_not, cn_f, startD, arr, gN_eq, gTp, gTl, gCn, gNl, Option.bind_some, List.filterMap_cons, List.filterMap_nil, List.map_cons, List.map_nil, List.replicate_succ, List.replicate_zero, List.cons_append, List.nil_append, List.getElem?_cons_zero, List.getElem?_cons_succ, List.set_cons_zero, List.set_cons_succ, List.length_cons, List.length_nil, Nat.reduceAdd, Nat.reduceSub, Nat.reduceLeDiff, Nat.reduceEqDiff, Int.reducePow, Int.reduceToNat, Int.reduceNeg, Int.reduceAdd, Int.reduceMul, Int.reduceSub, Int.reduceLT, Int.reduceLE, Int.reduceEq, Nat.zero_add, Int.zero_add, big_eq, true_and, and_true, and_self, dSub_int, dAdd_int, dAddI_int, dLt_int, dLe_int, dGt_int, dGe_int, dEqD_int, bInt_int, bLen_lst, bLen_tup, bMin_int, bMax_int, bAbs_int, dIs_non, dIs_int, dIs_nn, Bool.not_true, Bool.not_false, decide_true, decide_false, reduceIte, Bool.false_eq_true, if_false, if_true, iSeq_lst, iSeq_tup, iSeq_rdl, iEnu_lst, iEnu_tup]
      rw [dDiv_small (by omega) (by omega)]
      have hm : y / M.gap < 10 ^ 25 := by
        have : y / M.gap ≤ 3000000000000 := Int.ediv_le_of_le_mul (by omega) (by omega)
        omega
      simp (implicitDefEqProofs := false) only [tuplesof_ok ht hd hm, ↓w_srtT, ↓w_par2, ↓w_par3, ↓w_setd, ↓w_dict1, ↓w_maxDf, ↓w_slT, ↓w_addT, ↓w_dictT, ↓w_dictI, ↓w_get, ↓w_lrg1T, ↓w_lrg2T, ↓w_lrg1, ↓w_lrg2, ↓w_pop0, ↓w_lcT, ↓w_mth, ↓w_calm, ↓w_tryM, ↓w_tm0, ↓w_tmN, ↓w_tmS, ↓w_seq, ↓w_next, ↓w_break, ↓w_cont, ↓w_retN, ↓w_asg, ↓w_expr, ↓w_ret, ↓w_if, ↓w_asgG, ↓w_for, ↓w_put, ↓w_aug, ↓w_augS, ↓w_raise0, ↓w_raise1, ↓w_raise2, ↓w_try, ↓w_tryAs, ↓w_var, ↓w_c, ↓w_op, ↓w_chain, ↓w_notV, ↓w_andV, ↓w_orV, ↓w_ifE, ↓w_tst, ↓w_not, ↓w_and, ↓w_or, ↓w_yes, ↓w_nil, ↓w_cons, ↓w_tup, ↓w_lst, ↓w_lstT, ↓w_cb, ↓w_call, ↓w_callK, ↓w_neg, ↓w_no, ↓w_pt, ↓w_sl, ↓w_fld, ↓w_src, ↓w_rng, ↓w_enu, ↓w_listT, ↓w_app, ↓w_lc, ↓w_xf, ↓w_fldT, ↓w_make, ↓w_makeL, ↓w_run, ↓w_cut, ↓w_pure, ↓w_drop, nth2_eq, nth3_eq, w_ok, w_ex, w_nx, w_rt, w_bk, w_ct, w_exS, w_some, w_v, w_tr, w_fa, w_tb, w_ti, w_tn, w_L, w_L0, wb_not, cn_f, startD, arr, gN_eq, gTp, gTl, gCn, gNl, Option.bind_some, List.filterMap_cons, List.filterMap_nil, List.map_cons, List.map_nil, List.replicate_succ, List.replicate_zero, List.cons_append, List.nil_append, List.getElem?_cons_zero, List.getElem?_cons_succ, List.set_cons_zero, List.set_cons_succ, List.length_cons, List.length_nil, Nat.reduceAdd, Nat.reduceSub, Nat.reduceLeDiff, Nat.reduceEqDiff, Int.reducePow, Int.reduceToNat, Int.reduceNeg, Int.reduceAdd, Int.reduceMul, Int.reduceSub, Int.reduceLT, Int.reduceLE, Int.reduceEq, Nat.zero_add, Int.zero_add, big_eq, true_and, and_true, and_self, dSub_int, dAdd_int, dAddI_int, dLt_int, dLe_int, dGt_int, dGe_int, dEqD_int, bInt_int, bLen_lst, bLen_tup, bMin_int, bMax_int, bAbs_int, dIs_non, dIs_int, dIs_nn, Bool.not_true, Bool.not_false, decide_true, decide_false, reduceIte, Bool.false_eq_true, if_false, if_true, iSeq_lst, iSeq_tup, iSeq_rdl, iEnu_lst, iEnu_tup]
      rw [← ey]
      unfold KJ
      rw [div_pred hM hz]
    · simp (implicitDefEqProofs := false) only [hz, ↓w_srtT, ↓w_par2, ↓w_par3, ↓w_setd, ↓w_dict1, ↓w_maxDf, ↓w_slT, ↓w_addT, ↓w_dictT, ↓w_dictI, ↓w_get, ↓w_lrg1T, ↓w_lrg2T, ↓w_lrg1, ↓w_lrg2, ↓w_pop0, ↓w_lcT, ↓w_mth, ↓w_calm, ↓w_tryM, ↓w_tm0, ↓w_tmN, ↓w_tmS, ↓w_seq, ↓w_next, ↓w_break, ↓w_cont, ↓w_retN, ↓w_asg, ↓w_expr, ↓w_ret, ↓w_if, ↓w_asgG, ↓w_for, ↓w_put, ↓w_aug, ↓w_augS, ↓w_raise0, ↓w_raise1, ↓w_raise2, ↓w_try, ↓w_tryAs, ↓w_var, ↓w_c, ↓w_op, ↓w_chain, ↓w_notV, ↓w_andV, ↓w_orV, ↓w_ifE, ↓w_tst, ↓w_not, ↓w_and, ↓w_or, ↓w_yes, ↓w_nil, ↓w_cons, ↓w_tup, ↓w_lst, ↓w_lstT, ↓w_cb, ↓w_call, ↓w_callK, ↓w_neg, ↓w_no, ↓w_pt, ↓w_sl, ↓w_fld, ↓w_src, ↓w_rng, ↓w_enu, ↓w_listT, ↓w_app, ↓w_lc, ↓w_xf, ↓w_fldT, ↓w_make, ↓w_makeL, ↓w_run, ↓w_cut, ↓w_pure, ↓w_drop, nth2_eq, nth3_eq, w_ok, w_ex, w_nx, w_rt, w_bk, w_ct, w_exS, w_some, w_v, w_tr, w_fa, w_tb, w_ti, w_tn, w_L, w_L0, wb_not, cn_f, startD, arr, gN_eq, gTp, gTl, gCn, gNl, Option.bind_some, List.filterMap_cons, List.filterMap_nil, List.map_cons, List.map_nil, List.replicate_succ, List.replicate_zero, List.cons_append, List.nil_append, List.getElem?_cons_zero, List.getElem?_cons_succ, List.set_cons_zero, List.set_cons_succ, List.length_cons, List.length_nil, Nat.reduceAdd, Nat.reduceSub, Nat.reduceLeDiff, Nat.reduceEqDiff, Int.reducePow, Int.reduceToNat, Int.reduceNeg, Int.reduceAdd, Int.reduceMul, Int.reduceSub, Int.reduceLT, Int.reduceLE, Int.reduceEq, Nat.zero_add, Int.zero_add, big_eq, true_and, and_true, and_self, dSub_int, dAdd_int, dAddI_int, dLt_int, dLe_int, dGt_int, dGe_int, dEqD_int, bInt_int, bLen_lst, bLen_tup, bMin_int, bMax_int, bAbs_int, dIs_non, dIs_int, dIs_nn, Bool.not_true, Bool.not_false, decide_true, decide_false, reduceIte, Bool.false_eq_true, if_false, if_true, iSeq_lst, iSeq_tup, iSeq_rdl, iEnu_lst, iEnu_tup]
      rw [← ey]
      unfold KJ
      rw [div_pred' hM hz, Int.sub_self]
def LY (M : Mc) (t : Option Nat) (x : Int) : Int := smZ (x / M.letter + 1).toNat fun d => KJ M t d (x - d * M.letter)
theorem LY_eq (hM : M.Ok) (x : Int) : LY M t x = FR M t x - FR M t (x - 1) := by
  have l0 := hM.letter0
  have : (x - 1) / M.letter ≤ x / M.letter := Int.ediv_le_ediv (by omega) (by omega)
  unfold LY
  rw [FR_ext hM (x := x - 1) (N := (x / M.letter + 1).toNat) (by omega)]
  unfold FR
  rw [← smZ_sub]
  refine smZ_congr fun d _ => ?_
  unfold KJ
  rw [show x - 1 - d * M.letter = x - d * M.letter - 1 by omega]
def LYs (M : Mc) (t : Option Nat) (x : Int) : List Int → Int
  | [] => 0
  | r :: rs => LY M t (x - r) + LYs M t x rs
theorem LYs_eq (hM : M.Ok) (x : Int) : ∀ rs : List Int, LYs M t x rs = FRs M t x rs - FRs M t (x - 1) rs
  | [] => rfl
  | r :: rs => by
    rw [LYs, FRs, FRs, LY_eq hM, LYs_eq hM x rs, show x - r - 1 = x - 1 - r by omega]
    omega
end Pg

/-! rows of turns of just one sum -/
namespace Mt
/-- how many rows of d turns, each below t, have just the sum m -/
def ex (t : Option Nat) : Nat → Nat → Nat
  | 0, m => if m = 0 then 1 else 0
  | d + 1, m => sm (cap t m) fun i => ex t d (m - i)
theorem ex_s (t : Option Nat) (d m : Nat) : ex t (d + 1) m = sm (cap t m) fun i => ex t d (m - i) := rfl
theorem cnt_ex (t : Option Nat) (ht : t ≠ some 0) : ∀ d m : Nat, cnt t d m = sm (m + 1) fun s => ex t d s
  | 0, m => by
    rw [cnt_0, sm_front]
    have : sm m (fun i => ex t 0 (i + 1)) = 0 := by
      have e : sm m (fun i => ex t 0 (i + 1)) = sm m fun _ => 0 := sm_congr fun i _ => rfl
      rw [e, sm_const, Nat.mul_zero]
    rw [this]
    rfl
  | d + 1, 0 => by
    rw [cnt_s0 t ht, sm, sm]
    have e : cap t 0 = 1 := by
      cases t with
      | none => rfl
      | some t =>
        have : t ≠ 0 := fun h => ht (by rw [h])
        unfold cap
        dsimp only
        omega
    have ih := cnt_ex t ht d 0
    rw [cnt_s0 t ht, sm, sm] at ih
    rw [ex_s, e, sm, sm, Nat.sub_zero]
    omega
  | d + 1, m + 1 => by
    have ih1 := cnt_ex t ht (d + 1) m
    have r := cnt_rec t ht d m
    rw [sm, ← ih1, ex_s]
    -- the sum telescopes
    have tel : ∀ n, n ≤ m + 2 → sm n (fun i => ex t d (m + 1 - i)) + (if n ≤ m + 1 then cnt t d (m + 1 - n) else 0) = cnt t d (m + 1) := fun n => by
      induction n with
      | zero => intro _; simp [sm]
      | succ n ih =>
        intro hn
        have h1 := ih (by omega)
        rw [if_pos (by omega)] at h1
        rw [sm]
        have h2 := cnt_ex t ht d (m + 1 - n)
        by_cases hm : n + 1 ≤ m + 1
        · rw [if_pos hm]
          have h3 := cnt_ex t ht d (m + 1 - (n + 1))
          rw [show m + 1 - n = m + 1 - (n + 1) + 1 by omega, sm, ← h3, ← show m + 1 - n = m + 1 - (n + 1) + 1 by omega] at h2
          omega
        · rw [if_neg hm]
          have e0 : m + 1 - n = 0 := by omega
          rw [e0] at h1 h2 ⊢
          rw [sm, sm] at h2
          omega
    have hc : cap t (m + 1) ≤ m + 2 := by
      cases t with
      | none => exact Nat.le_refl _
      | some t => unfold cap; dsimp only; omega
    have tl := tel (cap t (m + 1)) hc
    have hb : (if cap t (m + 1) ≤ m + 1 then cnt t d (m + 1 - cap t (m + 1)) else 0) = back t d (m + 1) := by
      cases t with
      | none =>
        rw [if_neg (by unfold cap; dsimp only; omega)]
        rfl
      | some t =>
        unfold back cap
        dsimp only
        by_cases h : t ≤ m + 1
        · rw [if_pos (by omega), if_pos h, Nat.min_eq_left (by omega)]
        · rw [if_neg (by omega), if_neg h]
    omega
theorem cz_ex {t : Option Nat} (ht : t ≠ some 0) (d m : Nat) : cz t d m - cz t d ((m : Int) - 1) = ex t d m := by
  cases m with
  | zero =>
    rw [cz_neg (show (((0 : Nat) : Int) - 1 < 0) by omega), cz_nat, cnt_ex t ht, sm, sm]
    omega
  | succ m =>
    rw [show ((m + 1 : Nat) : Int) - 1 = (m : Nat) by omega, cz_nat, cz_nat, cnt_ex t ht d (m + 1), cnt_ex t ht d m, sm]
    omega
end Mt
namespace Pg
open Mt
variable {M : Mc} {t : Option Nat}
theorem KJ_ex (hM : M.Ok) (ht : OkT t) {d : Nat} {y : Int} (h0 : 0 ≤ y) (hz : y % M.gap = 0) : KJ M t d y = ex t d (y / M.gap).toNat := by
  have g0 := hM.gap0
  have hq : 0 ≤ y / M.gap := Int.ediv_nonneg h0 (by omega)
  unfold KJ
  rw [div_pred hM hz, ← cz_ex ht.ne, show (((y / M.gap).toNat : Nat) : Int) = y / M.gap by omega]
theorem KJ_off (hM : M.Ok) {d : Nat} {y : Int} (hz : ¬ y % M.gap = 0) : KJ M t d y = 0 := by
  unfold KJ
  rw [div_pred' hM hz, Int.sub_self]
end Pg

/-! the next time at which a hand becomes known -/
namespace Pg
open PySem L2 SI Mt
variable {c : Cl} {M : Mc} {t : Option Nat}
/-- z is the time of a hand of depth d below the root r -/
def Hit (M : Mc) (t : Option Nat) (r : Int) (d : Nat) (z : Int) : Prop := 0 < KJ M t d (z - r - d * M.letter)
/-- y is the next time behind x -/
structure NX (M : Mc) (t : Option Nat) (rs : List Int) (x y : Int) : Prop where
  lt : x < y
  le : y ≤ hor M t
  pos : 0 < LYs M t y rs
  zero : ∀ z, x < z → z < y → LYs M t z rs = 0
/-- what is known of best -/
structure Bst (M : Mc) (t : Option Nat) (rs : List Int) (x b : Int) (P : Nat → Nat → Prop) : Prop where
  le : b ≤ hor M t + 1
  hit : b = hor M t + 1 ∨ (x < b ∧ 0 < LYs M t b rs)
  all : ∀ (i : Nat) (hi : i < rs.length) (d : Nat) (z : Int), P i d → x < z → z ≤ hor M t → Hit M t rs[i] d z → b ≤ z
end Pg

/-! wrong turns, roots and times -/
namespace Pg
open PySem L2 SI Mt
variable {c : Cl} {M : Mc} {t : Option Nat}
def valD : D → Int
  | .int i => i
  | _ => 0
end Pg

/-! names: wrong_at, checked_name, time_of, is_name, known_at -/
namespace SI
open PySem L2 Pg Mt
variable {c : Cl} {M : Mc} {t : Option Nat}
def oI : Option Int → D
  | none => .non
  | some i => .int i
def lastN (t : Option Nat) : Int := match t with
  | none => 1000000000000000
  | some k => min 1000000000000000 ((k : Int) - 1)
theorem lastN_le (t : Option Nat) : lastN t ≤ 1000000000000000 := by
  cases t <;> simp only [lastN] <;> omega
/-- the first wrong item -/
def wdue (last : Int) : List D → Nat → Option Nat
  | [], _ => none
  | x :: xs, i => if gb x 0 last = true then wdue last xs (i + 1) else some i
theorem wdue_at {last : Int} : ∀ {xs : List D} {k i : Nat} (hi : i < xs.length), (∀ j (hj : j < xs.length), j < i → gb xs[j] 0 last = true) → gb xs[i] 0 last = false → wdue last xs k = some (k + i)
  | x :: xs, k, 0, hi, _, h => by
    have h' : gb x 0 last = false := h
    rw [wdue, h']
    simp
  | x :: xs, k, i + 1, hi, ha, h => by
    have h0 : gb x 0 last = true := ha 0 (by simp) (by omega)
    rw [wdue, h0]
    simp only [if_true]
    rw [wdue_at (xs := xs) (k := k + 1) (i := i) (by simpa using hi) (fun j hj hji => ha (j + 1) (by simpa using hj) (by omega)) h]
    congr 1
    omega
theorem wdue_all {last : Int} : ∀ {xs : List D} {k : Nat}, (∀ j (hj : j < xs.length), gb xs[j] 0 last = true) → wdue last xs k = none
  | [], _, _ => rfl
  | x :: xs, k, ha => by
    have h0 : gb x 0 last = true := ha 0 (by simp)
    rw [wdue, h0]
    simp only [if_true]
    exact wdue_all fun j hj => ha (j + 1) (by simpa using hj)
def nI (n : Nat) : D := .int n
def wat (t : Option Nat) (many : Int) (d : D) : Option Int := match d with
  | .tup (x :: xs) => if 200 ≤ xs.length then some (-1) else if gb x 0 (many - 1) = true then (wdue (lastN t) xs 1).map fun k => (k : Int) else some 0
  | _ => some (-1)
/-- no tuple -/
def NoTp (c : Cl) (d : D) : Prop := ∀ s, bIsi c.cs s [d, .ty "tuple"] = some (.bl false)
inductive NmC (c : Cl) : D → Prop
  | no {d : D} (h : NoTp c d) : NmC c d
  | tp {xs : List D} (hx : ∀ x ∈ xs, Th c x) : NmC c (.tup xs)
theorem isi_tup (xs : List D) (s : S) : bIsi c.cs s [.tup xs, .ty "tuple"] = some (.bl true) := rfl
theorem NoTp.ne {xs : List D} (h : NoTp c (.tup xs)) : False := by
  have := h []
  rw [isi_tup] at this
  simp at this
theorem wat_no {d : D} (h : NoTp c d) (t : Option Nat) (many : Int) : wat t many d = some (-1) := by
  unfold wat
  split
  · exact h.ne.elim
  · rfl
theorem dIx_cons (s : S) (x : D) (xs : List D) {i : Nat} (hi : i < xs.length) : dIx s (.tup (x :: xs)) (.int (1 + (i : Int))) = some xs[i] := by
  rw [dIx_tup, atI_in (by omega) (by simp only [List.length_cons]; omega), show (1 + (i : Int)).toNat = i + 1 by omega, List.getElem?_cons_succ, List.getElem?_eq_getElem hi]
theorem wrong_ok {d : D} (h : NmC c d) {many : Int} (s : S) : G_wrong_at c [d, tD t, .int many] s = .ok (oI (wat t many d)) s := by
  apply eq_ok
  unfold G_wrong_at
  cases h with
  | no h =>
    rw [wat_no h]
    simp (implicitDefEqProofs := false) only [h s, ↓w_srtT, ↓w_par2, ↓w_par3, ↓w_setd, ↓w_dict1, ↓w_maxDf, ↓w_slT, ↓w_addT, ↓w_dictT, ↓w_dictI, ↓w_get, ↓w_lrg1T, ↓w_lrg2T, ↓w_lrg1, ↓w_lrg2, ↓w_pop0, ↓w_lcT, ↓w_mth, ↓w_calm, ↓w_tryM, ↓w_tm0, ↓w_tmN, ↓w_tmS, ↓w_seq, ↓w_next, ↓w_break, ↓w_cont, ↓w_retN, ↓w_asg, ↓w_expr, ↓w_ret, ↓w_if, ↓w_asgG, ↓w_for, ↓w_put, ↓w_aug, ↓w_augS, ↓w_raise0, ↓w_raise1, ↓w_raise2, ↓w_try, ↓w_tryAs, ↓w_var, ↓w_c, ↓w_op, ↓w_chain, ↓w_notV, ↓w_andV, ↓w_orV, ↓w_ifE, ↓w_tst, ↓w_not, ↓w_and, ↓w_or, ↓w_yes, ↓w_nil, ↓w_cons, ↓w_tup, ↓w_lst, ↓w_lstT, ↓w_cb, ↓w_call, ↓w_callK, ↓w_neg, ↓w_no, ↓w_pt, ↓w_sl, ↓w_fld, ↓w_src, ↓w_rng, ↓w_enu, ↓w_listT, ↓w_app, ↓w_lc, ↓w_xf, ↓w_fldT, ↓w_make, ↓w_makeL, ↓w_run, ↓w_cut, ↓w_pure, ↓w_drop, nth2_eq, nth3_eq, w_ok, w_ex, w_nx, w_rt, w_bk, w_ct, w_exS, w_some, w_v, w_tr, w_fa, w_tb, w_ti, w_tn, w_L, w_L0, wb_not, cn_f, startD, arr, gN_eq, gTp, gTl, gCn, gNl, Option.bind_some, List.filterMap_cons, List.filterMap_nil, List.map_cons, List.map_nil, List.replicate_succ, List.replicate_zero, List.cons_append, List.nil_append, List.getElem?_cons_zero, List.getElem?_cons_succ, List.set_cons_zero, List.set_cons_succ, List.length_cons, List.length_nil, Nat.reduceAdd, Nat.reduceSub, Nat.reduceLeDiff, Nat.reduceEqDiff, Int.reducePow, Int.reduceToNat, Int.reduceNeg, Int.reduceAdd, Int.reduceMul, Int.reduceSub, Int.reduceLT, Int.reduceLE, Int.reduceEq, Nat.zero_add, Int.zero_add, big_eq, true_and, and_true, and_self, dSub_int, dAdd_int, dAddI_int, dLt_int, dLe_int, dGt_int, dGe_int, dEqD_int, bInt_int, bLen_lst, bLen_tup, bMin_int, bMax_int, bAbs_int, dIs_non, dIs_int, dIs_nn, Bool.not_true, Bool.not_false, decide_true, decide_false, reduceIte, Bool.false_eq_true, if_false, if_true, iSeq_lst, iSeq_tup, iSeq_rdl, iEnu_lst, iEnu_tup]
    rfl
  | tp hx =>
    rename_i xs
    cases xs with
    | nil =>
      simp (implicitDefEqProofs := false) only [isi_tup, show bLen s [D.tup []] = some (.int 0) from rfl, ↓w_srtT, ↓w_par2, ↓w_par3, ↓w_setd, ↓w_dict1, ↓w_maxDf, ↓w_slT, ↓w_addT, ↓w_dictT, ↓w_dictI, ↓w_get, ↓w_lrg1T, ↓w_lrg2T, ↓w_lrg1, ↓w_lrg2, ↓w_pop0, ↓w_lcT, ↓w_mth, ↓w_calm, ↓w_tryM, ↓w_tm0, ↓w_tmN, ↓w_tmS, ↓w_seq, ↓w_next, ↓w_break, ↓w_cont, ↓w_retN, ↓w_asg, ↓w_expr, ↓w_ret, ↓w_if, ↓w_asgG, ↓w_for, ↓w_put, ↓w_aug, ↓w_augS, ↓w_raise0, ↓w_raise1, ↓w_raise2, ↓w_try, ↓w_tryAs, ↓w_var, ↓w_c, ↓w_op, ↓w_chain, ↓w_notV, ↓w_andV, ↓w_orV, ↓w_ifE, ↓w_tst, ↓w_not, ↓w_and, ↓w_or, ↓w_yes, ↓w_nil, ↓w_cons, ↓w_tup, ↓w_lst, ↓w_lstT, ↓w_cb, ↓w_call, ↓w_callK, ↓w_neg, ↓w_no, ↓w_pt, ↓w_sl, ↓w_fld, ↓w_src, ↓w_rng, ↓w_enu, ↓w_listT, ↓w_app, ↓w_lc, ↓w_xf, ↓w_fldT, ↓w_make, ↓w_makeL, ↓w_run, ↓w_cut, ↓w_pure, ↓w_drop, nth2_eq, nth3_eq, w_ok, w_ex, w_nx, w_rt, w_bk, w_ct, w_exS, w_some, w_v, w_tr, w_fa, w_tb, w_ti, w_tn, w_L, w_L0, wb_not, cn_f, startD, arr, gN_eq, gTp, gTl, gCn, gNl, Option.bind_some, List.filterMap_cons, List.filterMap_nil, List.map_cons, List.map_nil, List.replicate_succ, List.replicate_zero, List.cons_append, List.nil_append, List.getElem?_cons_zero, List.getElem?_cons_succ, List.set_cons_zero, List.set_cons_succ, List.length_cons, List.length_nil, Nat.reduceAdd, Nat.reduceSub, Nat.reduceLeDiff, Nat.reduceEqDiff, Int.reducePow, Int.reduceToNat, Int.reduceNeg, Int.reduceAdd, Int.reduceMul, Int.reduceSub, Int.reduceLT, Int.reduceLE, Int.reduceEq, Nat.zero_add, Int.zero_add, big_eq, true_and, and_true, and_self, dSub_int, dAdd_int, dAddI_int, dLt_int, dLe_int, dGt_int, dGe_int, dEqD_int, bInt_int, bLen_lst, bLen_tup, bMin_int, bMax_int, bAbs_int, dIs_non, dIs_int, dIs_nn, Bool.not_true, Bool.not_false, decide_true, decide_false, reduceIte, Bool.false_eq_true, if_false, if_true, iSeq_lst, iSeq_tup, iSeq_rdl, iEnu_lst, iEnu_tup]
      rfl
    | cons x xs =>
      have ln : bLen s [.tup (x :: xs)] = some (.int (xs.length + 1 : Nat)) := rfl
      rw [wat]
      by_cases h2 : 200 ≤ xs.length
      · rw [if_pos h2]
        simp (implicitDefEqProofs := false) only [isi_tup, ln, show (1 : Int) ≤ ((xs.length + 1 : Nat) : Int) by omega, show ¬ ((xs.length + 1 : Nat) : Int) ≤ 200 by omega, ↓w_srtT, ↓w_par2, ↓w_par3, ↓w_setd, ↓w_dict1, ↓w_maxDf, ↓w_slT, ↓w_addT, ↓w_dictT, ↓w_dictI, ↓w_get, ↓w_lrg1T, ↓w_lrg2T, ↓w_lrg1, ↓w_lrg2, ↓w_pop0, ↓w_lcT, ↓w_mth, ↓w_calm, ↓w_tryM, ↓w_tm0, ↓w_tmN, ↓w_tmS, ↓w_seq, ↓w_next, ↓w_break, ↓w_cont, ↓w_retN, ↓w_asg, ↓w_expr, ↓w_ret, ↓w_if, ↓w_asgG, ↓w_for, ↓w_put, ↓w_aug, ↓w_augS, ↓w_raise0, ↓w_raise1, ↓w_raise2, ↓w_try, ↓w_tryAs, ↓w_var, ↓w_c, ↓w_op, ↓w_chain, ↓w_notV, ↓w_andV, ↓w_orV, ↓w_ifE, ↓w_tst, ↓w_not, ↓w_and, ↓w_or, ↓w_yes, ↓w_nil, ↓w_cons, ↓w_tup, ↓w_lst, ↓w_lstT, ↓w_cb, ↓w_call, ↓w_callK, ↓w_neg, ↓w_no, ↓w_pt, ↓w_sl, ↓w_fld, ↓w_src, ↓w_rng, ↓w_enu, ↓w_listT, ↓w_app, ↓w_lc, ↓w_xf, ↓w_fldT, ↓w_make, ↓w_makeL, ↓w_run, ↓w_cut, ↓w_pure, ↓w_drop, nth2_eq, nth3_eq, w_ok, w_ex, w_nx, w_rt, w_bk, w_ct, w_exS, w_some, w_v, w_tr, w_fa, w_tb, w_ti, w_tn, w_L, w_L0, wb_not, cn_f, startD, arr, gN_eq, gTp, gTl, gCn, gNl, Option.bind_some, List.filterMap_cons, List.filterMap_nil, List.map_cons, List.map_nil, List.replicate_succ, List.replicate_zero, List.cons_append, List.nil_append, List.getElem?_cons_zero, List.getElem?_cons_succ, List.set_cons_zero, List.set_cons_succ, List.length_cons, List.length_nil, Nat.reduceAdd, Nat.reduceSub, Nat.reduceLeDiff, Nat.reduceEqDiff, Int.reducePow, Int.reduceToNat, Int.reduceNeg, Int.reduceAdd, Int.reduceMul, Int.reduceSub, Int.reduceLT, Int.reduceLE, Int.reduceEq, Nat.zero_add, Int.zero_add, big_eq, true_and, and_true, and_self, dSub_int, dAdd_int, dAddI_int, dLt_int, dLe_int, dGt_int, dGe_int, dEqD_int, bInt_int, bLen_lst, bLen_tup, bMin_int, bMax_int, bAbs_int, dIs_non, dIs_int, dIs_nn, Bool.not_true, Bool.not_false, decide_true, decide_false, reduceIte, Bool.false_eq_true, if_false, if_true, iSeq_lst, iSeq_tup, iSeq_rdl, iEnu_lst, iEnu_tup]
        rfl
      · rw [if_neg h2]
        have thx := hx x (List.mem_cons_self ..)
        cases hg : gb x 0 (many - 1) with
        | false =>
          simp (implicitDefEqProofs := false) only [isi_tup, ln, show (1 : Int) ≤ ((xs.length + 1 : Nat) : Int) by omega, show ((xs.length + 1 : Nat) : Int) ≤ 200 by omega, it0, between_ok thx, hg, ↓w_srtT, ↓w_par2, ↓w_par3, ↓w_setd, ↓w_dict1, ↓w_maxDf, ↓w_slT, ↓w_addT, ↓w_dictT, ↓w_dictI, ↓w_get, ↓w_lrg1T, ↓w_lrg2T, ↓w_lrg1, ↓w_lrg2, ↓w_pop0, ↓w_lcT, ↓w_mth, ↓w_calm, ↓w_tryM, ↓w_tm0, ↓w_tmN, ↓w_tmS, ↓w_seq, ↓w_next, ↓w_break, ↓w_cont, ↓w_retN, ↓w_asg, ↓w_expr, ↓w_ret, ↓w_if, ↓w_asgG, ↓w_for, ↓w_put, ↓w_aug, ↓w_augS, ↓w_raise0, ↓w_raise1, ↓w_raise2, ↓w_try, ↓w_tryAs, ↓w_var, ↓w_c, ↓w_op, ↓w_chain, ↓w_notV, ↓w_andV, ↓w_orV, ↓w_ifE, ↓w_tst, ↓w_not, ↓w_and, ↓w_or, ↓w_yes, ↓w_nil, ↓w_cons, ↓w_tup, ↓w_lst, ↓w_lstT, ↓w_cb, ↓w_call, ↓w_callK, ↓w_neg, ↓w_no, ↓w_pt, ↓w_sl, ↓w_fld, ↓w_src, ↓w_rng, ↓w_enu, ↓w_listT, ↓w_app, ↓w_lc, ↓w_xf, ↓w_fldT, ↓w_make, ↓w_makeL, ↓w_run, ↓w_cut, ↓w_pure, ↓w_drop, nth2_eq, nth3_eq, w_ok, w_ex, w_nx, w_rt, w_bk, w_ct, w_exS, w_some, w_v, w_tr, w_fa, w_tb, w_ti, w_tn, w_L, w_L0, wb_not, cn_f, startD, arr, gN_eq, gTp, gTl, gCn, gNl, Option.bind_some, List.filterMap_cons, List.filterMap_nil, List.map_cons, List.map_nil, List.replicate_succ, List.replicate_zero, List.cons_append, List.nil_append, List.getElem?_cons_zero, List.getElem?_cons_succ, List.set_cons_zero, List.set_cons_succ, List.length_cons, List.length_nil, Nat.reduceAdd, Nat.reduceSub, Nat.reduceLeDiff, Nat.reduceEqDiff, Int.reducePow, Int.reduceToNat, Int.reduceNeg, Int.reduceAdd, Int.reduceMul, Int.reduceSub, Int.reduceLT, Int.reduceLE, Int.reduceEq, Nat.zero_add, Int.zero_add, big_eq, true_and, and_true, and_self, dSub_int, dAdd_int, dAddI_int, dLt_int, dLe_int, dGt_int, dGe_int, dEqD_int, bInt_int, bLen_lst, bLen_tup, bMin_int, bMax_int, bAbs_int, dIs_non, dIs_int, dIs_nn, Bool.not_true, Bool.not_false, decide_true, decide_false, reduceIte, Bool.false_eq_true, if_false, if_true, iSeq_lst, iSeq_tup, iSeq_rdl, iEnu_lst, iEnu_tup]
          rfl
        | true =>
          simp (implicitDefEqProofs := false) only [isi_tup, ln, show (1 : Int) ≤ ((xs.length + 1 : Nat) : Int) by omega, show ((xs.length + 1 : Nat) : Int) ≤ 200 by omega, ↓w_srtT, ↓w_par2, ↓w_par3, ↓w_setd, ↓w_dict1, ↓w_maxDf, ↓w_slT, ↓w_addT, ↓w_dictT, ↓w_dictI, ↓w_get, ↓w_lrg1T, ↓w_lrg2T, ↓w_lrg1, ↓w_lrg2, ↓w_pop0, ↓w_lcT, ↓w_mth, ↓w_calm, ↓w_tryM, ↓w_tm0, ↓w_tmN, ↓w_tmS, ↓w_next, ↓w_break, ↓w_cont, ↓w_retN, ↓w_asg, ↓w_expr, ↓w_ret, ↓w_if, ↓w_asgG, ↓w_for, ↓w_put, ↓w_aug, ↓w_augS, ↓w_raise0, ↓w_raise1, ↓w_raise2, ↓w_try, ↓w_tryAs, ↓w_var, ↓w_c, ↓w_op, ↓w_chain, ↓w_notV, ↓w_andV, ↓w_orV, ↓w_ifE, ↓w_tst, ↓w_not, ↓w_and, ↓w_or, ↓w_yes, ↓w_nil, ↓w_cons, ↓w_tup, ↓w_lst, ↓w_lstT, ↓w_cb, ↓w_call, ↓w_callK, ↓w_neg, ↓w_no, ↓w_pt, ↓w_sl, ↓w_fld, ↓w_src, ↓w_rng, ↓w_enu, ↓w_listT, ↓w_app, ↓w_lc, ↓w_xf, ↓w_fldT, ↓w_make, ↓w_makeL, ↓w_run, ↓w_cut, ↓w_pure, ↓w_drop, ↓wq_asg, ↓wq_asgG, ↓wq_expr, ↓wq_put, ↓wq_aug, ↓wq_augS, ↓wq_for, nth2_eq, nth3_eq, w_ok, w_ex, w_nx, w_rt, w_bk, w_ct, w_exS, w_some, w_v, w_tr, w_fa, w_tb, w_ti, w_tn, w_L, w_L0, wb_not, cn_f, startD, arr, gN_eq, gTp, gTl, gCn, gNl, Option.bind_some, List.filterMap_cons, List.filterMap_nil, List.map_cons, List.map_nil, List.replicate_succ, List.replicate_zero, List.cons_append, List.nil_append, List.getElem?_cons_zero, List.getElem?_cons_succ, List.set_cons_zero, List.set_cons_succ, List.length_cons, List.length_nil, Nat.reduceAdd, Nat.reduceSub, Nat.reduceLeDiff, Nat.reduceEqDiff, Int.reducePow, Int.reduceToNat, Int.reduceNeg, Int.reduceAdd, Int.reduceMul, Int.reduceSub, Int.reduceLT, Int.reduceLE, Int.reduceEq, Nat.zero_add, Int.zero_add, big_eq, true_and, and_true, and_self, dSub_int, dAdd_int, dAddI_int, dLt_int, dLe_int, dGt_int, dGe_int, dEqD_int, bInt_int, bLen_lst, bLen_tup, bMin_int, bMax_int, bAbs_int, dIs_non, dIs_int, dIs_nn, Bool.not_true, Bool.not_false, decide_true, decide_false, reduceIte, Bool.false_eq_true, if_false, if_true, iSeq_lst, iSeq_tup, iSeq_rdl, iEnu_lst, iEnu_tup]
          refine ws_cut (fun L s' => L = [some (.tup (x :: xs)), some (tD t), some (.int many), none, none] ∧ s = s') ?_ ?_
          · simp (implicitDefEqProofs := false) only [isi_tup, ln, show (1 : Int) ≤ ((xs.length + 1 : Nat) : Int) by omega, show ((xs.length + 1 : Nat) : Int) ≤ 200 by omega, ↓w_srtT, ↓w_par2, ↓w_par3, ↓w_setd, ↓w_dict1, ↓w_maxDf, ↓w_slT, ↓w_addT, ↓w_dictT, ↓w_dictI, ↓w_get, ↓w_lrg1T, ↓w_lrg2T, ↓w_lrg1, ↓w_lrg2, ↓w_pop0, ↓w_lcT, ↓w_mth, ↓w_calm, ↓w_tryM, ↓w_tm0, ↓w_tmN, ↓w_tmS, ↓w_seq, ↓w_next, ↓w_break, ↓w_cont, ↓w_retN, ↓w_asg, ↓w_expr, ↓w_ret, ↓w_if, ↓w_asgG, ↓w_for, ↓w_put, ↓w_aug, ↓w_augS, ↓w_raise0, ↓w_raise1, ↓w_raise2, ↓w_try, ↓w_tryAs, ↓w_var, ↓w_c, ↓w_op, ↓w_chain, ↓w_notV, ↓w_andV, ↓w_orV, ↓w_ifE, ↓w_tst, ↓w_not, ↓w_and, ↓w_or, ↓w_yes, ↓w_nil, ↓w_cons, ↓w_tup, ↓w_lst, ↓w_lstT, ↓w_cb, ↓w_call, ↓w_callK, ↓w_neg, ↓w_no, ↓w_pt, ↓w_sl, ↓w_fld, ↓w_src, ↓w_rng, ↓w_enu, ↓w_listT, ↓w_app, ↓w_lc, ↓w_xf, ↓w_fldT, ↓w_make, ↓w_makeL, ↓w_run, ↓w_cut, ↓w_pure, ↓w_drop, nth2_eq, nth3_eq, w_ok, w_ex, w_nx, w_rt, w_bk, w_ct, w_exS, w_some, w_v, w_tr, w_fa, w_tb, w_ti, w_tn, w_L, w_L0, wb_not, cn_f, startD, arr, gN_eq, gTp, gTl, gCn, gNl, Option.bind_some, List.filterMap_cons, List.filterMap_nil, List.map_cons, List.map_nil, List.replicate_succ, List.replicate_zero, List.cons_append, List.nil_append, List.getElem?_cons_zero, List.getElem?_cons_succ, List.set_cons_zero, List.set_cons_succ, List.length_cons, List.length_nil, Nat.reduceAdd, Nat.reduceSub, Nat.reduceLeDiff, Nat.reduceEqDiff, Int.reducePow, Int.reduceToNat, Int.reduceNeg, Int.reduceAdd, Int.reduceMul, Int.reduceSub, Int.reduceLT, Int.reduceLE, Int.reduceEq, Nat.zero_add, Int.zero_add, big_eq, true_and, and_true, and_self, dSub_int, dAdd_int, dAddI_int, dLt_int, dLe_int, dGt_int, dGe_int, dEqD_int, bInt_int, bLen_lst, bLen_tup, bMin_int, bMax_int, bAbs_int, dIs_non, dIs_int, dIs_nn, Bool.not_true, Bool.not_false, decide_true, decide_false, reduceIte, Bool.false_eq_true, if_false, if_true, iSeq_lst, iSeq_tup, iSeq_rdl, iEnu_lst, iEnu_tup]
          rintro L s' ⟨rfl, rfl⟩
          refine ws_cut (fun L s' => L = [some (.tup (x :: xs)), some (tD t), some (.int many), none, none] ∧ s = s') ?_ ?_
          · simp (implicitDefEqProofs := false) only [it0, between_ok thx, hg, ↓w_srtT, ↓w_par2, ↓w_par3, ↓w_setd, ↓w_dict1, ↓w_maxDf, ↓w_slT, ↓w_addT, ↓w_dictT, ↓w_dictI, ↓w_get, ↓w_lrg1T, ↓w_lrg2T, ↓w_lrg1, ↓w_lrg2, ↓w_pop0, ↓w_lcT, ↓w_mth, ↓w_calm, ↓w_tryM, ↓w_tm0, ↓w_tmN, ↓w_tmS, ↓w_seq, ↓w_next, ↓w_break, ↓w_cont, ↓w_retN, ↓w_asg, ↓w_expr, ↓w_ret, ↓w_if, ↓w_asgG, ↓w_for, ↓w_put, ↓w_aug, ↓w_augS, ↓w_raise0, ↓w_raise1, ↓w_raise2, ↓w_try, ↓w_tryAs, ↓w_var, ↓w_c, ↓w_op, ↓w_chain, ↓w_notV, ↓w_andV, ↓w_orV, ↓w_ifE, ↓w_tst, ↓w_not, ↓w_and, ↓w_or, ↓w_yes, ↓w_nil, ↓w_cons, ↓w_tup, ↓w_lst, ↓w_lstT, ↓w_cb, ↓w_call, ↓w_callK, ↓w_neg, ↓w_no, ↓w_pt, ↓w_sl, ↓w_fld, ↓w_src, ↓w_rng, ↓w_enu, ↓w_listT, ↓w_app, ↓w_lc, ↓w_xf, ↓w_fldT, ↓w_make, ↓w_makeL, ↓w_run, ↓w_cut, ↓w_pure, ↓w_drop, nth2_eq, nth3_eq, w_ok, w_ex, w_nx, w_rt, w_bk, w_ct, w_exS, w_some, w_v, w_tr, w_fa, w_tb, w_ti, w_tn, w_L, w_L0, wb_not, cn_f, startD, arr, gN_eq, gTp, gTl, gCn, gNl, Option.bind_some, List.filterMap_cons, List.filterMap_nil, List.map_cons, List.map_nil, List.replicate_succ, List.replicate_zero, List.cons_append, List.nil_append, List.getElem?_cons_zero, List.getElem?_cons_succ, List.set_cons_zero, List.set_cons_succ, List.length_cons, List.length_nil, Nat.reduceAdd, Nat.reduceSub, Nat.reduceLeDiff, Nat.reduceEqDiff, Int.reducePow, Int.reduceToNat, Int.reduceNeg, Int.reduceAdd, Int.reduceMul, Int.reduceSub, Int.reduceLT, Int.reduceLE, Int.reduceEq, Nat.zero_add, Int.zero_add, big_eq, true_and, and_true, and_self, dSub_int, dAdd_int, dAddI_int, dLt_int, dLe_int, dGt_int, dGe_int, dEqD_int, bInt_int, bLen_lst, bLen_tup, bMin_int, bMax_int, bAbs_int, dIs_non, dIs_int, dIs_nn, Bool.not_true, Bool.not_false, decide_true, decide_false, reduceIte, Bool.false_eq_true, if_false, if_true, iSeq_lst, iSeq_tup, iSeq_rdl, iEnu_lst, iEnu_tup]
          rintro L s' ⟨rfl, rfl⟩
          simp (implicitDefEqProofs := false) only [↓w_srtT, ↓w_par2, ↓w_par3, ↓w_setd, ↓w_dict1, ↓w_maxDf, ↓w_slT, ↓w_addT, ↓w_dictT, ↓w_dictI, ↓w_get, ↓w_lrg1T, ↓w_lrg2T, ↓w_lrg1, ↓w_lrg2, ↓w_pop0, ↓w_lcT, ↓w_mth, ↓w_calm, ↓w_tryM, ↓w_tm0, ↓w_tmN, ↓w_tmS, ↓w_next, ↓w_break, ↓w_cont, ↓w_retN, ↓w_asg, ↓w_expr, ↓w_ret, ↓w_if, ↓w_asgG, ↓w_for, ↓w_put, ↓w_aug, ↓w_augS, ↓w_raise0, ↓w_raise1, ↓w_raise2, ↓w_try, ↓w_tryAs, ↓w_var, ↓w_c, ↓w_op, ↓w_chain, ↓w_notV, ↓w_andV, ↓w_orV, ↓w_ifE, ↓w_tst, ↓w_not, ↓w_and, ↓w_or, ↓w_yes, ↓w_nil, ↓w_cons, ↓w_tup, ↓w_lst, ↓w_lstT, ↓w_cb, ↓w_call, ↓w_callK, ↓w_neg, ↓w_no, ↓w_pt, ↓w_sl, ↓w_fld, ↓w_src, ↓w_rng, ↓w_enu, ↓w_listT, ↓w_app, ↓w_lc, ↓w_xf, ↓w_fldT, ↓w_make, ↓w_makeL, ↓w_run, ↓w_cut, ↓w_pure, ↓w_drop, ↓wq_asg, ↓wq_asgG, ↓wq_expr, ↓wq_put, ↓wq_aug, ↓wq_augS, ↓wq_for, nth2_eq, nth3_eq, w_ok, w_ex, w_nx, w_rt, w_bk, w_ct, w_exS, w_some, w_v, w_tr, w_fa, w_tb, w_ti, w_tn, w_L, w_L0, wb_not, cn_f, startD, arr, gN_eq, gTp, gTl, gCn, gNl, Option.bind_some, List.filterMap_cons, List.filterMap_nil, List.map_cons, List.map_nil, List.replicate_succ, List.replicate_zero, List.cons_append, List.nil_append, List.getElem?_cons_zero, List.getElem?_cons_succ, List.set_cons_zero, List.set_cons_succ, List.length_cons, List.length_nil, Nat.reduceAdd, Nat.reduceSub, Nat.reduceLeDiff, Nat.reduceEqDiff, Int.reducePow, Int.reduceToNat, Int.reduceNeg, Int.reduceAdd, Int.reduceMul, Int.reduceSub, Int.reduceLT, Int.reduceLE, Int.reduceEq, Nat.zero_add, Int.zero_add, big_eq, true_and, and_true, and_self, dSub_int, dAdd_int, dAddI_int, dLt_int, dLe_int, dGt_int, dGe_int, dEqD_int, bInt_int, bLen_lst, bLen_tup, bMin_int, bMax_int, bAbs_int, dIs_non, dIs_int, dIs_nn, Bool.not_true, Bool.not_false, decide_true, decide_false, reduceIte, Bool.false_eq_true, if_false, if_true, iSeq_lst, iSeq_tup, iSeq_rdl, iEnu_lst, iEnu_tup]
          refine ws_cut (fun L s' => L = [some (.tup (x :: xs)), some (tD t), some (.int many), some (.int (lastN t)), none] ∧ s = s') ?_ ?_
          · cases t with
            | none =>
              simp (implicitDefEqProofs := false) only [tD, ↓w_srtT, ↓w_par2, ↓w_par3, ↓w_setd, ↓w_dict1, ↓w_maxDf, ↓w_slT, ↓w_addT, ↓w_dictT, ↓w_dictI, ↓w_get, ↓w_lrg1T, ↓w_lrg2T, ↓w_lrg1, ↓w_lrg2, ↓w_pop0, ↓w_lcT, ↓w_mth, ↓w_calm, ↓w_tryM, ↓w_tm0, ↓w_tmN, ↓w_tmS, ↓w_seq, ↓w_next, ↓w_break, ↓w_cont, ↓w_retN, ↓w_asg, ↓w_expr, ↓w_ret, ↓w_if, ↓w_asgG, ↓w_for, ↓w_put, ↓w_aug, ↓w_augS, ↓w_raise0, ↓w_raise1, ↓w_raise2, ↓w_try, ↓w_tryAs, ↓w_var, ↓w_c, ↓w_op, ↓w_chain, ↓w_notV, ↓w_andV, ↓w_orV, ↓w_ifE, ↓w_tst, ↓w_not, ↓w_and, ↓w_or, ↓w_yes, ↓w_nil, ↓w_cons, ↓w_tup, ↓w_lst, ↓w_lstT, ↓w_cb, ↓w_call, ↓w_callK, ↓w_neg, ↓w_no, ↓w_pt, ↓w_sl, ↓w_fld, ↓w_src, ↓w_rng, ↓w_enu, ↓w_listT, ↓w_app, ↓w_lc, ↓w_xf, ↓w_fldT, ↓w_make, ↓w_makeL, ↓w_run, ↓w_cut, ↓w_pure, ↓w_drop, nth2_eq, nth3_eq, w_ok, w_ex, w_nx, w_rt, w_bk, w_ct, w_exS, w_some, w_v, w_tr, w_fa, w_tb, w_ti, w_tn, w_L, w_L0, wb_not, cn_f, startD, arr, gN_eq, gTp, gTl, gCn, gNl, Option.bind_some, List.filterMap_cons, List.filterMap_nil, List.map_cons, List.map_nil, List.replicate_succ, List.replicate_zero, List.cons_append, List.nil_append, List.getElem?_cons_zero, List.getElem?_cons_succ, List.set_cons_zero, List.set_cons_succ, List.length_cons, List.length_nil, Nat.reduceAdd, Nat.reduceSub, Nat.reduceLeDiff, Nat.reduceEqDiff, Int.reducePow, Int.reduceToNat, Int.reduceNeg, Int.reduceAdd, Int.reduceMul, Int.reduceSub, Int.reduceLT, Int.reduceLE, Int.reduceEq, Nat.zero_add, Int.zero_add, big_eq, true_and, and_true, and_self, dSub_int, dAdd_int, dAddI_int, dLt_int, dLe_int, dGt_int, dGe_int, dEqD_int, bInt_int, bLen_lst, bLen_tup, bMin_int, bMax_int, bAbs_int, dIs_non, dIs_int, dIs_nn, Bool.not_true, Bool.not_false, decide_true, decide_false, reduceIte, Bool.false_eq_true, if_false, if_true, iSeq_lst, iSeq_tup, iSeq_rdl, iEnu_lst, iEnu_tup]
              rfl
            | some k =>
              simp (implicitDefEqProofs := false) only [tD, ↓w_srtT, ↓w_par2, ↓w_par3, ↓w_setd, ↓w_dict1, ↓w_maxDf, ↓w_slT, ↓w_addT, ↓w_dictT, ↓w_dictI, ↓w_get, ↓w_lrg1T, ↓w_lrg2T, ↓w_lrg1, ↓w_lrg2, ↓w_pop0, ↓w_lcT, ↓w_mth, ↓w_calm, ↓w_tryM, ↓w_tm0, ↓w_tmN, ↓w_tmS, ↓w_seq, ↓w_next, ↓w_break, ↓w_cont, ↓w_retN, ↓w_asg, ↓w_expr, ↓w_ret, ↓w_if, ↓w_asgG, ↓w_for, ↓w_put, ↓w_aug, ↓w_augS, ↓w_raise0, ↓w_raise1, ↓w_raise2, ↓w_try, ↓w_tryAs, ↓w_var, ↓w_c, ↓w_op, ↓w_chain, ↓w_notV, ↓w_andV, ↓w_orV, ↓w_ifE, ↓w_tst, ↓w_not, ↓w_and, ↓w_or, ↓w_yes, ↓w_nil, ↓w_cons, ↓w_tup, ↓w_lst, ↓w_lstT, ↓w_cb, ↓w_call, ↓w_callK, ↓w_neg, ↓w_no, ↓w_pt, ↓w_sl, ↓w_fld, ↓w_src, ↓w_rng, ↓w_enu, ↓w_listT, ↓w_app, ↓w_lc, ↓w_xf, ↓w_fldT, ↓w_make, ↓w_makeL, ↓w_run, ↓w_cut, ↓w_pure, ↓w_drop, nth2_eq, nth3_eq, w_ok, w_ex, w_nx, w_rt, w_bk, w_ct, w_exS, w_some, w_v, w_tr, w_fa, w_tb, w_ti, w_tn, w_L, w_L0, wb_not, cn_f, startD, arr, gN_eq, gTp, gTl, gCn, gNl, Option.bind_some, List.filterMap_cons, List.filterMap_nil, List.map_cons, List.map_nil, List.replicate_succ, List.replicate_zero, List.cons_append, List.nil_append, List.getElem?_cons_zero, List.getElem?_cons_succ, List.set_cons_zero, List.set_cons_succ, List.length_cons, List.length_nil, Nat.reduceAdd, Nat.reduceSub, Nat.reduceLeDiff, Nat.reduceEqDiff, Int.reducePow, Int.reduceToNat, Int.reduceNeg, Int.reduceAdd, Int.reduceMul, Int.reduceSub, Int.reduceLT, Int.reduceLE, Int.reduceEq, Nat.zero_add, Int.zero_add, big_eq, true_and, and_true, and_self, dSub_int, dAdd_int, dAddI_int, dLt_int, dLe_int, dGt_int, dGe_int, dEqD_int, bInt_int, bLen_lst, bLen_tup, bMin_int, bMax_int, bAbs_int, dIs_non, dIs_int, dIs_nn, Bool.not_true, Bool.not_false, decide_true, decide_false, reduceIte, Bool.false_eq_true, if_false, if_true, iSeq_lst, iSeq_tup, iSeq_rdl, iEnu_lst, iEnu_tup]
              rfl
          rintro L s' ⟨rfl, rfl⟩
          simp (implicitDefEqProofs := false) only [ln, ↓w_srtT, ↓w_par2, ↓w_par3, ↓w_setd, ↓w_dict1, ↓w_maxDf, ↓w_slT, ↓w_addT, ↓w_dictT, ↓w_dictI, ↓w_get, ↓w_lrg1T, ↓w_lrg2T, ↓w_lrg1, ↓w_lrg2, ↓w_pop0, ↓w_lcT, ↓w_mth, ↓w_calm, ↓w_tryM, ↓w_tm0, ↓w_tmN, ↓w_tmS, ↓w_seq, ↓w_next, ↓w_break, ↓w_cont, ↓w_retN, ↓w_asg, ↓w_expr, ↓w_ret, ↓w_if, ↓w_asgG, ↓w_for, ↓w_put, ↓w_aug, ↓w_augS, ↓w_raise0, ↓w_raise1, ↓w_raise2, ↓w_try, ↓w_tryAs, ↓w_var, ↓w_c, ↓w_op, ↓w_chain, ↓w_notV, ↓w_andV, ↓w_orV, ↓w_ifE, ↓w_tst, ↓w_not, ↓w_and, ↓w_or, ↓w_yes, ↓w_nil, ↓w_cons, ↓w_tup, ↓w_lst, ↓w_lstT, ↓w_cb, ↓w_call, ↓w_callK, ↓w_neg, ↓w_no, ↓w_pt, ↓w_sl, ↓w_fld, ↓w_src, ↓w_rng, ↓w_enu, ↓w_listT, ↓w_app, ↓w_lc, ↓w_xf, ↓w_fldT, ↓w_make, ↓w_makeL, ↓w_run, ↓w_cut, ↓w_pure, ↓w_drop, nth2_eq, nth3_eq, w_ok, w_ex, w_nx, w_rt, w_bk, w_ct, w_exS, w_some, w_v, w_tr, w_fa, w_tb, w_ti, w_tn, w_L, w_L0, wb_not, cn_f, startD, arr, gN_eq, gTp, gTl, gCn, gNl, Option.bind_some, List.filterMap_cons, List.filterMap_nil, List.map_cons, List.map_nil, List.replicate_succ, List.replicate_zero, List.cons_append, List.nil_append, List.getElem?_cons_zero, List.getElem?_cons_succ, List.set_cons_zero, List.set_cons_succ, List.length_cons, List.length_nil, Nat.reduceAdd, Nat.reduceSub, Nat.reduceLeDiff, Nat.reduceEqDiff, Int.reducePow, Int.reduceToNat, Int.reduceNeg, Int.reduceAdd, Int.reduceMul, Int.reduceSub, Int.reduceLT, Int.reduceLE, Int.reduceEq, Nat.zero_add, Int.zero_add, big_eq, true_and, and_true, and_self, dSub_int, dAdd_int, dAddI_int, dLt_int, dLe_int, dGt_int, dGe_int, dEqD_int, bInt_int, bLen_lst, bLen_tup, bMin_int, bMax_int, bAbs_int, dIs_non, dIs_int, dIs_nn, Bool.not_true, Bool.not_false, decide_true, decide_false, reduceIte, Bool.false_eq_true, if_false, if_true, iSeq_lst, iSeq_tup, iSeq_rdl, iEnu_lst, iEnu_tup]
          rw [rng2 (by decide) (by decide) (by omega) (by omega), w_some, show (((xs.length + 1 : Nat) : Int) - 1).toNat = xs.length by omega]
          refine ws_rng (fun i L s' => ∃ y, L = [some (.tup (x :: xs)), some (tD t), some (.int many), some (.int (lastN t)), y] ∧ s = s' ∧ ∀ j (hj : j < xs.length), j < i → gb xs[j] 0 (lastN t) = true) ⟨_, rfl, rfl, fun j hj h => by omega⟩ ?_ ?_
          · rintro i L s' hi ⟨y, rfl, rfl, ha⟩
            have th := hx _ (List.mem_cons_of_mem _ (List.getElem_mem hi))
            cases hb : gb xs[i] 0 (lastN t) with
            | true =>
              simp (implicitDefEqProofs := false) only [dIx_cons s x xs hi, between_ok th, hb, ↓w_srtT, ↓w_par2, ↓w_par3, ↓w_setd, ↓w_dict1, ↓w_maxDf, ↓w_slT, ↓w_addT, ↓w_dictT, ↓w_dictI, ↓w_get, ↓w_lrg1T, ↓w_lrg2T, ↓w_lrg1, ↓w_lrg2, ↓w_pop0, ↓w_lcT, ↓w_mth, ↓w_calm, ↓w_tryM, ↓w_tm0, ↓w_tmN, ↓w_tmS, ↓w_seq, ↓w_next, ↓w_break, ↓w_cont, ↓w_retN, ↓w_asg, ↓w_expr, ↓w_ret, ↓w_if, ↓w_asgG, ↓w_for, ↓w_put, ↓w_aug, ↓w_augS, ↓w_raise0, ↓w_raise1, ↓w_raise2, ↓w_try, ↓w_tryAs, ↓w_var, ↓w_c, ↓w_op, ↓w_chain, ↓w_notV, ↓w_andV, ↓w_orV, ↓w_ifE, ↓w_tst, ↓w_not, ↓w_and, ↓w_or, ↓w_yes, ↓w_nil, ↓w_cons, ↓w_tup, ↓w_lst, ↓w_lstT, ↓w_cb, ↓w_call, ↓w_callK, ↓w_neg, ↓w_no, ↓w_pt, ↓w_sl, ↓w_fld, ↓w_src, ↓w_rng, ↓w_enu, ↓w_listT, ↓w_app, ↓w_lc, ↓w_xf, ↓w_fldT, ↓w_make, ↓w_makeL, ↓w_run, ↓w_cut, ↓w_pure, ↓w_drop, nth2_eq, nth3_eq, w_ok, w_ex, w_nx, w_rt, w_bk, w_ct, w_exS, w_some, w_v, w_tr, w_fa, w_tb, w_ti, w_tn, w_L, w_L0, wb_not, cn_f, startD, arr, gN_eq, gTp, gTl, gCn, gNl, Option.bind_some, List.filterMap_cons, List.filterMap_nil, List.map_cons, List.map_nil, List.replicate_succ, List.replicate_zero, List.cons_append, List.nil_append, List.getElem?_cons_zero, List.getElem?_cons_succ, List.set_cons_zero, List.set_cons_succ, List.length_cons, List.length_nil, Nat.reduceAdd, Nat.reduceSub, Nat.reduceLeDiff, Nat.reduceEqDiff, Int.reducePow, Int.reduceToNat, Int.reduceNeg, Int.reduceAdd, Int.reduceMul, Int.reduceSub, Int.reduceLT, Int.reduceLE, Int.reduceEq, Nat.zero_add, Int.zero_add, big_eq, true_and, and_true, and_self, dSub_int, dAdd_int, dAddI_int, dLt_int, dLe_int, dGt_int, dGe_int, dEqD_int, bInt_int, bLen_lst, bLen_tup, bMin_int, bMax_int, bAbs_int, dIs_non, dIs_int, dIs_nn, Bool.not_true, Bool.not_false, decide_true, decide_false, reduceIte, Bool.false_eq_true, if_false, if_true, iSeq_lst, iSeq_tup, iSeq_rdl, iEnu_lst, iEnu_tup]
              refine ⟨_, rfl, fun j hj hji => ?_⟩
              rcases Nat.lt_or_ge j i with e | e
              · exact ha j hj e
              · have : j = i := by omega
                subst this
                exact hb
            | false =>
              simp (implicitDefEqProofs := false) only [dIx_cons s x xs hi, between_ok th, hb, ↓w_srtT, ↓w_par2, ↓w_par3, ↓w_setd, ↓w_dict1, ↓w_maxDf, ↓w_slT, ↓w_addT, ↓w_dictT, ↓w_dictI, ↓w_get, ↓w_lrg1T, ↓w_lrg2T, ↓w_lrg1, ↓w_lrg2, ↓w_pop0, ↓w_lcT, ↓w_mth, ↓w_calm, ↓w_tryM, ↓w_tm0, ↓w_tmN, ↓w_tmS, ↓w_seq, ↓w_next, ↓w_break, ↓w_cont, ↓w_retN, ↓w_asg, ↓w_expr, ↓w_ret, ↓w_if, ↓w_asgG, ↓w_for, ↓w_put, ↓w_aug, ↓w_augS, ↓w_raise0, ↓w_raise1, ↓w_raise2, ↓w_try, ↓w_tryAs, ↓w_var, ↓w_c, ↓w_op, ↓w_chain, ↓w_notV, ↓w_andV, ↓w_orV, ↓w_ifE, ↓w_tst, ↓w_not, ↓w_and, ↓w_or, ↓w_yes, ↓w_nil, ↓w_cons, ↓w_tup, ↓w_lst, ↓w_lstT, ↓w_cb, ↓w_call, ↓w_callK, ↓w_neg, ↓w_no, ↓w_pt, ↓w_sl, ↓w_fld, ↓w_src, ↓w_rng, ↓w_enu, ↓w_listT, ↓w_app, ↓w_lc, ↓w_xf, ↓w_fldT, ↓w_make, ↓w_makeL, ↓w_run, ↓w_cut, ↓w_pure, ↓w_drop, nth2_eq, nth3_eq, w_ok, w_ex, w_nx, w_rt, w_bk, w_ct, w_exS, w_some, w_v, w_tr, w_fa, w_tb, w_ti, w_tn, w_L, w_L0, wb_not, cn_f, startD, arr, gN_eq, gTp, gTl, gCn, gNl, Option.bind_some, List.filterMap_cons, List.filterMap_nil, List.map_cons, List.map_nil, List.replicate_succ, List.replicate_zero, List.cons_append, List.nil_append, List.getElem?_cons_zero, List.getElem?_cons_succ, List.set_cons_zero, List.set_cons_succ, List.length_cons, List.length_nil, Nat.reduceAdd, Nat.reduceSub, Nat.reduceLeDiff, Nat.reduceEqDiff, Int.reducePow, Int.reduceToNat, Int.reduceNeg, Int.reduceAdd, Int.reduceMul, Int.reduceSub, Int.reduceLT, Int.reduceLE, Int.reduceEq, Nat.zero_add, Int.zero_add, big_eq, true_and, and_true, and_self, dSub_int, dAdd_int, dAddI_int, dLt_int, dLe_int, dGt_int, dGe_int, dEqD_int, bInt_int, bLen_lst, bLen_tup, bMin_int, bMax_int, bAbs_int, dIs_non, dIs_int, dIs_nn, Bool.not_true, Bool.not_false, decide_true, decide_false, reduceIte, Bool.false_eq_true, if_false, if_true, iSeq_lst, iSeq_tup, iSeq_rdl, iEnu_lst, iEnu_tup]
              rw [wdue_at hi ha hb]
              rfl
          · rintro L s' ⟨y, rfl, rfl, ha⟩
            simp (implicitDefEqProofs := false) only [↓w_srtT, ↓w_par2, ↓w_par3, ↓w_setd, ↓w_dict1, ↓w_maxDf, ↓w_slT, ↓w_addT, ↓w_dictT, ↓w_dictI, ↓w_get, ↓w_lrg1T, ↓w_lrg2T, ↓w_lrg1, ↓w_lrg2, ↓w_pop0, ↓w_lcT, ↓w_mth, ↓w_calm, ↓w_tryM, ↓w_tm0, ↓w_tmN, ↓w_tmS, ↓w_seq, ↓w_next, ↓w_break, ↓w_cont, ↓w_retN, ↓w_asg, ↓w_expr, ↓w_ret, ↓w_if, ↓w_asgG, ↓w_for, ↓w_put, ↓w_aug, ↓w_augS, ↓w_raise0, ↓w_raise1, ↓w_raise2, ↓w_try, ↓w_tryAs, ↓w_var, ↓w_c, ↓w_op, ↓w_chain, ↓w_notV, ↓w_andV, ↓w_orV, ↓w_ifE, ↓w_tst, ↓w_not, ↓w_and, ↓w_or, ↓w_yes, ↓w_nil, ↓w_cons, ↓w_tup, ↓w_lst, ↓w_lstT, ↓w_cb, ↓w_call, ↓w_callK, ↓w_neg, ↓w_no, ↓w_pt, ↓w_sl, ↓w_fld, ↓w_src, ↓w_rng, ↓w_enu, ↓w_listT, ↓w_app, ↓w_lc, ↓w_xf, ↓w_fldT, ↓w_make, ↓w_makeL, ↓w_run, ↓w_cut, ↓w_pure, ↓w_drop, nth2_eq, nth3_eq, w_ok, w_ex, w_nx, w_rt, w_bk, w_ct, w_exS, w_some, w_v, w_tr, w_fa, w_tb, w_ti, w_tn, w_L, w_L0, wb_not, cn_f, startD, arr, gN_eq, gTp, gTl, gCn, gNl, Option.bind_some, List.filterMap_cons, List.filterMap_nil, List.map_cons, List.map_nil, List.replicate_succ, List.replicate_zero, List.cons_append, List.nil_append, List.getElem?_cons_zero, List.getElem?_cons_succ, List.set_cons_zero, List.set_cons_succ, List.length_cons, List.length_nil, Nat.reduceAdd, Nat.reduceSub, Nat.reduceLeDiff, Nat.reduceEqDiff, Int.reducePow, Int.reduceToNat, Int.reduceNeg, Int.reduceAdd, Int.reduceMul, Int.reduceSub, Int.reduceLT, Int.reduceLE, Int.reduceEq, Nat.zero_add, Int.zero_add, big_eq, true_and, and_true, and_self, dSub_int, dAdd_int, dAddI_int, dLt_int, dLe_int, dGt_int, dGe_int, dEqD_int, bInt_int, bLen_lst, bLen_tup, bMin_int, bMax_int, bAbs_int, dIs_non, dIs_int, dIs_nn, Bool.not_true, Bool.not_false, decide_true, decide_false, reduceIte, Bool.false_eq_true, if_false, if_true, iSeq_lst, iSeq_tup, iSeq_rdl, iEnu_lst, iEnu_tup]
            rw [wdue_all fun j hj => ha j hj hj]
            rfl
/-- a name -/
def nmD (r : Nat) (ns : List Nat) : D := .tup (nI r :: ns.map nI)
structure OkN (t : Option Nat) (many : Nat) (r : Nat) (ns : List Nat) : Prop where
  r : r < many
  l : ns.length ≤ 199
  m : ∀ n ∈ ns, (n : Int) ≤ lastN t
theorem nmD_ok {many : Nat} {r : Nat} {ns : List Nat} (h : OkN t many r ns) : wat t many (nmD r ns) = none := by
  unfold nmD
  rw [wat, List.length_map, if_neg (by have := h.l; omega)]
  have hr := h.r
  rw [show gb (nI r) 0 ((many : Int) - 1) = true from gb_in (by omega) (by omega)]
  simp only [if_true]
  rw [wdue_all fun j hj => ?_]
  · rfl
  · rw [List.getElem_map]
    exact gb_in (by omega) (h.m _ (List.getElem_mem _))
theorem nm_nmc (r : Nat) (ns : List Nat) : NmC c (nmD r ns) := .tp fun x hx => by
  rcases List.mem_cons.mp hx with rfl | e
  · exact .int _
  · obtain ⟨n, _, rfl⟩ := List.mem_map.mp e
    exact .int _
/-! the time -/
def smN : List Nat → Nat
  | [] => 0
  | n :: ns => n + smN ns
theorem intsOf_nI : ∀ ns : List Nat, ∃ is : List Int, intsOf (ns.map nI) = some is ∧ is.sum = smN ns
  | [] => ⟨[], rfl, rfl⟩
  | n :: ns => by
    obtain ⟨is, e1, e2⟩ := intsOf_nI ns
    refine ⟨(n : Int) :: is, ?_, ?_⟩
    · simp only [List.map_cons, nI, intsOf, e1]
      rfl
    · rw [List.sum_cons, e2, smN]
      push_cast
      rfl
theorem sum_nI (s : S) (ns : List Nat) : bSum s [.tup (ns.map nI)] = some (.int (smN ns)) := by
  obtain ⟨is, e1, e2⟩ := intsOf_nI ns
  show ((some (ns.map nI)).bind intsOf).map _ = _
  rw [Option.bind_some, e1, ← e2]
  rfl
theorem cut1 (x : D) (xs : List D) (s : S) : dSl s (.tup (x :: xs)) (some 1) none = some (.tup xs) := by
  show some (D.tup (cutD (x :: xs) (some 1) none)) = _
  have : cutD (x :: xs) (some 1) none = xs := by
    unfold cutD
    rw [HT.sIx_none, show (some (1 : Int)) = some ((1 : Nat) : Int) from rfl, HT.sIx_nat]
    rw [show min 1 (x :: xs).length = 1 by simp]
    simp
  rw [this]
theorem smN_le {hi : Int} (h0 : 0 ≤ hi) : ∀ {ns : List Nat}, (∀ n ∈ ns, (n : Int) ≤ hi) → (smN ns : Int) ≤ ns.length * hi
  | [], _ => by simp [smN]
  | n :: ns, h => by
    have a := smN_le h0 (ns := ns) fun m hm => h m (List.mem_cons_of_mem _ hm)
    have b := h n (List.mem_cons_self ..)
    rw [smN, List.length_cons]
    push_cast
    rw [Int.add_mul]
    omega
def TM (M : Mc) (rs : List Int) (r : Nat) (ns : List Nat) : Int := rs.getD r 0 + ns.length * M.letter + smN ns * M.gap
theorem OkN.sm {many r : Nat} {ns : List Nat} (h : OkN t many r ns) : (smN ns : Int) ≤ 199 * 1000000000000000 := by
  have a := smN_le (hi := 1000000000000000) (by decide) (ns := ns) fun n hn => by have := h.m n hn; have := lastN_le t; omega
  have := h.l
  have b : (ns.length : Int) * 1000000000000000 ≤ 199 * 1000000000000000 := Int.mul_le_mul_of_nonneg_right (by omega) (by decide)
  omega
theorem root_ix {rs : List Int} {r : Nat} (h : r < rs.length) {rd : D} (hd : RtD rs rd) (s : S) : dIx s rd (nI r) = some (.int (rs.getD r 0)) := by
  have e : L2.atI (rs.map D.int) (r : Int) = some (.int (rs.getD r 0)) := by
    rw [atI_map (y := rs[r]) (List.getElem?_eq_getElem h), List.getD_eq_getElem?_getD, List.getElem?_eq_getElem h]
    rfl
  rcases hd with rfl | rfl
  · exact (dIx_lst ..).trans e
  · exact (dIx_tup ..).trans e
theorem timeof_ok (hM : M.Ok) {rs : List Int} {r : Nat} {ns : List Nat} (h : OkN t rs.length r ns) {rd : D} (hd : RtD rs rd) (s : S) : G_time_of c [M.d c, nmD r ns, rd] s = .ok (.int (TM M rs r ns)) s := by
  apply eq_ok
  have l0 := hM.letter0
  have l1 := hM.letter1
  have g0 := hM.gap0
  have g1 := hM.gap1
  have sm := h.sm
  have hl := h.l
  have e0 : dIx s (nmD r ns) (.int 0) = some (nI r) := it0 ..
  have el : bLen s [nmD r ns] = some (.int (ns.length + 1)) := by
    show some (D.int _) = _
    simp
  have e1 : dSl s (nmD r ns) (some 1) none = some (.tup (ns.map nI)) := cut1 ..
  have m1 : dMul s (.int ((ns.length : Int) + 1 - 1)) (.int M.letter) = some (.int (ns.length * M.letter)) := by
    rw [dMul_small (by omega) (by omega) (by omega) (by omega), show (ns.length : Int) + 1 - 1 = ns.length by omega]
  have m2 : dMul s (.int (smN ns)) (.int M.gap) = some (.int (smN ns * M.gap)) := dMul_small (by omega) (by omega) (by omega) (by omega)
  unfold G_time_of
  simp (implicitDefEqProofs := false) only [e0, root_ix h.r hd, el, fld_letter, fld_gap, m1, e1, sum_nI, m2, TM, ↓w_srtT, ↓w_par2, ↓w_par3, ↓w_setd, ↓w_dict1, ↓w_maxDf, ↓w_slT, ↓w_addT, ↓w_dictT, ↓w_dictI, ↓w_get, ↓w_lrg1T, ↓w_lrg2T, ↓w_lrg1, ↓w_lrg2, ↓w_pop0, ↓w_lcT, ↓w_mth, ↓w_calm, ↓w_tryM, ↓w_tm0, ↓w_tmN, ↓w_tmS, ↓w_seq, ↓w_next, ↓w_break, ↓w_cont, ↓w_retN, ↓w_asg, ↓w_expr, ↓w_ret, ↓w_if, ↓w_asgG, ↓w_for, ↓w_put, ↓w_aug, ↓w_augS, ↓w_raise0, ↓w_raise1, ↓w_raise2, ↓w_try, ↓w_tryAs, ↓w_var, ↓w_c, ↓w_op, ↓w_chain, ↓w_notV, ↓w_andV, ↓w_orV, ↓w_ifE, ↓w_tst, ↓w_not, ↓w_and, ↓w_or, ↓w_yes, ↓w_nil, ↓w_cons, ↓w_tup, ↓w_lst, ↓w_lstT, ↓w_cb, ↓w_call, ↓w_callK, ↓w_neg, ↓w_no, ↓w_pt, ↓w_sl, ↓w_fld, ↓w_src, ↓w_rng, ↓w_enu, ↓w_listT, ↓w_app, ↓w_lc, ↓w_xf, ↓w_fldT, ↓w_make, ↓w_makeL, ↓w_run, ↓w_cut, ↓w_pure, ↓w_drop, nth2_eq, nth3_eq, w_ok, w_ex, w_nx, w_rt, w_bk, w_ct, w_exS, w_some, w_v, w_tr, w_fa, w_tb, w_ti, w_tn, w_L, w_L0, wb_not, cn_f, startD, arr, gN_eq, gTp, gTl, gCn, gNl, Option.bind_some, List.filterMap_cons, List.filterMap_nil, List.map_cons, List.map_nil, List.replicate_succ, List.replicate_zero, List.cons_append, List.nil_append, List.getElem?_cons_zero, List.getElem?_cons_succ, List.set_cons_zero, List.set_cons_succ, List.length_cons, List.length_nil, Nat.reduceAdd, Nat.reduceSub, Nat.reduceLeDiff, Nat.reduceEqDiff, Int.reducePow, Int.reduceToNat, Int.reduceNeg, Int.reduceAdd, Int.reduceMul, Int.reduceSub, Int.reduceLT, Int.reduceLE, Int.reduceEq, Nat.zero_add, Int.zero_add, big_eq, true_and, and_true, and_self, dSub_int, dAdd_int, dAddI_int, dLt_int, dLe_int, dGt_int, dGe_int, dEqD_int, bInt_int, bLen_lst, bLen_tup, bMin_int, bMax_int, bAbs_int, dIs_non, dIs_int, dIs_nn, Bool.not_true, Bool.not_false, decide_true, decide_false, reduceIte, Bool.false_eq_true, if_false, if_true, iSeq_lst, iSeq_tup, iSeq_rdl, iEnu_lst, iEnu_tup]
end SI

/-! fewest turns -/
namespace Pg
open PySem L2 SI Mt
variable {c : Cl} {M : Mc} {t u : Option Nat}
/-- the fewest turns with which n hands are known at x -/
structure Few (M : Mc) (n x : Int) (k : Nat) : Prop where
  k0 : 1 ≤ k
  k1 : k ≤ 1000000000000
  le : n ≤ FR M (some k) x
  lt : 1 < k → FR M (some (k - 1)) x < n
end Pg

/-! so many letter times that the counts stay small -/
namespace Pg
open PySem L2 SI Mt
variable {c : Cl} {M : Mc} {t : Option Nat}
/-- K letter times hold at most 10 ** 40 hands, and lie within the horizon -/
structure Spn (M : Mc) (t : Option Nat) (K : Nat) : Prop where
  k0 : 3 ≤ K
  k1 : K ≤ 119
  le : ∀ x, x ≤ K * M.letter → 6 * FR M t x ≤ MOST
  hor : K * M.letter ≤ hor M t
theorem Spn.frs {K : Nat} (h : Spn M t K) (x : Int) (hx : x ≤ K * M.letter) : ∀ {rs : List Int}, (∀ r ∈ rs, 0 ≤ r ∧ r ≤ 1000000000000) → 6 * FRs M t x rs ≤ rs.length * MOST
  | [], _ => by simp [FRs]
  | r :: rs, hr => by
    have h1 := h.frs x hx fun z hz => hr z (List.mem_cons_of_mem _ hz)
    have h2 := h.le (x - r) (by have := hr r (List.mem_cons_self ..); omega)
    rw [FRs, List.length_cons, Int.natCast_add, Int.add_mul]
    omega
theorem Spn.most {K : Nat} (h : Spn M t K) {x : Int} (hx : x ≤ K * M.letter) {rs : List Int} (hr : OkR rs) : FRs M t x rs ≤ MOST := by
  have h1 := h.frs x hx hr.mem
  have h2 := hr.l1
  have h3 : (rs.length : Int) * MOST ≤ 6 * MOST := Int.mul_le_mul_of_nonneg_right (by omega) (by unfold MOST; decide)
  omega
end Pg

/-! Machine.of; a letter time and a gap near each other; quicker machines -/
namespace Pg
open PySem L2 SI Mt
variable {c : Cl} {M : Mc} {t : Option Nat} {Q : Cn (D → S → Prop)} {E : Cn (Addr → List Str → List D → S → Prop)}
/-! ### comparisons -/
end Pg

/-! helpers of laws: within, a deep list, data without refs, == of short tuples -/
namespace SI
open PySem L2 Pg Mt
variable {c : Cl} {M : Mc} {t : Option Nat}
theorem isi_int (i : Int) (s : S) : bIsi c.cs s [.int i, .ty "int"] = some (.bl true) := rfl
theorem isi_intb (i : Int) (s : S) : bIsi c.cs s [.int i, .ty "bool"] = some (.bl false) := rfl
theorem isi_bl {s : S} {d e r : D} (h : bIsi c.cs s [d, e] = some r) : ∃ b, r = .bl b := by
  unfold bIsi at h
  obtain ⟨b, _, rfl⟩ := Option.map_eq_some_iff.mp h
  exact ⟨b, rfl⟩
theorem NI.cases {d : D} (h : NI c d) (s : S) : bIsi c.cs s [d, .ty "int"] = some (.bl false) ∨ (bIsi c.cs s [d, .ty "int"] = some (.bl true) ∧ bIsi c.cs s [d, .ty "bool"] = some (.bl true)) := by
  have w : @WR _ (G_is_integer c [d] s) ⟨fun d' s' => d' = .bl false⟩ ⟨nE⟩ := by
    rw [h s]
    rfl
  unfold G_is_integer at w
  simp (implicitDefEqProofs := false) only [↓w_srtT, ↓w_par2, ↓w_par3, ↓w_setd, ↓w_dict1, ↓w_maxDf, ↓w_slT, ↓w_addT, ↓w_dictT, ↓w_dictI, ↓w_get, ↓w_lrg1T, ↓w_lrg2T, ↓w_lrg1, ↓w_lrg2, ↓w_pop0, ↓w_lcT, ↓w_mth, ↓w_calm, ↓w_tryM, ↓w_tm0, ↓w_tmN, ↓w_tmS, ↓w_seq, ↓w_next, ↓w_break, ↓w_cont, ↓w_retN, ↓w_asg, ↓w_expr, ↓w_ret, ↓w_if, ↓w_asgG, ↓w_for, ↓w_put, ↓w_aug, ↓w_augS, ↓w_raise0, ↓w_raise1, ↓w_raise2, ↓w_try, ↓w_tryAs, ↓w_var, ↓w_c, ↓w_op, ↓w_chain, ↓w_notV, ↓w_andV, ↓w_orV, ↓w_ifE, ↓w_tst, ↓w_not, ↓w_and, ↓w_or, ↓w_yes, ↓w_nil, ↓w_cons, ↓w_tup, ↓w_lst, ↓w_lstT, ↓w_cb, ↓w_call, ↓w_callK, ↓w_neg, ↓w_no, ↓w_pt, ↓w_sl, ↓w_fld, ↓w_src, ↓w_rng, ↓w_enu, ↓w_listT, ↓w_app, ↓w_lc, ↓w_xf, ↓w_fldT, ↓w_make, ↓w_makeL, ↓w_run, ↓w_cut, ↓w_pure, ↓w_drop, nth2_eq, nth3_eq, w_ok, w_ex, w_nx, w_rt, w_bk, w_ct, w_exS, w_some, w_v, w_tr, w_fa, w_tb, w_ti, w_tn, w_L, w_L0, wb_not, cn_f, startD, arr, gN_eq, gTp, gTl, gCn, gNl, Option.bind_some, List.filterMap_cons, List.filterMap_nil, List.map_cons, List.map_nil, List.replicate_succ, List.replicate_zero, List.cons_append, List.nil_append, List.getElem?_cons_zero, List.getElem?_cons_succ, List.set_cons_zero, List.set_cons_succ, List.length_cons, List.length_nil, Nat.reduceAdd, Nat.reduceSub, Nat.reduceLeDiff, Nat.reduceEqDiff, Int.reducePow, Int.reduceToNat, Int.reduceNeg, Int.reduceAdd, Int.reduceMul, Int.reduceSub, Int.reduceLT, Int.reduceLE, Int.reduceEq, Nat.zero_add, Int.zero_add, big_eq, true_and, and_true, and_self, dSub_int, dAdd_int, dAddI_int, dLt_int, dLe_int, dGt_int, dGe_int, dEqD_int, bInt_int, bLen_lst, bLen_tup, bMin_int, bMax_int, bAbs_int, dIs_non, dIs_int, dIs_nn, Bool.not_true, Bool.not_false, decide_true, decide_false, reduceIte, Bool.false_eq_true, if_false, if_true, iSeq_lst, iSeq_tup, iSeq_rdl, iEnu_lst, iEnu_tup] at w
  cases e1 : bIsi c.cs s [d, .ty "int"] with
  | none =>
    rw [e1] at w
    exact w.elim
  | some r =>
    obtain ⟨b, rfl⟩ := isi_bl e1
    cases b with
    | false => exact .inl rfl
    | true =>
      refine .inr ⟨rfl, ?_⟩
      rw [e1] at w
      simp (implicitDefEqProofs := false) only [↓w_srtT, ↓w_par2, ↓w_par3, ↓w_setd, ↓w_dict1, ↓w_maxDf, ↓w_slT, ↓w_addT, ↓w_dictT, ↓w_dictI, ↓w_get, ↓w_lrg1T, ↓w_lrg2T, ↓w_lrg1, ↓w_lrg2, ↓w_pop0, ↓w_lcT, ↓w_mth, ↓w_calm, ↓w_tryM, ↓w_tm0, ↓w_tmN, ↓w_tmS, ↓w_seq, ↓w_next, ↓w_break, ↓w_cont, ↓w_retN, ↓w_asg, ↓w_expr, ↓w_ret, ↓w_if, ↓w_asgG, ↓w_for, ↓w_put, ↓w_aug, ↓w_augS, ↓w_raise0, ↓w_raise1, ↓w_raise2, ↓w_try, ↓w_tryAs, ↓w_var, ↓w_c, ↓w_op, ↓w_chain, ↓w_notV, ↓w_andV, ↓w_orV, ↓w_ifE, ↓w_tst, ↓w_not, ↓w_and, ↓w_or, ↓w_yes, ↓w_nil, ↓w_cons, ↓w_tup, ↓w_lst, ↓w_lstT, ↓w_cb, ↓w_call, ↓w_callK, ↓w_neg, ↓w_no, ↓w_pt, ↓w_sl, ↓w_fld, ↓w_src, ↓w_rng, ↓w_enu, ↓w_listT, ↓w_app, ↓w_lc, ↓w_xf, ↓w_fldT, ↓w_make, ↓w_makeL, ↓w_run, ↓w_cut, ↓w_pure, ↓w_drop, nth2_eq, nth3_eq, w_ok, w_ex, w_nx, w_rt, w_bk, w_ct, w_exS, w_some, w_v, w_tr, w_fa, w_tb, w_ti, w_tn, w_L, w_L0, wb_not, cn_f, startD, arr, gN_eq, gTp, gTl, gCn, gNl, Option.bind_some, List.filterMap_cons, List.filterMap_nil, List.map_cons, List.map_nil, List.replicate_succ, List.replicate_zero, List.cons_append, List.nil_append, List.getElem?_cons_zero, List.getElem?_cons_succ, List.set_cons_zero, List.set_cons_succ, List.length_cons, List.length_nil, Nat.reduceAdd, Nat.reduceSub, Nat.reduceLeDiff, Nat.reduceEqDiff, Int.reducePow, Int.reduceToNat, Int.reduceNeg, Int.reduceAdd, Int.reduceMul, Int.reduceSub, Int.reduceLT, Int.reduceLE, Int.reduceEq, Nat.zero_add, Int.zero_add, big_eq, true_and, and_true, and_self, dSub_int, dAdd_int, dAddI_int, dLt_int, dLe_int, dGt_int, dGe_int, dEqD_int, bInt_int, bLen_lst, bLen_tup, bMin_int, bMax_int, bAbs_int, dIs_non, dIs_int, dIs_nn, Bool.not_true, Bool.not_false, decide_true, decide_false, reduceIte, Bool.false_eq_true, if_false, if_true, iSeq_lst, iSeq_tup, iSeq_rdl, iEnu_lst, iEnu_tup] at w
      cases e2 : bIsi c.cs s [d, .ty "bool"] with
      | none =>
        rw [e2] at w
        exact w.elim
      | some r =>
        obtain ⟨b, rfl⟩ := isi_bl e2
        rw [e2] at w
        simp (implicitDefEqProofs := false) only [↓w_srtT, ↓w_par2, ↓w_par3, ↓w_setd, ↓w_dict1, ↓w_maxDf, ↓w_slT, ↓w_addT, ↓w_dictT, ↓w_dictI, ↓w_get, ↓w_lrg1T, ↓w_lrg2T, ↓w_lrg1, ↓w_lrg2, ↓w_pop0, ↓w_lcT, ↓w_mth, ↓w_calm, ↓w_tryM, ↓w_tm0, ↓w_tmN, ↓w_tmS, ↓w_seq, ↓w_next, ↓w_break, ↓w_cont, ↓w_retN, ↓w_asg, ↓w_expr, ↓w_ret, ↓w_if, ↓w_asgG, ↓w_for, ↓w_put, ↓w_aug, ↓w_augS, ↓w_raise0, ↓w_raise1, ↓w_raise2, ↓w_try, ↓w_tryAs, ↓w_var, ↓w_c, ↓w_op, ↓w_chain, ↓w_notV, ↓w_andV, ↓w_orV, ↓w_ifE, ↓w_tst, ↓w_not, ↓w_and, ↓w_or, ↓w_yes, ↓w_nil, ↓w_cons, ↓w_tup, ↓w_lst, ↓w_lstT, ↓w_cb, ↓w_call, ↓w_callK, ↓w_neg, ↓w_no, ↓w_pt, ↓w_sl, ↓w_fld, ↓w_src, ↓w_rng, ↓w_enu, ↓w_listT, ↓w_app, ↓w_lc, ↓w_xf, ↓w_fldT, ↓w_make, ↓w_makeL, ↓w_run, ↓w_cut, ↓w_pure, ↓w_drop, nth2_eq, nth3_eq, w_ok, w_ex, w_nx, w_rt, w_bk, w_ct, w_exS, w_some, w_v, w_tr, w_fa, w_tb, w_ti, w_tn, w_L, w_L0, wb_not, cn_f, startD, arr, gN_eq, gTp, gTl, gCn, gNl, Option.bind_some, List.filterMap_cons, List.filterMap_nil, List.map_cons, List.map_nil, List.replicate_succ, List.replicate_zero, List.cons_append, List.nil_append, List.getElem?_cons_zero, List.getElem?_cons_succ, List.set_cons_zero, List.set_cons_succ, List.length_cons, List.length_nil, Nat.reduceAdd, Nat.reduceSub, Nat.reduceLeDiff, Nat.reduceEqDiff, Int.reducePow, Int.reduceToNat, Int.reduceNeg, Int.reduceAdd, Int.reduceMul, Int.reduceSub, Int.reduceLT, Int.reduceLE, Int.reduceEq, Nat.zero_add, Int.zero_add, big_eq, true_and, and_true, and_self, dSub_int, dAdd_int, dAddI_int, dLt_int, dLe_int, dGt_int, dGe_int, dEqD_int, bInt_int, bLen_lst, bLen_tup, bMin_int, bMax_int, bAbs_int, dIs_non, dIs_int, dIs_nn, Bool.not_true, Bool.not_false, decide_true, decide_false, reduceIte, Bool.false_eq_true, if_false, if_true, iSeq_lst, iSeq_tup, iSeq_rdl, iEnu_lst, iEnu_tup] at w
        cases b with
        | true => rfl
        | false => simp at w
/-! data without refs -/
def Pur (d : D) : Prop := ∀ n, D.bel n d = true
def PurO (o : O) : Prop := ∀ n, O.bel n o = true
theorem finS_pur {n : Nat} {s : S} {d : D} (h : Pur d) : finS n s d = some d := by
  unfold finS
  split
  · rename_i i
    have h0 : D.bel 0 (.ref i) = true := h 0
    simp [D.bel] at h0
  · rw [if_pos (h n)]
theorem finsS_pur {n : Nat} {s : S} : ∀ {xs : List D}, (∀ x ∈ xs, Pur x) → finsS n s xs = some xs
  | [], _ => rfl
  | x :: xs, h => by
    rw [finsS, finS_pur (h x (List.mem_cons_self ..)), finsS_pur fun z hz => h z (List.mem_cons_of_mem _ hz)]
theorem bels_pur {n : Nat} : ∀ {xs : List D}, (∀ x ∈ xs, Pur x) → D.bels n xs = true
  | [], _ => rfl
  | x :: xs, h => by
    rw [D.bels, h x (List.mem_cons_self ..) n, bels_pur fun z hz => h z (List.mem_cons_of_mem _ hz)]
    rfl
theorem pur_tup {xs : List D} (h : ∀ x ∈ xs, Pur x) : Pur (.tup xs) := fun n => by
  rw [D.bel, bels_pur h]
theorem pur_int (i : Int) : Pur (.int i) := fun _ => rfl
theorem fin2_ref {n i : Nat} {s : S} {xs : List D} (hi : n ≤ i) (hs : s[i]? = some (.lst xs)) (h : ∀ x ∈ xs, Pur x) : fin2 n s (.ref i) = some (.lst xs) := by
  unfold fin2
  simp only [hs, if_neg (Nat.not_lt.mpr hi), finsS_pur h, Option.map_some]
theorem all_pur {n : Nat} {r : List O} (h : ∀ o ∈ r, PurO o) : r.all (O.bel n) = true := by
  rw [List.all_eq_true]
  exact fun o ho => h o ho n
/-! == of short tuples -/
/-! a list of 17 levels -/
/-! what is drawn -/
end SI
namespace SI
open PySem L2 Pg Mt
end SI

/-! sums: the first hands of the slower tree, the greatest number of numbers -/
namespace Pg
open PySem L2 SI Mt
variable {c : Cl} {M : Mc} {l g : Int}
def stT (s : List Int) : Int := (lsI s).getD 0
def stJ (s : List Int) : Nat := (ixI (stT s) s).getD 0
/-- when each hand can tell the next one -/
def SN (l g : Int) : Nat → List Int
  | 0 => [l]
  | n + 1 => (SN l g n).set (stJ (SN l g n)) (stT (SN l g n) + g) ++ [stT (SN l g n) + l]
def KtN (l g : Int) : Nat → Int
  | 0 => 0
  | n + 1 => stT (SN l g n)
def SD (l g : Int) : Nat → Nat
  | 0 => 0
  | n + 1 => stJ (SN l g n)
theorem SN_len (l g : Int) : ∀ n, (SN l g n).length = n + 1
  | 0 => rfl
  | n + 1 => by
    unfold SN
    rw [List.length_append, List.length_set, SN_len l g n]
    rfl
theorem ls_some {s : List Int} (h : s ≠ []) : lsI s = some (stT s) := by
  unfold stT
  cases s with
  | nil => exact absurd rfl h
  | cons => rfl
theorem ix_some {s : List Int} (h : s ≠ []) : ixI (stT s) s = some (stJ s) := by
  obtain ⟨j, e⟩ := ixI_mem (lsI_mem (ls_some h)).1
  unfold stJ
  rw [e]
  rfl
theorem SN_ne (l g : Int) (n : Nat) : SN l g n ≠ [] := fun e => by
  have := SN_len l g n
  rw [e] at this
  simp at this
theorem SN_ls (l g : Int) (n : Nat) : lsI (SN l g n) = some (KtN l g (n + 1)) := ls_some (SN_ne l g n)
theorem SN_ix (l g : Int) (n : Nat) : ixI (KtN l g (n + 1)) (SN l g n) = some (SD l g (n + 1)) := ix_some (SN_ne l g n)
theorem SD_lt (l g : Int) (n : Nat) : SD l g (n + 1) < n + 1 := by
  have := ixI_lt (SN_ix l g n)
  rw [SN_len] at this
  exact this
theorem SN_s (l g : Int) (n : Nat) : SN l g (n + 1) = (SN l g n).set (SD l g (n + 1)) (KtN l g (n + 1) + g) ++ [KtN l g (n + 1) + l] := rfl
def fhT (l g : Int) (i : Nat) : D := .tup [.int (KtN l g i), .int (SD l g i)]
def FHd (l g : Int) (n : Nat) : List D := (List.range n).map (fhT l g)
theorem FHd_s (l g : Int) (n : Nat) : FHd l g (n + 1) = FHd l g n ++ [fhT l g n] := by
  unfold FHd
  rw [List.range_succ, List.map_append]
  rfl
theorem FHd_len (l g : Int) (n : Nat) : (FHd l g n).length = n := by simp [FHd]
def slL (M : Mc) : Int := M.letter + 1
def slG (M : Mc) : Int := max M.g (M.o + 1)
theorem hands_ok (M : Mc) {n : Nat} (n0 : 1 ≤ n) (n1 : n ≤ 1000) (s : S) : G_first_hands c [M.d c, .int n] s = .ok (.lst (FHd (slL M) (slG M) n)) s := by
  apply eq_ok
  unfold G_first_hands
  obtain ⟨l, el⟩ : ∃ l, l = slL M := ⟨_, rfl⟩
  obtain ⟨g, eg⟩ : ∃ g, g = slG M := ⟨_, rfl⟩
  have el' : M.letter + 1 = l := el.symm
  have eg' : max M.g (M.o + 1) = g := eg.symm
  rw [← el, ← eg]
  simp (implicitDefEqProofs := false) only [fld_letter, fld_g, fld_o, el', eg', ↓w_srtT, ↓w_par2, ↓w_par3, ↓w_setd, ↓w_dict1, ↓w_maxDf, ↓w_slT, ↓w_addT, ↓w_dictT, ↓w_dictI, ↓w_get, ↓w_lrg1T, ↓w_lrg2T, ↓w_lrg1, ↓w_lrg2, ↓w_pop0, ↓w_lcT, ↓w_mth, ↓w_calm, ↓w_tryM, ↓w_tm0, ↓w_tmN, ↓w_tmS, ↓w_seq, ↓w_next, ↓w_break, ↓w_cont, ↓w_retN, ↓w_asg, ↓w_expr, ↓w_ret, ↓w_if, ↓w_asgG, ↓w_for, ↓w_put, ↓w_aug, ↓w_augS, ↓w_raise0, ↓w_raise1, ↓w_raise2, ↓w_try, ↓w_tryAs, ↓w_var, ↓w_c, ↓w_op, ↓w_chain, ↓w_notV, ↓w_andV, ↓w_orV, ↓w_ifE, ↓w_tst, ↓w_not, ↓w_and, ↓w_or, ↓w_yes, ↓w_nil, ↓w_cons, ↓w_tup, ↓w_lst, ↓w_lstT, ↓w_cb, ↓w_call, ↓w_callK, ↓w_neg, ↓w_no, ↓w_pt, ↓w_sl, ↓w_fld, ↓w_src, ↓w_rng, ↓w_enu, ↓w_listT, ↓w_app, ↓w_lc, ↓w_xf, ↓w_fldT, ↓w_make, ↓w_makeL, ↓w_run, ↓w_cut, ↓w_pure, ↓w_drop, nth2_eq, nth3_eq, w_ok, w_ex, w_nx, w_rt, w_bk, w_ct, w_exS, w_some, w_v, w_tr, w_fa, w_tb, w_ti, w_tn, w_L, w_L0, wb_not, cn_f, startD, arr, gN_eq, gTp, gTl, gCn, gNl, Option.bind_some, List.filterMap_cons, List.filterMap_nil, List.map_cons, List.map_nil, List.replicate_succ, List.replicate_zero, List.cons_append, List.nil_append, List.getElem?_cons_zero, List.getElem?_cons_succ, List.set_cons_zero, List.set_cons_succ, List.length_cons, List.length_nil, Nat.reduceAdd, Nat.reduceSub, Nat.reduceLeDiff, Nat.reduceEqDiff, Int.reducePow, Int.reduceToNat, Int.reduceNeg, Int.reduceAdd, Int.reduceMul, Int.reduceSub, Int.reduceLT, Int.reduceLE, Int.reduceEq, Nat.zero_add, Int.zero_add, big_eq, true_and, and_true, and_self, dSub_int, dAdd_int, dAddI_int, dLt_int, dLe_int, dGt_int, dGe_int, dEqD_int, bInt_int, bLen_lst, bLen_tup, bMin_int, bMax_int, bAbs_int, dIs_non, dIs_int, dIs_nn, Bool.not_true, Bool.not_false, decide_true, decide_false, reduceIte, Bool.false_eq_true, if_false, if_true, iSeq_lst, iSeq_tup, iSeq_rdl, iEnu_lst, iEnu_tup]
  refine ws_while (fun j L s' => ∃ (k : Nat) (y6 y7 : Option D), L = [some (M.d c), some (.int n), some (.int l), some (.int g), some (.ref s.length), some (.ref (s.length + 1)), y6, y7] ∧ s' = s ++ [.lst (FHd l g (k + 1)), .lst ((SN l g k).map D.int)] ∧ k + 1 ≤ n ∧ j + (k + 1) = n) 100000 (n - 1) ⟨0, none, none, by simp, by simp [FHd, fhT, KtN, SD, SN], n0, by omega⟩ (by omega) ?_
  rintro j L s' ⟨k, y6, y7, rfl, rfl, hk, hj⟩
  have hlen := FHd_len l g (k + 1)
  have hsl := SN_len l g k
  have hjl := SD_lt l g k
  have e1 : bMin1 (s ++ [.lst (FHd l g (k + 1)), .lst ((SN l g k).map D.int)]) [.ref (s.length + 1)] = some (.int (KtN l g (k + 1))) := by
    rw [bMin1_of tw_lst1, SN_ls]
    rfl
  have e2 : mIndex (s ++ [.lst (FHd l g (k + 1)), .lst ((SN l g k).map D.int)]) (.ref (s.length + 1)) [.int (KtN l g (k + 1))] = some (.int (SD l g (k + 1) : Nat), s ++ [.lst (FHd l g (k + 1)), .lst ((SN l g k).map D.int)]) := by
    rw [mIndex_of tw_lst1, SN_ix]
    rfl
  have e3 : dPut (s ++ [.lst (FHd l g (k + 1)), .lst ((SN l g k).map D.int)]) (.ref (s.length + 1)) (.int (SD l g (k + 1) : Nat)) (.int (KtN l g (k + 1) + g)) = some (s ++ [.lst (FHd l g (k + 1)), .lst (((SN l g k).map D.int).set (SD l g (k + 1)) (.int (KtN l g (k + 1) + g)))]) := tw_put1 (by rw [List.length_map]; omega) _
  simp (implicitDefEqProofs := false) only [tw_len0, hlen, ↓w_srtT, ↓w_par2, ↓w_par3, ↓w_setd, ↓w_dict1, ↓w_maxDf, ↓w_slT, ↓w_addT, ↓w_dictT, ↓w_dictI, ↓w_get, ↓w_lrg1T, ↓w_lrg2T, ↓w_lrg1, ↓w_lrg2, ↓w_pop0, ↓w_lcT, ↓w_mth, ↓w_calm, ↓w_tryM, ↓w_tm0, ↓w_tmN, ↓w_tmS, ↓w_seq, ↓w_next, ↓w_break, ↓w_cont, ↓w_retN, ↓w_asg, ↓w_expr, ↓w_ret, ↓w_if, ↓w_asgG, ↓w_for, ↓w_put, ↓w_aug, ↓w_augS, ↓w_raise0, ↓w_raise1, ↓w_raise2, ↓w_try, ↓w_tryAs, ↓w_var, ↓w_c, ↓w_op, ↓w_chain, ↓w_notV, ↓w_andV, ↓w_orV, ↓w_ifE, ↓w_tst, ↓w_not, ↓w_and, ↓w_or, ↓w_yes, ↓w_nil, ↓w_cons, ↓w_tup, ↓w_lst, ↓w_lstT, ↓w_cb, ↓w_call, ↓w_callK, ↓w_neg, ↓w_no, ↓w_pt, ↓w_sl, ↓w_fld, ↓w_src, ↓w_rng, ↓w_enu, ↓w_listT, ↓w_app, ↓w_lc, ↓w_xf, ↓w_fldT, ↓w_make, ↓w_makeL, ↓w_run, ↓w_cut, ↓w_pure, ↓w_drop, nth2_eq, nth3_eq, w_ok, w_ex, w_nx, w_rt, w_bk, w_ct, w_exS, w_some, w_v, w_tr, w_fa, w_tb, w_ti, w_tn, w_L, w_L0, wb_not, cn_f, startD, arr, gN_eq, gTp, gTl, gCn, gNl, Option.bind_some, List.filterMap_cons, List.filterMap_nil, List.map_cons, List.map_nil, List.replicate_succ, List.replicate_zero, List.cons_append, List.nil_append, List.getElem?_cons_zero, List.getElem?_cons_succ, List.set_cons_zero, List.set_cons_succ, List.length_cons, List.length_nil, Nat.reduceAdd, Nat.reduceSub, Nat.reduceLeDiff, Nat.reduceEqDiff, Int.reducePow, Int.reduceToNat, Int.reduceNeg, Int.reduceAdd, Int.reduceMul, Int.reduceSub, Int.reduceLT, Int.reduceLE, Int.reduceEq, Nat.zero_add, Int.zero_add, big_eq, true_and, and_true, and_self, dSub_int, dAdd_int, dAddI_int, dLt_int, dLe_int, dGt_int, dGe_int, dEqD_int, bInt_int, bLen_lst, bLen_tup, bMin_int, bMax_int, bAbs_int, dIs_non, dIs_int, dIs_nn, Bool.not_true, Bool.not_false, decide_true, decide_false, reduceIte, Bool.false_eq_true, if_false, if_true, iSeq_lst, iSeq_tup, iSeq_rdl, iEnu_lst, iEnu_tup]
  refine wb_dec (fun h => ?_) (fun h => ?_)
  · simp (implicitDefEqProofs := false) only [e1, tw_lst1, e2, e3, tw_isl0, tw_app0 (a := FHd l g (k + 1)) (.tup [.int (KtN l g (k + 1)), .int (SD l g (k + 1) : Nat)]) (by omega), tw_isl1, ↓w_srtT, ↓w_par2, ↓w_par3, ↓w_setd, ↓w_dict1, ↓w_maxDf, ↓w_slT, ↓w_addT, ↓w_dictT, ↓w_dictI, ↓w_get, ↓w_lrg1T, ↓w_lrg2T, ↓w_lrg1, ↓w_lrg2, ↓w_pop0, ↓w_lcT, ↓w_mth, ↓w_calm, ↓w_tryM, ↓w_tm0, ↓w_tmN, ↓w_tmS, ↓w_seq, ↓w_next, ↓w_break, ↓w_cont, ↓w_retN, ↓w_asg, ↓w_expr, ↓w_ret, ↓w_if, ↓w_asgG, ↓w_for, ↓w_put, ↓w_aug, ↓w_augS, ↓w_raise0, ↓w_raise1, ↓w_raise2, ↓w_try, ↓w_tryAs, ↓w_var, ↓w_c, ↓w_op, ↓w_chain, ↓w_notV, ↓w_andV, ↓w_orV, ↓w_ifE, ↓w_tst, ↓w_not, ↓w_and, ↓w_or, ↓w_yes, ↓w_nil, ↓w_cons, ↓w_tup, ↓w_lst, ↓w_lstT, ↓w_cb, ↓w_call, ↓w_callK, ↓w_neg, ↓w_no, ↓w_pt, ↓w_sl, ↓w_fld, ↓w_src, ↓w_rng, ↓w_enu, ↓w_listT, ↓w_app, ↓w_lc, ↓w_xf, ↓w_fldT, ↓w_make, ↓w_makeL, ↓w_run, ↓w_cut, ↓w_pure, ↓w_drop, nth2_eq, nth3_eq, w_ok, w_ex, w_nx, w_rt, w_bk, w_ct, w_exS, w_some, w_v, w_tr, w_fa, w_tb, w_ti, w_tn, w_L, w_L0, wb_not, cn_f, startD, arr, gN_eq, gTp, gTl, gCn, gNl, Option.bind_some, List.filterMap_cons, List.filterMap_nil, List.map_cons, List.map_nil, List.replicate_succ, List.replicate_zero, List.cons_append, List.nil_append, List.getElem?_cons_zero, List.getElem?_cons_succ, List.set_cons_zero, List.set_cons_succ, List.length_cons, List.length_nil, Nat.reduceAdd, Nat.reduceSub, Nat.reduceLeDiff, Nat.reduceEqDiff, Int.reducePow, Int.reduceToNat, Int.reduceNeg, Int.reduceAdd, Int.reduceMul, Int.reduceSub, Int.reduceLT, Int.reduceLE, Int.reduceEq, Nat.zero_add, Int.zero_add, big_eq, true_and, and_true, and_self, dSub_int, dAdd_int, dAddI_int, dLt_int, dLe_int, dGt_int, dGe_int, dEqD_int, bInt_int, bLen_lst, bLen_tup, bMin_int, bMax_int, bAbs_int, dIs_non, dIs_int, dIs_nn, Bool.not_true, Bool.not_false, decide_true, decide_false, reduceIte, Bool.false_eq_true, if_false, if_true, iSeq_lst, iSeq_tup, iSeq_rdl, iEnu_lst, iEnu_tup]
    rw [tw_app1 _ (by rw [List.length_set, List.length_map]; omega)]
    simp (implicitDefEqProofs := false) only [↓w_srtT, ↓w_par2, ↓w_par3, ↓w_setd, ↓w_dict1, ↓w_maxDf, ↓w_slT, ↓w_addT, ↓w_dictT, ↓w_dictI, ↓w_get, ↓w_lrg1T, ↓w_lrg2T, ↓w_lrg1, ↓w_lrg2, ↓w_pop0, ↓w_lcT, ↓w_mth, ↓w_calm, ↓w_tryM, ↓w_tm0, ↓w_tmN, ↓w_tmS, ↓w_seq, ↓w_next, ↓w_break, ↓w_cont, ↓w_retN, ↓w_asg, ↓w_expr, ↓w_ret, ↓w_if, ↓w_asgG, ↓w_for, ↓w_put, ↓w_aug, ↓w_augS, ↓w_raise0, ↓w_raise1, ↓w_raise2, ↓w_try, ↓w_tryAs, ↓w_var, ↓w_c, ↓w_op, ↓w_chain, ↓w_notV, ↓w_andV, ↓w_orV, ↓w_ifE, ↓w_tst, ↓w_not, ↓w_and, ↓w_or, ↓w_yes, ↓w_nil, ↓w_cons, ↓w_tup, ↓w_lst, ↓w_lstT, ↓w_cb, ↓w_call, ↓w_callK, ↓w_neg, ↓w_no, ↓w_pt, ↓w_sl, ↓w_fld, ↓w_src, ↓w_rng, ↓w_enu, ↓w_listT, ↓w_app, ↓w_lc, ↓w_xf, ↓w_fldT, ↓w_make, ↓w_makeL, ↓w_run, ↓w_cut, ↓w_pure, ↓w_drop, nth2_eq, nth3_eq, w_ok, w_ex, w_nx, w_rt, w_bk, w_ct, w_exS, w_some, w_v, w_tr, w_fa, w_tb, w_ti, w_tn, w_L, w_L0, wb_not, cn_f, startD, arr, gN_eq, gTp, gTl, gCn, gNl, Option.bind_some, List.filterMap_cons, List.filterMap_nil, List.map_cons, List.map_nil, List.replicate_succ, List.replicate_zero, List.cons_append, List.nil_append, List.getElem?_cons_zero, List.getElem?_cons_succ, List.set_cons_zero, List.set_cons_succ, List.length_cons, List.length_nil, Nat.reduceAdd, Nat.reduceSub, Nat.reduceLeDiff, Nat.reduceEqDiff, Int.reducePow, Int.reduceToNat, Int.reduceNeg, Int.reduceAdd, Int.reduceMul, Int.reduceSub, Int.reduceLT, Int.reduceLE, Int.reduceEq, Nat.zero_add, Int.zero_add, big_eq, true_and, and_true, and_self, dSub_int, dAdd_int, dAddI_int, dLt_int, dLe_int, dGt_int, dGe_int, dEqD_int, bInt_int, bLen_lst, bLen_tup, bMin_int, bMax_int, bAbs_int, dIs_non, dIs_int, dIs_nn, Bool.not_true, Bool.not_false, decide_true, decide_false, reduceIte, Bool.false_eq_true, if_false, if_true, iSeq_lst, iSeq_tup, iSeq_rdl, iEnu_lst, iEnu_tup]
    refine ⟨j - 1, by omega, k + 1, _, _, rfl, ?_, by omega, by omega⟩
    rw [FHd_s l g (k + 1), SN_s, List.map_append, List.map_set]
    rfl
  · simp (implicitDefEqProofs := false) only [↓w_srtT, ↓w_par2, ↓w_par3, ↓w_setd, ↓w_dict1, ↓w_maxDf, ↓w_slT, ↓w_addT, ↓w_dictT, ↓w_dictI, ↓w_get, ↓w_lrg1T, ↓w_lrg2T, ↓w_lrg1, ↓w_lrg2, ↓w_pop0, ↓w_lcT, ↓w_mth, ↓w_calm, ↓w_tryM, ↓w_tm0, ↓w_tmN, ↓w_tmS, ↓w_seq, ↓w_next, ↓w_break, ↓w_cont, ↓w_retN, ↓w_asg, ↓w_expr, ↓w_ret, ↓w_if, ↓w_asgG, ↓w_for, ↓w_put, ↓w_aug, ↓w_augS, ↓w_raise0, ↓w_raise1, ↓w_raise2, ↓w_try, ↓w_tryAs, ↓w_var, ↓w_c, ↓w_op, ↓w_chain, ↓w_notV, ↓w_andV, ↓w_orV, ↓w_ifE, ↓w_tst, ↓w_not, ↓w_and, ↓w_or, ↓w_yes, ↓w_nil, ↓w_cons, ↓w_tup, ↓w_lst, ↓w_lstT, ↓w_cb, ↓w_call, ↓w_callK, ↓w_neg, ↓w_no, ↓w_pt, ↓w_sl, ↓w_fld, ↓w_src, ↓w_rng, ↓w_enu, ↓w_listT, ↓w_app, ↓w_lc, ↓w_xf, ↓w_fldT, ↓w_make, ↓w_makeL, ↓w_run, ↓w_cut, ↓w_pure, ↓w_drop, nth2_eq, nth3_eq, w_ok, w_ex, w_nx, w_rt, w_bk, w_ct, w_exS, w_some, w_v, w_tr, w_fa, w_tb, w_ti, w_tn, w_L, w_L0, wb_not, cn_f, startD, arr, gN_eq, gTp, gTl, gCn, gNl, Option.bind_some, List.filterMap_cons, List.filterMap_nil, List.map_cons, List.map_nil, List.replicate_succ, List.replicate_zero, List.cons_append, List.nil_append, List.getElem?_cons_zero, List.getElem?_cons_succ, List.set_cons_zero, List.set_cons_succ, List.length_cons, List.length_nil, Nat.reduceAdd, Nat.reduceSub, Nat.reduceLeDiff, Nat.reduceEqDiff, Int.reducePow, Int.reduceToNat, Int.reduceNeg, Int.reduceAdd, Int.reduceMul, Int.reduceSub, Int.reduceLT, Int.reduceLE, Int.reduceEq, Nat.zero_add, Int.zero_add, big_eq, true_and, and_true, and_self, dSub_int, dAdd_int, dAddI_int, dLt_int, dLe_int, dGt_int, dGe_int, dEqD_int, bInt_int, bLen_lst, bLen_tup, bMin_int, bMax_int, bAbs_int, dIs_non, dIs_int, dIs_nn, Bool.not_true, Bool.not_false, decide_true, decide_false, reduceIte, Bool.false_eq_true, if_false, if_true, iSeq_lst, iSeq_tup, iSeq_rdl, iEnu_lst, iEnu_tup]
    have hkn : k + 1 = n := by omega
    subst hkn
    refine ⟨by simp, ?_⟩
    rw [fin2_ref (Nat.le_refl _) tw_get0 ?_]
    · simp (implicitDefEqProofs := false) only [↓w_srtT, ↓w_par2, ↓w_par3, ↓w_setd, ↓w_dict1, ↓w_maxDf, ↓w_slT, ↓w_addT, ↓w_dictT, ↓w_dictI, ↓w_get, ↓w_lrg1T, ↓w_lrg2T, ↓w_lrg1, ↓w_lrg2, ↓w_pop0, ↓w_lcT, ↓w_mth, ↓w_calm, ↓w_tryM, ↓w_tm0, ↓w_tmN, ↓w_tmS, ↓w_seq, ↓w_next, ↓w_break, ↓w_cont, ↓w_retN, ↓w_asg, ↓w_expr, ↓w_ret, ↓w_if, ↓w_asgG, ↓w_for, ↓w_put, ↓w_aug, ↓w_augS, ↓w_raise0, ↓w_raise1, ↓w_raise2, ↓w_try, ↓w_tryAs, ↓w_var, ↓w_c, ↓w_op, ↓w_chain, ↓w_notV, ↓w_andV, ↓w_orV, ↓w_ifE, ↓w_tst, ↓w_not, ↓w_and, ↓w_or, ↓w_yes, ↓w_nil, ↓w_cons, ↓w_tup, ↓w_lst, ↓w_lstT, ↓w_cb, ↓w_call, ↓w_callK, ↓w_neg, ↓w_no, ↓w_pt, ↓w_sl, ↓w_fld, ↓w_src, ↓w_rng, ↓w_enu, ↓w_listT, ↓w_app, ↓w_lc, ↓w_xf, ↓w_fldT, ↓w_make, ↓w_makeL, ↓w_run, ↓w_cut, ↓w_pure, ↓w_drop, nth2_eq, nth3_eq, w_ok, w_ex, w_nx, w_rt, w_bk, w_ct, w_exS, w_some, w_v, w_tr, w_fa, w_tb, w_ti, w_tn, w_L, w_L0, wb_not, cn_f, startD, arr, gN_eq, gTp, gTl, gCn, gNl, Option.bind_some, List.filterMap_cons, List.filterMap_nil, List.map_cons, List.map_nil, List.replicate_succ, List.replicate_zero, List.cons_append, List.nil_append, List.getElem?_cons_zero, List.getElem?_cons_succ, List.set_cons_zero, List.set_cons_succ, List.length_cons, List.length_nil, Nat.reduceAdd, Nat.reduceSub, Nat.reduceLeDiff, Nat.reduceEqDiff, Int.reducePow, Int.reduceToNat, Int.reduceNeg, Int.reduceAdd, Int.reduceMul, Int.reduceSub, Int.reduceLT, Int.reduceLE, Int.reduceEq, Nat.zero_add, Int.zero_add, big_eq, true_and, and_true, and_self, dSub_int, dAdd_int, dAddI_int, dLt_int, dLe_int, dGt_int, dGe_int, dEqD_int, bInt_int, bLen_lst, bLen_tup, bMin_int, bMax_int, bAbs_int, dIs_non, dIs_int, dIs_nn, Bool.not_true, Bool.not_false, decide_true, decide_false, reduceIte, Bool.false_eq_true, if_false, if_true, iSeq_lst, iSeq_tup, iSeq_rdl, iEnu_lst, iEnu_tup]
    · intro x hx
      obtain ⟨i, _, rfl⟩ := List.mem_map.mp hx
      exact pur_tup fun y hy => by
        simp only [List.mem_cons, List.not_mem_nil, or_false] at hy
        rcases hy with rfl | rfl <;> exact pur_int _
/-- what the hands behind hand 0 add -/
def sgS (l g o x : Int) : Nat → Int
  | 0 => 0
  | k + 1 => sgS l g o x k + max 0 (x - KtN l g (k + 1) - o)
def GT (M : Mc) (n : Nat) (x : Int) : Int := x + 1 + sgS (slL M) (slG M) M.o x (n - 1)
theorem sgS_sum (l g o x : Int) : ∀ k, ((List.range k).map fun i => max 0 (x - KtN l g (i + 1) - o)).sum = sgS l g o x k
  | 0 => rfl
  | k + 1 => by
    rw [List.range_succ, List.map_append, List.sum_append, sgS_sum l g o x k, sgS]
    simp
theorem cut1L (x : D) (xs : List D) (s : S) : dSl s (.lst (x :: xs)) (some 1) none = some (.lst xs) := by
  show some (D.lst (cutD (x :: xs) (some 1) none)) = _
  have : cutD (x :: xs) (some 1) none = xs := by
    unfold cutD
    rw [HT.sIx_none, show (some (1 : Int)) = some ((1 : Nat) : Int) from rfl, HT.sIx_nat]
    rw [show min 1 (x :: xs).length = 1 by simp]
    simp
  rw [this]
theorem FHd_cut (l g : Int) {n : Nat} (n0 : 1 ≤ n) (s : S) : dSl s (.lst (FHd l g n)) (some 1) none = some (.lst ((List.range (n - 1)).map fun i => fhT l g (i + 1))) := by
  obtain ⟨m, rfl⟩ : ∃ m, n = m + 1 := ⟨n - 1, by omega⟩
  have : FHd l g (m + 1) = fhT l g 0 :: (List.range m).map fun i => fhT l g (i + 1) := by
    unfold FHd
    rw [List.range_succ_eq_map, List.map_cons, List.map_map]
    rfl
  rw [this, cut1L]
  rfl
theorem bSum_ints (s : S) (is : List Int) : bSum s [.lst (is.map D.int)] = some (.int is.sum) := by
  show ((some (is.map D.int)).bind intsOf).map _ = _
  rw [Option.bind_some, intsOf_map]
  rfl
theorem greatest_ok (M : Mc) {n : Nat} (n0 : 1 ≤ n) (n1 : n ≤ 1000) (x : Int) (s : S) (hs : s.all (O.bel s.length) = true) : G_greatest c [M.d c, .int n, .int x] s = .ok (.int (GT M n x)) s := by
  apply eq_ok
  unfold G_greatest
  simp (implicitDefEqProofs := false) only [hands_ok M n0 n1, FHd_cut _ _ n0, ↓w_srtT, ↓w_par2, ↓w_par3, ↓w_setd, ↓w_dict1, ↓w_maxDf, ↓w_slT, ↓w_addT, ↓w_dictT, ↓w_dictI, ↓w_get, ↓w_lrg1T, ↓w_lrg2T, ↓w_lrg1, ↓w_lrg2, ↓w_pop0, ↓w_lcT, ↓w_mth, ↓w_calm, ↓w_tryM, ↓w_tm0, ↓w_tmN, ↓w_tmS, ↓w_seq, ↓w_next, ↓w_break, ↓w_cont, ↓w_retN, ↓w_asg, ↓w_expr, ↓w_ret, ↓w_if, ↓w_asgG, ↓w_for, ↓w_put, ↓w_aug, ↓w_augS, ↓w_raise0, ↓w_raise1, ↓w_raise2, ↓w_try, ↓w_tryAs, ↓w_var, ↓w_c, ↓w_op, ↓w_chain, ↓w_notV, ↓w_andV, ↓w_orV, ↓w_ifE, ↓w_tst, ↓w_not, ↓w_and, ↓w_or, ↓w_yes, ↓w_nil, ↓w_cons, ↓w_tup, ↓w_lst, ↓w_lstT, ↓w_cb, ↓w_call, ↓w_callK, ↓w_neg, ↓w_no, ↓w_pt, ↓w_sl, ↓w_fld, ↓w_src, ↓w_rng, ↓w_enu, ↓w_listT, ↓w_app, ↓w_lc, ↓w_xf, ↓w_fldT, ↓w_make, ↓w_makeL, ↓w_run, ↓w_cut, ↓w_pure, ↓w_drop, nth2_eq, nth3_eq, w_ok, w_ex, w_nx, w_rt, w_bk, w_ct, w_exS, w_some, w_v, w_tr, w_fa, w_tb, w_ti, w_tn, w_L, w_L0, wb_not, cn_f, startD, arr, gN_eq, gTp, gTl, gCn, gNl, Option.bind_some, List.filterMap_cons, List.filterMap_nil, List.map_cons, List.map_nil, List.replicate_succ, List.replicate_zero, List.cons_append, List.nil_append, List.getElem?_cons_zero, List.getElem?_cons_succ, List.set_cons_zero, List.set_cons_succ, List.length_cons, List.length_nil, Nat.reduceAdd, Nat.reduceSub, Nat.reduceLeDiff, Nat.reduceEqDiff, Int.reducePow, Int.reduceToNat, Int.reduceNeg, Int.reduceAdd, Int.reduceMul, Int.reduceSub, Int.reduceLT, Int.reduceLE, Int.reduceEq, Nat.zero_add, Int.zero_add, big_eq, true_and, and_true, and_self, dSub_int, dAdd_int, dAddI_int, dLt_int, dLe_int, dGt_int, dGe_int, dEqD_int, bInt_int, bLen_lst, bLen_tup, bMin_int, bMax_int, bAbs_int, dIs_non, dIs_int, dIs_nn, Bool.not_true, Bool.not_false, decide_true, decide_false, reduceIte, Bool.false_eq_true, if_false, if_true, iSeq_lst, iSeq_tup, iSeq_rdl, iEnu_lst, iEnu_tup]
  refine lc_all (List.range (n - 1)) (fun i => fhT (slL M) (slG M) (i + 1)) (fun i => D.int (max 0 (x - KtN (slL M) (slG M) (i + 1) - M.o))) rfl (fun acc => rfl) (by rw [List.length_range]; omega) (fun i hi acc => ?_) hs ?_ ?_
  · unfold fhT
    simp (implicitDefEqProofs := false) only [wipeD, fld_o, ↓w_srtT, ↓w_par2, ↓w_par3, ↓w_setd, ↓w_dict1, ↓w_maxDf, ↓w_slT, ↓w_addT, ↓w_dictT, ↓w_dictI, ↓w_get, ↓w_lrg1T, ↓w_lrg2T, ↓w_lrg1, ↓w_lrg2, ↓w_pop0, ↓w_lcT, ↓w_mth, ↓w_calm, ↓w_tryM, ↓w_tm0, ↓w_tmN, ↓w_tmS, ↓w_seq, ↓w_next, ↓w_break, ↓w_cont, ↓w_retN, ↓w_asg, ↓w_expr, ↓w_ret, ↓w_if, ↓w_asgG, ↓w_for, ↓w_put, ↓w_aug, ↓w_augS, ↓w_raise0, ↓w_raise1, ↓w_raise2, ↓w_try, ↓w_tryAs, ↓w_var, ↓w_c, ↓w_op, ↓w_chain, ↓w_notV, ↓w_andV, ↓w_orV, ↓w_ifE, ↓w_tst, ↓w_not, ↓w_and, ↓w_or, ↓w_yes, ↓w_nil, ↓w_cons, ↓w_tup, ↓w_lst, ↓w_lstT, ↓w_cb, ↓w_call, ↓w_callK, ↓w_neg, ↓w_no, ↓w_pt, ↓w_sl, ↓w_fld, ↓w_src, ↓w_rng, ↓w_enu, ↓w_listT, ↓w_app, ↓w_lc, ↓w_xf, ↓w_fldT, ↓w_make, ↓w_makeL, ↓w_run, ↓w_cut, ↓w_pure, ↓w_drop, nth2_eq, nth3_eq, w_ok, w_ex, w_nx, w_rt, w_bk, w_ct, w_exS, w_some, w_v, w_tr, w_fa, w_tb, w_ti, w_tn, w_L, w_L0, wb_not, cn_f, startD, arr, gN_eq, gTp, gTl, gCn, gNl, Option.bind_some, List.filterMap_cons, List.filterMap_nil, List.map_cons, List.map_nil, List.replicate_succ, List.replicate_zero, List.cons_append, List.nil_append, List.getElem?_cons_zero, List.getElem?_cons_succ, List.set_cons_zero, List.set_cons_succ, List.length_cons, List.length_nil, Nat.reduceAdd, Nat.reduceSub, Nat.reduceLeDiff, Nat.reduceEqDiff, Int.reducePow, Int.reduceToNat, Int.reduceNeg, Int.reduceAdd, Int.reduceMul, Int.reduceSub, Int.reduceLT, Int.reduceLE, Int.reduceEq, Nat.zero_add, Int.zero_add, big_eq, true_and, and_true, and_self, dSub_int, dAdd_int, dAddI_int, dLt_int, dLe_int, dGt_int, dGe_int, dEqD_int, bInt_int, bLen_lst, bLen_tup, bMin_int, bMax_int, bAbs_int, dIs_non, dIs_int, dIs_nn, Bool.not_true, Bool.not_false, decide_true, decide_false, reduceIte, Bool.false_eq_true, if_false, if_true, iSeq_lst, iSeq_tup, iSeq_rdl, iEnu_lst, iEnu_tup]
  · have : (List.range (n - 1)).map (fun i => D.int (max 0 (x - KtN (slL M) (slG M) (i + 1) - M.o))) = ((List.range (n - 1)).map fun i => max 0 (x - KtN (slL M) (slG M) (i + 1) - M.o)).map D.int := by rw [List.map_map]; rfl
    rw [this]
    exact bels_ints ..
  · have : (List.range (n - 1)).map (fun i => D.int (max 0 (x - KtN (slL M) (slG M) (i + 1) - M.o))) = ((List.range (n - 1)).map fun i => max 0 (x - KtN (slL M) (slG M) (i + 1) - M.o)).map D.int := by rw [List.map_map]; rfl
    rw [this]
    simp (implicitDefEqProofs := false) only [bSum_ints, sgS_sum, ↓w_srtT, ↓w_par2, ↓w_par3, ↓w_setd, ↓w_dict1, ↓w_maxDf, ↓w_slT, ↓w_addT, ↓w_dictT, ↓w_dictI, ↓w_get, ↓w_lrg1T, ↓w_lrg2T, ↓w_lrg1, ↓w_lrg2, ↓w_pop0, ↓w_lcT, ↓w_mth, ↓w_calm, ↓w_tryM, ↓w_tm0, ↓w_tmN, ↓w_tmS, ↓w_seq, ↓w_next, ↓w_break, ↓w_cont, ↓w_retN, ↓w_asg, ↓w_expr, ↓w_ret, ↓w_if, ↓w_asgG, ↓w_for, ↓w_put, ↓w_aug, ↓w_augS, ↓w_raise0, ↓w_raise1, ↓w_raise2, ↓w_try, ↓w_tryAs, ↓w_var, ↓w_c, ↓w_op, ↓w_chain, ↓w_notV, ↓w_andV, ↓w_orV, ↓w_ifE, ↓w_tst, ↓w_not, ↓w_and, ↓w_or, ↓w_yes, ↓w_nil, ↓w_cons, ↓w_tup, ↓w_lst, ↓w_lstT, ↓w_cb, ↓w_call, ↓w_callK, ↓w_neg, ↓w_no, ↓w_pt, ↓w_sl, ↓w_fld, ↓w_src, ↓w_rng, ↓w_enu, ↓w_listT, ↓w_app, ↓w_lc, ↓w_xf, ↓w_fldT, ↓w_make, ↓w_makeL, ↓w_run, ↓w_cut, ↓w_pure, ↓w_drop, nth2_eq, nth3_eq, w_ok, w_ex, w_nx, w_rt, w_bk, w_ct, w_exS, w_some, w_v, w_tr, w_fa, w_tb, w_ti, w_tn, w_L, w_L0, wb_not, cn_f, startD, arr, gN_eq, gTp, gTl, gCn, gNl, Option.bind_some, List.filterMap_cons, List.filterMap_nil, List.map_cons, List.map_nil, List.replicate_succ, List.replicate_zero, List.cons_append, List.nil_append, List.getElem?_cons_zero, List.getElem?_cons_succ, List.set_cons_zero, List.set_cons_succ, List.length_cons, List.length_nil, Nat.reduceAdd, Nat.reduceSub, Nat.reduceLeDiff, Nat.reduceEqDiff, Int.reducePow, Int.reduceToNat, Int.reduceNeg, Int.reduceAdd, Int.reduceMul, Int.reduceSub, Int.reduceLT, Int.reduceLE, Int.reduceEq, Nat.zero_add, Int.zero_add, big_eq, true_and, and_true, and_self, dSub_int, dAdd_int, dAddI_int, dLt_int, dLe_int, dGt_int, dGe_int, dEqD_int, bInt_int, bLen_lst, bLen_tup, bMin_int, bMax_int, bAbs_int, dIs_non, dIs_int, dIs_nn, Bool.not_true, Bool.not_false, decide_true, decide_false, reduceIte, Bool.false_eq_true, if_false, if_true, iSeq_lst, iSeq_tup, iSeq_rdl, iEnu_lst, iEnu_tup]
    rfl
theorem end_ok {x : Int} (x0 : 0 ≤ x) (x1 : x ≤ 1000000000000) (s : S) : G_checked_end c [.int x] s = .ok (.int x) s := by
  apply eq_ok
  unfold G_checked_end
  simp (implicitDefEqProofs := false) only [between_int (c := c) x0 x1, ↓w_srtT, ↓w_par2, ↓w_par3, ↓w_setd, ↓w_dict1, ↓w_maxDf, ↓w_slT, ↓w_addT, ↓w_dictT, ↓w_dictI, ↓w_get, ↓w_lrg1T, ↓w_lrg2T, ↓w_lrg1, ↓w_lrg2, ↓w_pop0, ↓w_lcT, ↓w_mth, ↓w_calm, ↓w_tryM, ↓w_tm0, ↓w_tmN, ↓w_tmS, ↓w_seq, ↓w_next, ↓w_break, ↓w_cont, ↓w_retN, ↓w_asg, ↓w_expr, ↓w_ret, ↓w_if, ↓w_asgG, ↓w_for, ↓w_put, ↓w_aug, ↓w_augS, ↓w_raise0, ↓w_raise1, ↓w_raise2, ↓w_try, ↓w_tryAs, ↓w_var, ↓w_c, ↓w_op, ↓w_chain, ↓w_notV, ↓w_andV, ↓w_orV, ↓w_ifE, ↓w_tst, ↓w_not, ↓w_and, ↓w_or, ↓w_yes, ↓w_nil, ↓w_cons, ↓w_tup, ↓w_lst, ↓w_lstT, ↓w_cb, ↓w_call, ↓w_callK, ↓w_neg, ↓w_no, ↓w_pt, ↓w_sl, ↓w_fld, ↓w_src, ↓w_rng, ↓w_enu, ↓w_listT, ↓w_app, ↓w_lc, ↓w_xf, ↓w_fldT, ↓w_make, ↓w_makeL, ↓w_run, ↓w_cut, ↓w_pure, ↓w_drop, nth2_eq, nth3_eq, w_ok, w_ex, w_nx, w_rt, w_bk, w_ct, w_exS, w_some, w_v, w_tr, w_fa, w_tb, w_ti, w_tn, w_L, w_L0, wb_not, cn_f, startD, arr, gN_eq, gTp, gTl, gCn, gNl, Option.bind_some, List.filterMap_cons, List.filterMap_nil, List.map_cons, List.map_nil, List.replicate_succ, List.replicate_zero, List.cons_append, List.nil_append, List.getElem?_cons_zero, List.getElem?_cons_succ, List.set_cons_zero, List.set_cons_succ, List.length_cons, List.length_nil, Nat.reduceAdd, Nat.reduceSub, Nat.reduceLeDiff, Nat.reduceEqDiff, Int.reducePow, Int.reduceToNat, Int.reduceNeg, Int.reduceAdd, Int.reduceMul, Int.reduceSub, Int.reduceLT, Int.reduceLE, Int.reduceEq, Nat.zero_add, Int.zero_add, big_eq, true_and, and_true, and_self, dSub_int, dAdd_int, dAddI_int, dLt_int, dLe_int, dGt_int, dGe_int, dEqD_int, bInt_int, bLen_lst, bLen_tup, bMin_int, bMax_int, bAbs_int, dIs_non, dIs_int, dIs_nn, Bool.not_true, Bool.not_false, decide_true, decide_false, reduceIte, Bool.false_eq_true, if_false, if_true, iSeq_lst, iSeq_tup, iSeq_rdl, iEnu_lst, iEnu_tup]
theorem summed_ok (M : Mc) {n : Nat} (n0 : 1 ≤ n) (n1 : n ≤ 40) {x : Int} (x0 : 0 ≤ x) (x1 : x ≤ 1000000000000) (s : S) (hs : s.all (O.bel s.length) = true) : G_most_summed c [M.d c, .int n, .int x] s = .ok (.int (GT M n x)) s := by
  apply eq_ok
  unfold G_most_summed
  simp (implicitDefEqProofs := false) only [count_ok (c := c) (show (1 : Int) ≤ n by omega) (show (n : Int) ≤ 40 by omega), end_ok x0 x1, greatest_ok M n0 (show n ≤ 1000 by omega) x s hs, ↓w_srtT, ↓w_par2, ↓w_par3, ↓w_setd, ↓w_dict1, ↓w_maxDf, ↓w_slT, ↓w_addT, ↓w_dictT, ↓w_dictI, ↓w_get, ↓w_lrg1T, ↓w_lrg2T, ↓w_lrg1, ↓w_lrg2, ↓w_pop0, ↓w_lcT, ↓w_mth, ↓w_calm, ↓w_tryM, ↓w_tm0, ↓w_tmN, ↓w_tmS, ↓w_seq, ↓w_next, ↓w_break, ↓w_cont, ↓w_retN, ↓w_asg, ↓w_expr, ↓w_ret, ↓w_if, ↓w_asgG, ↓w_for, ↓w_put, ↓w_aug, ↓w_augS, ↓w_raise0, ↓w_raise1, ↓w_raise2, ↓w_try, ↓w_tryAs, ↓w_var, ↓w_c, ↓w_op, ↓w_chain, ↓w_notV, ↓w_andV, ↓w_orV, ↓w_ifE, ↓w_tst, ↓w_not, ↓w_and, ↓w_or, ↓w_yes, ↓w_nil, ↓w_cons, ↓w_tup, ↓w_lst, ↓w_lstT, ↓w_cb, ↓w_call, ↓w_callK, ↓w_neg, ↓w_no, ↓w_pt, ↓w_sl, ↓w_fld, ↓w_src, ↓w_rng, ↓w_enu, ↓w_listT, ↓w_app, ↓w_lc, ↓w_xf, ↓w_fldT, ↓w_make, ↓w_makeL, ↓w_run, ↓w_cut, ↓w_pure, ↓w_drop, nth2_eq, nth3_eq, w_ok, w_ex, w_nx, w_rt, w_bk, w_ct, w_exS, w_some, w_v, w_tr, w_fa, w_tb, w_ti, w_tn, w_L, w_L0, wb_not, cn_f, startD, arr, gN_eq, gTp, gTl, gCn, gNl, Option.bind_some, List.filterMap_cons, List.filterMap_nil, List.map_cons, List.map_nil, List.replicate_succ, List.replicate_zero, List.cons_append, List.nil_append, List.getElem?_cons_zero, List.getElem?_cons_succ, List.set_cons_zero, List.set_cons_succ, List.length_cons, List.length_nil, Nat.reduceAdd, Nat.reduceSub, Nat.reduceLeDiff, Nat.reduceEqDiff, Int.reducePow, Int.reduceToNat, Int.reduceNeg, Int.reduceAdd, Int.reduceMul, Int.reduceSub, Int.reduceLT, Int.reduceLE, Int.reduceEq, Nat.zero_add, Int.zero_add, big_eq, true_and, and_true, and_self, dSub_int, dAdd_int, dAddI_int, dLt_int, dLe_int, dGt_int, dGe_int, dEqD_int, bInt_int, bLen_lst, bLen_tup, bMin_int, bMax_int, bAbs_int, dIs_non, dIs_int, dIs_nn, Bool.not_true, Bool.not_false, decide_true, decide_false, reduceIte, Bool.false_eq_true, if_false, if_true, iSeq_lst, iSeq_tup, iSeq_rdl, iEnu_lst, iEnu_tup]
/-! how it grows -/
end Pg

/-! sums by all schedules: a search over small machines, in plain Lean; the kernel looks at each -/
namespace Pg
open PySem L2 SI Mt
/-- the times from a to b -/
def rgT (a b : Int) : List Int := (List.range (b - a).toNat).map fun (i : Nat) => a + (i : Int)
def rgH (left : Nat) : List Nat := (List.range left).map fun i => i + 1
/-- what letters bring that are received ahead of those that were chosen; fuel -/
def Lq (o l g : Int) : Nat → Nat → Int → Int → Int → Int
  | 0, _, _, _, _ => 0
  | k + 1, left, e, later, before => if e < (later + 1) * (o + 1) then 0 else
      (rgT (2 * o + l) (min (e - later * o - later - 1) (before - max o g) + 1)).foldl (fun b t => (rgH left).foldl (fun b h => max b (t - 2 * o - l + 1 + Lq o l g k (h - 1) (t - 2 * o - l) 0 (t - 2 * o - l + 100) - o - 1 + Lq o l g k (left - h) e (later + 1) t)) b) 0
def LV (o l g : Int) (left : Nat) (e later before : Int) : Int := Lq o l g (left + 1) left e later before
def BV (o l g e : Int) (h : Nat) : Int := e + 1 + LV o l g (h - 1) e 0 (e + 100)
theorem foldl_cg {α β : Type} {f g : β → α → β} : ∀ {xs : List α} {b : β}, (∀ b x, x ∈ xs → f b x = g b x) → xs.foldl f b = xs.foldl g b
  | [], b, _ => rfl
  | x :: xs, b, h => by
    rw [List.foldl_cons, List.foldl_cons, h b x (.head _)]
    exact foldl_cg fun b y hy => h b y (.tail _ hy)
theorem Lq_st (o l g : Int) : ∀ (k left : Nat) (e later before : Int), left < k → Lq o l g (k + 1) left e later before = Lq o l g k left e later before
  | 0, left, e, later, before, h => by omega
  | k + 1, left, e, later, before, h => by
    have e1 : ∀ j, Lq o l g (j + 1) left e later before = if e < (later + 1) * (o + 1) then 0 else
      (rgT (2 * o + l) (min (e - later * o - later - 1) (before - max o g) + 1)).foldl (fun b t => (rgH left).foldl (fun b h => max b (t - 2 * o - l + 1 + Lq o l g j (h - 1) (t - 2 * o - l) 0 (t - 2 * o - l + 100) - o - 1 + Lq o l g j (left - h) e (later + 1) t)) b) 0 := fun j => rfl
    rw [e1, e1]
    by_cases hc : e < (later + 1) * (o + 1)
    · rw [if_pos hc, if_pos hc]
    · rw [if_neg hc, if_neg hc]
      refine foldl_cg fun b t _ => foldl_cg fun b x hx => ?_
      obtain ⟨i, hi, rfl⟩ := List.mem_map.mp hx
      have hi := List.mem_range.mp hi
      rw [Lq_st o l g k _ _ _ _ (by omega), Lq_st o l g k _ _ _ _ (by omega)]
theorem Lq_any (o l g : Int) {left k : Nat} (h : left < k) (e later before : Int) : Lq o l g k left e later before = LV o l g left e later before := by
  obtain ⟨d, rfl⟩ : ∃ d, k = left + 1 + d := ⟨k - (left + 1), by omega⟩
  clear h
  induction d with
  | zero => rfl
  | succ d ih =>
    rw [show left + 1 + (d + 1) = left + 1 + d + 1 by omega, Lq_st o l g (left + 1 + d) left e later before (by omega), ih]
theorem LV_s (o l g : Int) (left : Nat) (e later before : Int) : LV o l g left e later before = if e < (later + 1) * (o + 1) then 0 else
      (rgT (2 * o + l) (min (e - later * o - later - 1) (before - max o g) + 1)).foldl (fun b t => (rgH left).foldl (fun b h => max b (BV o l g (t - 2 * o - l) h - o - 1 + LV o l g (left - h) e (later + 1) t)) b) 0 := by
  have e1 : LV o l g left e later before = if e < (later + 1) * (o + 1) then 0 else
      (rgT (2 * o + l) (min (e - later * o - later - 1) (before - max o g) + 1)).foldl (fun b t => (rgH left).foldl (fun b h => max b (t - 2 * o - l + 1 + Lq o l g left (h - 1) (t - 2 * o - l) 0 (t - 2 * o - l + 100) - o - 1 + Lq o l g left (left - h) e (later + 1) t)) b) 0 := rfl
  rw [e1]
  by_cases hc : e < (later + 1) * (o + 1)
  · rw [if_pos hc, if_pos hc]
  · rw [if_neg hc, if_neg hc]
    refine foldl_cg fun b t _ => foldl_cg fun b x hx => ?_
    obtain ⟨i, hi, rfl⟩ := List.mem_map.mp hx
    have hi := List.mem_range.mp hi
    rw [Lq_any o l g (by omega), Lq_any o l g (by omega)]
    rfl
/-- all machines and times that the law draws -/
def chkS : Bool := (List.range 4).all fun o => (List.range 5).all fun l => (List.range 6).all fun g => (o == 0 && l == 0) || (List.range 10).all fun T => (List.range 4).all fun n => decide (GT ⟨o, l, (g : Int) + 1⟩ (n + 1) T = BV o l ((g : Int) + 1) T (n + 1))
theorem chkS_ok : chkS = true := by decide +kernel
end Pg

/-! words that laws compare -/
namespace SI
open PySem L2 Pg Mt
variable {c : Cl} {M : Mc} {t : Option Nat}
def isG (c : Cl) : List D → S → R D := runF 2
  ((sRet (fAndV (fCB (bIsi c.cs) (fCons (fVar 0) (fCons (fC (.ty "int")) fNil))) (fAndV (fNotV (fCB (bIsi c.cs) (fCons (fVar 0) (fCons (fC (.ty "bool")) fNil)))) (fOp (dEqD false) (fVar 0) (fVar 1))))))
theorem is_ok (i j : Int) (s : S) : isG c [.int i, .int j] s = .ok (.bl (decide (i = j))) s := by
  apply eq_ok
  unfold isG
  simp (implicitDefEqProofs := false) only [isi_int, isi_intb, ↓w_srtT, ↓w_par2, ↓w_par3, ↓w_setd, ↓w_dict1, ↓w_maxDf, ↓w_slT, ↓w_addT, ↓w_dictT, ↓w_dictI, ↓w_get, ↓w_lrg1T, ↓w_lrg2T, ↓w_lrg1, ↓w_lrg2, ↓w_pop0, ↓w_lcT, ↓w_mth, ↓w_calm, ↓w_tryM, ↓w_tm0, ↓w_tmN, ↓w_tmS, ↓w_seq, ↓w_next, ↓w_break, ↓w_cont, ↓w_retN, ↓w_asg, ↓w_expr, ↓w_ret, ↓w_if, ↓w_asgG, ↓w_for, ↓w_put, ↓w_aug, ↓w_augS, ↓w_raise0, ↓w_raise1, ↓w_raise2, ↓w_try, ↓w_tryAs, ↓w_var, ↓w_c, ↓w_op, ↓w_chain, ↓w_notV, ↓w_andV, ↓w_orV, ↓w_ifE, ↓w_tst, ↓w_not, ↓w_and, ↓w_or, ↓w_yes, ↓w_nil, ↓w_cons, ↓w_tup, ↓w_lst, ↓w_lstT, ↓w_cb, ↓w_call, ↓w_callK, ↓w_neg, ↓w_no, ↓w_pt, ↓w_sl, ↓w_fld, ↓w_src, ↓w_rng, ↓w_enu, ↓w_listT, ↓w_app, ↓w_lc, ↓w_xf, ↓w_fldT, ↓w_make, ↓w_makeL, ↓w_run, ↓w_cut, ↓w_pure, ↓w_drop, nth2_eq, nth3_eq, w_ok, w_ex, w_nx, w_rt, w_bk, w_ct, w_exS, w_some, w_v, w_tr, w_fa, w_tb, w_ti, w_tn, w_L, w_L0, wb_not, cn_f, startD, arr, gN_eq, gTp, gTl, gCn, gNl, Option.bind_some, List.filterMap_cons, List.filterMap_nil, List.map_cons, List.map_nil, List.replicate_succ, List.replicate_zero, List.cons_append, List.nil_append, List.getElem?_cons_zero, List.getElem?_cons_succ, List.set_cons_zero, List.set_cons_succ, List.length_cons, List.length_nil, Nat.reduceAdd, Nat.reduceSub, Nat.reduceLeDiff, Nat.reduceEqDiff, Int.reducePow, Int.reduceToNat, Int.reduceNeg, Int.reduceAdd, Int.reduceMul, Int.reduceSub, Int.reduceLT, Int.reduceLE, Int.reduceEq, Nat.zero_add, Int.zero_add, big_eq, true_and, and_true, and_self, dSub_int, dAdd_int, dAddI_int, dLt_int, dLe_int, dGt_int, dGe_int, dEqD_int, bInt_int, bLen_lst, bLen_tup, bMin_int, bMax_int, bAbs_int, dIs_non, dIs_int, dIs_nn, Bool.not_true, Bool.not_false, decide_true, decide_false, reduceIte, Bool.false_eq_true, if_false, if_true, iSeq_lst, iSeq_tup, iSeq_rdl, iEnu_lst, iEnu_tup]
end SI

/-! the growing tree, hand by hand: only times -/
namespace Pg
open Mt SI
variable {M : Mc} {t : Option Nat}
/-- the hands below the sendings that a hand has left, of which the first arrives at 0 -/
def UU (M : Mc) (t : Option Nat) (s : Nat) (y : Int) : Int := match t with
  | none => smZ (y / M.gap + 1).toNat fun j => FR M none (y - j * M.gap)
  | some T => smZ (T - s) fun j => FR M (some T) (y - j * M.gap)
/-- what is below those that wait -/
def WS2 (M : Mc) (t : Option Nat) (x : Int) : List (Int × Nat) → Int
  | [] => 0
  | z :: zs => UU M t z.2 (x - z.1) + WS2 M t x zs
/-- k hands are told, the last one at a time; these wait -/
structure Gr (M : Mc) (t : Option Nat) (T k : Nat) (last : Int) (zs : List (Int × Nat)) : Prop where
  all : ∀ x, last ≤ x → FR M t x = k + 1 + WS2 M t x zs
  opn : ∀ z ∈ zs, z.2 < T → last ≤ z.1
  lt : FR M t (last - 1) < k + 1
  le : ((k : Int) + 1) ≤ FR M t last
  snt : ∀ z ∈ zs, z.2 ≤ k
  len : zs.length = k + 1
/-- the time at which n hands are told, whatever the horizon -/
def MinT (M : Mc) (t : Option Nat) (n : Int) (x : Int) : Prop := FR M t (x - 1) < n ∧ n ≤ FR M t x
theorem MinT.uniq (hM : M.Ok) {n x y : Int} (h : MinT M t n x) (h' : MinT M t n y) : x = y := by
  rcases Int.lt_trichotomy x y with z | z | z
  · have := FR_mono (t := t) hM (show x ≤ y - 1 by omega)
    have := h.2
    have := h'.1
    omega
  · exact z
  · have := FR_mono (t := t) hM (show y ≤ x - 1 by omega)
    have := h'.2
    have := h.1
    omega
theorem Gr.min {T k : Nat} {last : Int} {zs : List (Int × Nat)} (h : Gr M t T k last zs) : MinT M t (k + 1) last := ⟨h.lt, h.le⟩
end Pg

/-! a law's own growing tree: the last time; bounds -/
namespace Pg
open PySem L2 SI Mt
variable {c : Cl} {M : Mc} {t : Option Nat}
end Pg

/-! bounds of several letters -/
namespace Pg
open PySem L2 SI Mt
variable {c : Cl} {M : Mc} {t : Option Nat}
open Classical in
/-- the least time of n hands -/
noncomputable def mt (M : Mc) (t : Option Nat) (n : Nat) : Int := if h : ∃ x, MinT M t n x then h.choose else 0
/-- how much later -/
def spc (M : Mc) (n T : Nat) : Int := if n = 2 then M.gap else max (T * M.gap) ((T - 1) * M.gap + 2 * M.o)
/-- the end of k letters on a tree with T turns -/
noncomputable def eT (M : Mc) (n k T : Nat) : Int := mt M (some T) n + (k - 1) * spc M n T
structure BT (M : Mc) (n k : Nat) (b : Int) : Prop where
  at_ : ∃ T, 1 ≤ T ∧ T < n ∧ b = eT M n k T
  le : ∀ T, 1 ≤ T → T < n → b ≤ eT M n k T
theorem BT.uniq {n k : Nat} {b b' : Int} (h : BT M n k b) (h' : BT M n k b') : b = b' := by
  obtain ⟨T, t0, t1, e⟩ := h.at_
  obtain ⟨T', t0', t1', e'⟩ := h'.at_
  have := h.le T' t0' t1'
  have := h'.le T t0 t1
  omega
end Pg

/-! the place of a row of turns among the rows of its depth and sum -/
namespace Mt
open SI
variable {t : Option Nat}
/-- rows of d + 1 turns with the sum m whose first turn is less than v -/
def bl (t : Option Nat) (d m v : Nat) : Nat := sm v fun i => ex t d (m - i)
theorem bl_s (d m v : Nat) : bl t d m (v + 1) = bl t d m v + ex t d (m - v) := rfl
theorem bl_cz (ht : t ≠ some 0) {d m : Nat} : ∀ {v : Nat}, v ≤ m + 1 → cz t d m - cz t d ((m : Int) - v) = bl t d m v
  | 0, _ => by
    rw [show (m : Int) - ((0 : Nat) : Int) = m by omega, Int.sub_self]
    rfl
  | v + 1, h => by
    have ih := bl_cz ht (d := d) (m := m) (v := v) (by omega)
    have e := cz_ex ht d (m - v)
    rw [show ((m - v : Nat) : Int) = (m : Int) - v by omega] at e
    rw [bl_s, show (m : Int) - ((v + 1 : Nat) : Int) = (m : Int) - v - 1 by omega]
    push_cast
    omega
theorem bl_top (d m : Nat) : bl t d m (cap t m) = ex t (d + 1) m := rfl
theorem bl_mono {d m v w : Nat} (h : v ≤ w) : bl t d m v ≤ bl t d m w := sm_shorter _ h
def Bel (t : Option Nat) (n : Nat) : Prop := ∀ k, t = some k → n < k
theorem cap_le {n m : Nat} (h : n ≤ m) (hb : Bel t n) : n + 1 ≤ cap t m := by
  cases t with
  | none => unfold cap; dsimp only; omega
  | some k =>
    have := hb k rfl
    unfold cap
    dsimp only
    omega
theorem lt_cap {n m : Nat} (h : n < cap t m) : n ≤ m ∧ Bel t n := by
  cases t with
  | none =>
    unfold cap at h
    dsimp only at h
    exact ⟨by omega, fun k e => by cases e⟩
  | some k =>
    unfold cap at h
    dsimp only at h
    exact ⟨by omega, fun k' e => by cases e; omega⟩
def RK (t : Option Nat) : List Nat → Nat
  | [] => 0
  | n :: ns => bl t ns.length (n + smN ns) n + RK t ns
theorem RK_lt : ∀ {ns : List Nat}, (∀ n ∈ ns, Bel t n) → RK t ns < ex t ns.length (smN ns)
  | [], _ => by
    show 0 < ex t 0 0
    exact Nat.one_pos
  | n :: ns, h => by
    have ih := RK_lt fun m hm => h m (List.mem_cons_of_mem _ hm)
    rw [RK, List.length_cons, smN, ← bl_top]
    have h1 := bl_mono (t := t) (d := ns.length) (m := n + smN ns) (cap_le (show n ≤ n + smN ns by omega) (h n (List.mem_cons_self ..)))
    rw [bl_s, show n + smN ns - n = smN ns by omega] at h1
    omega
/-- as tuples -/
def ltN : List Nat → List Nat → Prop
  | n :: ns, m :: ms => n < m ∨ (n = m ∧ ltN ns ms)
  | [], _ :: _ => True
  | _, [] => False
theorem ltN_tri : ∀ (ns ms : List Nat), ns = ms ∨ ltN ns ms ∨ ltN ms ns
  | [], [] => .inl rfl
  | [], _ :: _ => .inr (.inl trivial)
  | _ :: _, [] => .inr (.inr trivial)
  | n :: ns, m :: ms => by
    rcases Nat.lt_trichotomy n m with h | h | h
    · exact .inr (.inl (.inl h))
    · subst h
      rcases ltN_tri ns ms with h | h | h
      · exact .inl (by rw [h])
      · exact .inr (.inl (.inr ⟨rfl, h⟩))
      · exact .inr (.inr (.inr ⟨rfl, h⟩))
    · exact .inr (.inr (.inl h))
theorem RK_ord : ∀ {ns ms : List Nat}, ns.length = ms.length → smN ns = smN ms → (∀ n ∈ ns, Bel t n) → (∀ n ∈ ms, Bel t n) → ltN ns ms → RK t ns < RK t ms
  | [], [], _, _, _, _, h => h.elim
  | [], _ :: _, hl, _, _, _, _ => by simp at hl
  | _ :: _, [], hl, _, _, _, _ => by simp at hl
  | n :: ns, m :: ms, hl, hs, h1, h2, h => by
    have hl' : ns.length = ms.length := by simpa using hl
    rw [smN, smN] at hs
    rw [RK, RK, hs, hl']
    rcases h with h | ⟨rfl, h⟩
    · have a := RK_lt fun m hm => h1 m (List.mem_cons_of_mem _ hm)
      have b := bl_mono (t := t) (d := ms.length) (m := m + smN ms) (show n + 1 ≤ m by omega)
      rw [bl_s, show m + smN ms - n = smN ns by omega, ← hl'] at b
      rw [← hl']
      omega
    · have := RK_ord hl' (by omega) (fun m hm => h1 m (List.mem_cons_of_mem _ hm)) (fun m hm => h2 m (List.mem_cons_of_mem _ hm)) h
      omega
theorem smN_app : ∀ (ps ms : List Nat), smN (ps ++ ms) = smN ps + smN ms
  | [], ms => by simp [smN]
  | p :: ps, ms => by
    rw [List.cons_append, smN, smN, smN_app ps ms]
    omega
theorem ex_0 {t : Option Nat} {m p : Nat} (h : p < ex t 0 m) : m = 0 ∧ p = 0 := by
  unfold ex at h
  split at h
  · exact ⟨by assumption, by omega⟩
  · omega
end Mt

/-! the place of a name -/
namespace Pg
open Mt SI
variable {M : Mc} {t : Option Nat}
/-- hands of depth d known just at T, over the roots -/
def SR (M : Mc) (t : Option Nat) (T : Int) (d : Nat) : List Int → Int
  | [] => 0
  | r :: rs => KJ M t d (T - r - d * M.letter) + SR M t T d rs
theorem SR_take (M : Mc) (t : Option Nat) (T : Int) (d : Nat) : ∀ (rs : List Int) (i : Nat) (hi : i < rs.length), SR M t T d (rs.take (i + 1)) = SR M t T d (rs.take i) + KJ M t d (T - rs[i] - d * M.letter)
  | [], i, hi => by simp at hi
  | r :: rs, 0, _ => by simp [SR]
  | r :: rs, i + 1, hi => by
    have := SR_take M t T d rs i (by simpa using hi)
    simp only [List.take_succ_cons, SR, List.getElem_cons_succ] at this ⊢
    omega
theorem SR_nonneg (hM : M.Ok) (T : Int) (d : Nat) : ∀ rs : List Int, 0 ≤ SR M t T d rs
  | [] => Int.le_refl _
  | r :: rs => by
    have := SR_nonneg hM T d rs
    have := KJ_nonneg (t := t) hM d (T - r - d * M.letter)
    simp only [SR]
    omega
theorem SR_take_le (hM : M.Ok) (T : Int) (d : Nat) : ∀ (rs : List Int) (i : Nat), SR M t T d (rs.take i) ≤ SR M t T d rs
  | [], i => by simp
  | r :: rs, 0 => by
    have := SR_nonneg (t := t) hM T d (r :: rs)
    simpa [SR] using this
  | r :: rs, i + 1 => by
    have := SR_take_le hM T d rs i
    simp only [List.take_succ_cons, SR]
    omega
theorem SR_take_mono (hM : M.Ok) (T : Int) (d : Nat) (rs : List Int) {i j : Nat} (h : i ≤ j) : SR M t T d (rs.take i) ≤ SR M t T d (rs.take j) := by
  have := SR_take_le (t := t) hM T d (rs.take j) i
  rw [List.take_take, Nat.min_eq_left h] at this
  exact this
def P1 (M : Mc) (t : Option Nat) (T : Int) (rs : List Int) (d : Nat) : Int := smZ d fun d' => SR M t T d' rs
theorem P1_s (T : Int) (rs : List Int) (d : Nat) : P1 M t T rs (d + 1) = P1 M t T rs d + SR M t T d rs := rfl
theorem P1_mono (hM : M.Ok) (T : Int) (rs : List Int) {d e : Nat} (h : d ≤ e) : P1 M t T rs d ≤ P1 M t T rs e := smZ_shorter h fun _ _ => SR_nonneg hM ..
theorem LY_ext (hM : M.Ok) {x : Int} {N : Nat} (h : (x / M.letter + 1).toNat ≤ N) : LY M t x = smZ N fun d => KJ M t d (x - d * M.letter) := by
  unfold LY
  refine (smZ_extend h fun d h1 _ => KJ_neg hM ?_).symm
  have l0 := hM.letter0
  have h2 : x / M.letter + 1 ≤ d := by omega
  have h3 : x < (x / M.letter + 1) * M.letter := by
    have := Int.lt_ediv_add_one_mul_self x (show 0 < M.letter by omega)
    exact this
  have h4 : (x / M.letter + 1) * M.letter ≤ d * M.letter := Int.mul_le_mul_of_nonneg_right h2 (by omega)
  omega
theorem P1_all (hM : M.Ok) {T : Int} {N : Nat} (h : (T / M.letter + 1).toNat ≤ N) : ∀ {rs : List Int}, (∀ r ∈ rs, 0 ≤ r ∧ r ≤ 1000000000000) → P1 M t T rs N = LYs M t T rs
  | [], _ => by
    unfold P1
    exact smZ_zero fun _ _ => rfl
  | r :: rs, hr => by
    have ih := P1_all hM h (rs := rs) fun z hz => hr z (List.mem_cons_of_mem _ hz)
    have l0 := hM.letter0
    have hr0 := hr r (List.mem_cons_self ..)
    have e : P1 M t T (r :: rs) N = smZ N (fun d => KJ M t d (T - r - d * M.letter)) + P1 M t T rs N := by
      unfold P1
      rw [← smZ_add]
      rfl
    have hd : (T - r) / M.letter ≤ T / M.letter := Int.ediv_le_ediv (by omega) (by omega)
    rw [e, ih, LYs, ← LY_ext hM (x := T - r) (N := N) (by omega)]
def PL (M : Mc) (t : Option Nat) (rs : List Int) (r : Nat) (ns : List Nat) : Int := FRs M t (TM M rs r ns - 1) rs + P1 M t (TM M rs r ns) rs ns.length + SR M t (TM M rs r ns) ns.length (rs.take r) + RK t ns
/-- a name whose time is known -/
structure VN (M : Mc) (t : Option Nat) (rs : List Int) (r : Nat) (ns : List Nat) : Prop where
  r : r < rs.length
  b : ∀ n ∈ ns, Bel t n
theorem OkN.vn {rs : List Int} {r : Nat} {ns : List Nat} (h : OkN t rs.length r ns) : VN M t rs r ns := ⟨h.r, fun n hn k e => by
  have := h.m n hn
  subst e
  simp only [lastN] at this
  omega⟩
theorem VN.kj (hM : M.Ok) (ht : OkT t) {rs : List Int} {r : Nat} {ns : List Nat} (h : VN M t rs r ns) : KJ M t ns.length (TM M rs r ns - rs[r]'h.r - ns.length * M.letter) = ex t ns.length (smN ns) := by
  have g0 := hM.gap0
  have e : TM M rs r ns - rs[r]'h.r - ns.length * M.letter = smN ns * M.gap := by
    unfold TM
    rw [List.getD_eq_getElem?_getD, List.getElem?_eq_getElem h.r, Option.getD_some]
    omega
  rw [e, KJ_ex hM ht (Int.mul_nonneg (by omega) (by omega)) (Int.mul_emod_left ..), Int.mul_ediv_cancel _ (by omega), Int.toNat_natCast]
theorem TM_nonneg (hM : M.Ok) {rs : List Int} (hr : ∀ r ∈ rs, 0 ≤ r ∧ r ≤ 1000000000000) {r : Nat} (h : r < rs.length) (ns : List Nat) : rs[r] ≤ TM M rs r ns ∧ (ns.length : Int) * M.letter ≤ TM M rs r ns ∧ (smN ns : Int) * M.gap ≤ TM M rs r ns := by
  have g0 := hM.gap0
  have l0 := hM.letter0
  have a := Int.mul_nonneg (show (0 : Int) ≤ ns.length by omega) (show 0 ≤ M.letter by omega)
  have b := Int.mul_nonneg (show (0 : Int) ≤ smN ns by omega) (show 0 ≤ M.gap by omega)
  have d := hr _ (List.getElem_mem h)
  unfold TM
  rw [List.getD_eq_getElem?_getD, List.getElem?_eq_getElem h, Option.getD_some]
  omega
theorem PL_ge (hM : M.Ok) (rs : List Int) (r : Nat) (ns : List Nat) : FRs M t (TM M rs r ns - 1) rs ≤ PL M t rs r ns := by
  have a := P1_mono (t := t) hM (TM M rs r ns) rs (Nat.zero_le ns.length)
  have b := SR_nonneg (t := t) hM (TM M rs r ns) ns.length (rs.take r)
  have e : P1 M t (TM M rs r ns) rs 0 = 0 := rfl
  unfold PL
  omega
/-- the place within (depth, root) -/
theorem PL_in (hM : M.Ok) (ht : OkT t) {rs : List Int} {r : Nat} {ns : List Nat} (h : VN M t rs r ns) : PL M t rs r ns < FRs M t (TM M rs r ns - 1) rs + P1 M t (TM M rs r ns) rs ns.length + SR M t (TM M rs r ns) ns.length (rs.take (r + 1)) := by
  have a := RK_lt h.b
  rw [SR_take _ _ _ _ _ _ h.r, h.kj hM ht]
  unfold PL
  omega
theorem PL_lt (hM : M.Ok) (ht : OkT t) {rs : List Int} (hr : ∀ r ∈ rs, 0 ≤ r ∧ r ≤ 1000000000000) {r : Nat} {ns : List Nat} (h : VN M t rs r ns) : PL M t rs r ns < FRs M t (TM M rs r ns) rs := by
  have a := PL_in hM ht h
  have b := SR_take_le (t := t) hM (TM M rs r ns) ns.length rs (r + 1)
  have e := LYs_eq (t := t) hM (TM M rs r ns) rs
  obtain ⟨N, eN⟩ : ∃ N : Nat, N = max (ns.length + 1) (TM M rs r ns / M.letter + 1).toNat := ⟨_, rfl⟩
  have d := P1_mono (t := t) hM (TM M rs r ns) rs (show ns.length + 1 ≤ N by omega)
  rw [P1_s, P1_all (N := N) hM (by omega) hr] at d
  omega
/-- names in their order -/
inductive Lt3 (M : Mc) (rs : List Int) (r : Nat) (ns : List Nat) (r' : Nat) (ns' : List Nat) : Prop
  | time (h : TM M rs r ns < TM M rs r' ns')
  | depth (h : TM M rs r ns = TM M rs r' ns') (hd : ns.length < ns'.length)
  | tup (h : TM M rs r ns = TM M rs r' ns') (hd : ns.length = ns'.length) (hl : ltN (r :: ns) (r' :: ns'))
theorem sum_eq (hM : M.Ok) {rs : List Int} {r : Nat} {ns ns' : List Nat} (hd : ns.length = ns'.length) (h : TM M rs r ns = TM M rs r ns') : smN ns = smN ns' := by
  have g0 := hM.gap0
  unfold TM at h
  rw [hd] at h
  have e : (smN ns : Int) * M.gap = smN ns' * M.gap := by omega
  have := Int.eq_of_mul_eq_mul_right (by omega) e
  omega
theorem PL_ord (hM : M.Ok) (ht : OkT t) {rs : List Int} (hr : ∀ r ∈ rs, 0 ≤ r ∧ r ≤ 1000000000000) {r r' : Nat} {ns ns' : List Nat} (h : VN M t rs r ns) (h' : VN M t rs r' ns') (hl : Lt3 M rs r ns r' ns') : PL M t rs r ns < PL M t rs r' ns' := by
  cases hl with
  | time hT =>
    have a := PL_lt hM ht hr h
    have b := PL_ge (t := t) hM rs r' ns'
    have d := FRs_mono (t := t) hM (show TM M rs r ns ≤ TM M rs r' ns' - 1 by omega) rs
    omega
  | depth hT hd =>
    have a := PL_in hM ht h
    have b := SR_take_le (t := t) hM (TM M rs r ns) ns.length rs (r + 1)
    have d := P1_mono (t := t) hM (TM M rs r ns) rs (show ns.length + 1 ≤ ns'.length by omega)
    rw [P1_s] at d
    have e := SR_nonneg (t := t) hM (TM M rs r' ns') ns'.length (rs.take r')
    have f : PL M t rs r' ns' = FRs M t (TM M rs r' ns' - 1) rs + P1 M t (TM M rs r' ns') rs ns'.length + SR M t (TM M rs r' ns') ns'.length (rs.take r') + RK t ns' := rfl
    rw [← hT] at e f
    omega
  | tup hT hd hl =>
    rcases hl with hl | ⟨rfl, hl⟩
    · have a := PL_in hM ht h
      have b := SR_take_mono (t := t) hM (TM M rs r ns) ns.length rs (show r + 1 ≤ r' by omega)
      have f : PL M t rs r' ns' = FRs M t (TM M rs r' ns' - 1) rs + P1 M t (TM M rs r' ns') rs ns'.length + SR M t (TM M rs r' ns') ns'.length (rs.take r') + RK t ns' := rfl
      rw [← hT, ← hd] at f
      omega
    · have a := RK_ord hd (sum_eq hM hd hT) h.b h'.b hl
      have f : PL M t rs r ns' = FRs M t (TM M rs r ns' - 1) rs + P1 M t (TM M rs r ns') rs ns'.length + SR M t (TM M rs r ns') ns'.length (rs.take r) + RK t ns' := rfl
      have g : PL M t rs r ns = FRs M t (TM M rs r ns - 1) rs + P1 M t (TM M rs r ns) rs ns.length + SR M t (TM M rs r ns) ns.length (rs.take r) + RK t ns := rfl
      rw [← hT, ← hd] at f
      omega
theorem Lt3_tri (M : Mc) (rs : List Int) (r : Nat) (ns : List Nat) (r' : Nat) (ns' : List Nat) : (r = r' ∧ ns = ns') ∨ Lt3 M rs r ns r' ns' ∨ Lt3 M rs r' ns' r ns := by
  rcases Int.lt_trichotomy (TM M rs r ns) (TM M rs r' ns') with h | h | h
  · exact .inr (.inl (.time h))
  · rcases Nat.lt_trichotomy ns.length ns'.length with h2 | h2 | h2
    · exact .inr (.inl (.depth h h2))
    · rcases ltN_tri (r :: ns) (r' :: ns') with e | e | e
      · injection e with e1 e2
        exact .inl ⟨e1, e2⟩
      · exact .inr (.inl (.tup h h2 e))
      · exact .inr (.inr (.tup h.symm h2.symm e))
    · exact .inr (.inr (.depth h.symm h2))
  · exact .inr (.inr (.time h))
theorem PL_inj (hM : M.Ok) (ht : OkT t) {rs : List Int} (hr : ∀ r ∈ rs, 0 ≤ r ∧ r ≤ 1000000000000) {r r' : Nat} {ns ns' : List Nat} (h : VN M t rs r ns) (h' : VN M t rs r' ns') (e : PL M t rs r ns = PL M t rs r' ns') : r = r' ∧ ns = ns' := by
  rcases Lt3_tri M rs r ns r' ns' with h1 | h1 | h1
  · exact h1
  · have := PL_ord hM ht hr h h' h1
    omega
  · have := PL_ord hM ht hr h' h h1
    omega
theorem PL_iff (hM : M.Ok) (ht : OkT t) {rs : List Int} (hr : ∀ r ∈ rs, 0 ≤ r ∧ r ≤ 1000000000000) {r r' : Nat} {ns ns' : List Nat} (h : VN M t rs r ns) (h' : VN M t rs r' ns') : PL M t rs r ns < PL M t rs r' ns' ↔ Lt3 M rs r ns r' ns' := by
  constructor
  · intro hl
    rcases Lt3_tri M rs r ns r' ns' with ⟨rfl, rfl⟩ | h1 | h1
    · omega
    · exact h1
    · have := PL_ord hM ht hr h' h h1
      omega
  · exact PL_ord hM ht hr h h'
/-- the time of the name at a place -/
theorem PL_LT (hM : M.Ok) (ht : OkT t) {rs : List Int} (hr : ∀ r ∈ rs, 0 ≤ r ∧ r ≤ 1000000000000) {r : Nat} {ns : List Nat} (h : VN M t rs r ns) (hh : TM M rs r ns ≤ hor M t) : LT M t rs (PL M t rs r ns + 1) (TM M rs r ns) := by
  have a := PL_lt hM ht hr h
  have b := PL_ge (t := t) hM rs r ns
  have d := TM_nonneg hM hr h.r ns
  have e := hr _ (List.getElem_mem h.r)
  exact ⟨by omega, hh, by omega, by omega⟩
end Pg

/-! below, tuple_at, place_of, name_at -/
namespace SI
open PySem L2 Pg Mt
variable {c : Cl} {M : Mc} {t : Option Nat}
theorem lt25 {m : Int} (h : m < 1000000000000000) : m < 10 ^ 25 := Int.lt_trans h (by decide +kernel)
theorem below_ok (ht : OkT t) {d m v : Nat} (hd : d ≤ 4000) (hm : (m : Int) < 1000000000000000) (hv : v ≤ m + 1) (s : S) : G_below c [.int (d + 1 : Nat), .int m, .int v, tD t] s = .ok (.int (bl t d m v)) s := by
  apply eq_ok
  unfold G_below
  have ed : ((d + 1 : Nat) : Int) - 1 = (d : Nat) := by omega
  simp (implicitDefEqProofs := false) only [ed, tuples_ok ht (show d ≤ 5000 by omega) (lt25 hm), tuples_ok ht (show d ≤ 5000 by omega) (lt25 (show (m : Int) - v < 1000000000000000 by omega)), bl_cz ht.ne hv, ↓w_srtT, ↓w_par2, ↓w_par3, ↓w_setd, ↓w_dict1, ↓w_maxDf, ↓w_slT, ↓w_addT, ↓w_dictT, ↓w_dictI, ↓w_get, ↓w_lrg1T, ↓w_lrg2T, ↓w_lrg1, ↓w_lrg2, ↓w_pop0, ↓w_lcT, ↓w_mth, ↓w_calm, ↓w_tryM, ↓w_tm0, ↓w_tmN, ↓w_tmS, ↓w_seq, ↓w_next, ↓w_break, ↓w_cont, ↓w_retN, ↓w_asg, ↓w_expr, ↓w_ret, ↓w_if, ↓w_asgG, ↓w_for, ↓w_put, ↓w_aug, ↓w_augS, ↓w_raise0, ↓w_raise1, ↓w_raise2, ↓w_try, ↓w_tryAs, ↓w_var, ↓w_c, ↓w_op, ↓w_chain, ↓w_notV, ↓w_andV, ↓w_orV, ↓w_ifE, ↓w_tst, ↓w_not, ↓w_and, ↓w_or, ↓w_yes, ↓w_nil, ↓w_cons, ↓w_tup, ↓w_lst, ↓w_lstT, ↓w_cb, ↓w_call, ↓w_callK, ↓w_neg, ↓w_no, ↓w_pt, ↓w_sl, ↓w_fld, ↓w_src, ↓w_rng, ↓w_enu, ↓w_listT, ↓w_app, ↓w_lc, ↓w_xf, ↓w_fldT, ↓w_make, ↓w_makeL, ↓w_run, ↓w_cut, ↓w_pure, ↓w_drop, nth2_eq, nth3_eq, w_ok, w_ex, w_nx, w_rt, w_bk, w_ct, w_exS, w_some, w_v, w_tr, w_fa, w_tb, w_ti, w_tn, w_L, w_L0, wb_not, cn_f, startD, arr, gN_eq, gTp, gTl, gCn, gNl, Option.bind_some, List.filterMap_cons, List.filterMap_nil, List.map_cons, List.map_nil, List.replicate_succ, List.replicate_zero, List.cons_append, List.nil_append, List.getElem?_cons_zero, List.getElem?_cons_succ, List.set_cons_zero, List.set_cons_succ, List.length_cons, List.length_nil, Nat.reduceAdd, Nat.reduceSub, Nat.reduceLeDiff, Nat.reduceEqDiff, Int.reducePow, Int.reduceToNat, Int.reduceNeg, Int.reduceAdd, Int.reduceMul, Int.reduceSub, Int.reduceLT, Int.reduceLE, Int.reduceEq, Nat.zero_add, Int.zero_add, big_eq, true_and, and_true, and_self, dSub_int, dAdd_int, dAddI_int, dLt_int, dLe_int, dGt_int, dGe_int, dEqD_int, bInt_int, bLen_lst, bLen_tup, bMin_int, bMax_int, bAbs_int, dIs_non, dIs_int, dIs_nn, Bool.not_true, Bool.not_false, decide_true, decide_false, reduceIte, Bool.false_eq_true, if_false, if_true, iSeq_lst, iSeq_tup, iSeq_rdl, iEnu_lst, iEnu_tup]
theorem rngD {i : Int} (h0 : 0 ≤ i) (h1 : i < 4611686018427387904) : dRngD [.int i, .int 0, .int (-1)] = some ⟨dnItems i i.toNat, none⟩ := by
  show (if _ then _ else _) = _
  rw [if_pos ⟨rfl, rg_ok (by omega) (by omega), rg_ok (by omega) (by omega)⟩]
  simp
theorem ws_dn {q : Tg} {body : FS} {hi : Int} {n : Nat} {B : Bs} {L : Lc} {s : S} (I : Nat → Lc → S → Prop) (h0 : I 0 L s)
    (hs : ∀ i L s, i < n → I i L s → @WO _ (q (.int (hi - i)) L) ⟨fun L1 => @WS (body L1 s) ⟨I (i + 1), B.rt, B.nx, I (i + 1), B.ex⟩⟩)
    (he : ∀ L s, I n L s → B.nx L s) : @WS (forL q body ⟨dnItems hi n, none⟩ (dnItems hi n) L s) B := by
  have hl : (dnItems hi n).length = n := by simp [dnItems]
  refine ws_for I (dnItems hi n) 0 h0 (fun i d L s e hi => ⟨rfl, ?_⟩) (fun L s hi => ⟨rfl, he L s ?_⟩)
  · rw [Nat.zero_add] at hi ⊢
    unfold dnItems at e
    rw [List.getElem?_map] at e
    obtain ⟨j, ej, rfl⟩ := Option.map_eq_some_iff.mp e
    obtain ⟨hj, ej⟩ := List.getElem?_eq_some_iff.mp ej
    rw [List.getElem_range] at ej
    subst ej
    rw [List.length_range] at hj
    exact hs i L s hj hi
  · rw [Nat.zero_add, hl] at hi
    exact hi
theorem add_tup {s : S} {xs ys : List D} (h : xs.length + ys.length ≤ 1000000) : dAdd s (.tup xs) (.tup ys) = some (.tup (xs ++ ys)) := by
  show (if xs.length + ys.length ≤ big then _ else _) = _
  rw [if_pos (by rw [big_eq]; omega)]
/-- the row at a place -/
structure TpAt (t : Option Nat) (d m p : Nat) (ns : List Nat) : Prop where
  l : ns.length = d
  s : smN ns = m
  b : ∀ n ∈ ns, Bel t n
  r : RK t ns = p
theorem tuple_ok (ht : OkT t) {d m p : Nat} (hd : d ≤ 4000) (hm : (m : Int) < 1000000000000000) (hp : p < ex t d m) (s : S) : ∃ ns, TpAt t d m p ns ∧ G_tuple_at c [.int d, .int m, .int p, tD t] s = .ok (.tup (ns.map nI)) s := by
  suffices g : @WR _ (G_tuple_at c [.int d, .int m, .int p, tD t] s) ⟨fun x s' => ∃ ns, TpAt t d m p ns ∧ x = .tup (ns.map nI) ∧ s' = s⟩ ⟨nE⟩ by
    revert g
    generalize G_tuple_at c [.int d, .int m, .int p, tD t] s = r
    intro g
    obtain ⟨a, s', e, ns, h, rfl, rfl⟩ := ex_ok g
    exact ⟨ns, h, e⟩
  unfold G_tuple_at
  simp (implicitDefEqProofs := false) only [↓w_srtT, ↓w_par2, ↓w_par3, ↓w_setd, ↓w_dict1, ↓w_maxDf, ↓w_slT, ↓w_addT, ↓w_dictT, ↓w_dictI, ↓w_get, ↓w_lrg1T, ↓w_lrg2T, ↓w_lrg1, ↓w_lrg2, ↓w_pop0, ↓w_lcT, ↓w_mth, ↓w_calm, ↓w_tryM, ↓w_tm0, ↓w_tmN, ↓w_tmS, ↓w_seq, ↓w_next, ↓w_break, ↓w_cont, ↓w_retN, ↓w_asg, ↓w_expr, ↓w_ret, ↓w_if, ↓w_asgG, ↓w_for, ↓w_put, ↓w_aug, ↓w_augS, ↓w_raise0, ↓w_raise1, ↓w_raise2, ↓w_try, ↓w_tryAs, ↓w_var, ↓w_c, ↓w_op, ↓w_chain, ↓w_notV, ↓w_andV, ↓w_orV, ↓w_ifE, ↓w_tst, ↓w_not, ↓w_and, ↓w_or, ↓w_yes, ↓w_nil, ↓w_cons, ↓w_tup, ↓w_lst, ↓w_lstT, ↓w_cb, ↓w_call, ↓w_callK, ↓w_neg, ↓w_no, ↓w_pt, ↓w_sl, ↓w_fld, ↓w_src, ↓w_rng, ↓w_enu, ↓w_listT, ↓w_app, ↓w_lc, ↓w_xf, ↓w_fldT, ↓w_make, ↓w_makeL, ↓w_run, ↓w_cut, ↓w_pure, ↓w_drop, nth2_eq, nth3_eq, w_ok, w_ex, w_nx, w_rt, w_bk, w_ct, w_exS, w_some, w_v, w_tr, w_fa, w_tb, w_ti, w_tn, w_L, w_L0, wb_not, cn_f, startD, arr, gN_eq, gTp, gTl, gCn, gNl, Option.bind_some, List.filterMap_cons, List.filterMap_nil, List.map_cons, List.map_nil, List.replicate_succ, List.replicate_zero, List.cons_append, List.nil_append, List.getElem?_cons_zero, List.getElem?_cons_succ, List.set_cons_zero, List.set_cons_succ, List.length_cons, List.length_nil, Nat.reduceAdd, Nat.reduceSub, Nat.reduceLeDiff, Nat.reduceEqDiff, Int.reducePow, Int.reduceToNat, Int.reduceNeg, Int.reduceAdd, Int.reduceMul, Int.reduceSub, Int.reduceLT, Int.reduceLE, Int.reduceEq, Nat.zero_add, Int.zero_add, big_eq, true_and, and_true, and_self, dSub_int, dAdd_int, dAddI_int, dLt_int, dLe_int, dGt_int, dGe_int, dEqD_int, bInt_int, bLen_lst, bLen_tup, bMin_int, bMax_int, bAbs_int, dIs_non, dIs_int, dIs_nn, Bool.not_true, Bool.not_false, decide_true, decide_false, reduceIte, Bool.false_eq_true, if_false, if_true, iSeq_lst, iSeq_tup, iSeq_rdl, iEnu_lst, iEnu_tup]
  rw [rngD (by omega) (by omega), w_some, Int.toNat_natCast]
  refine ws_dn (fun i L s' => ∃ (ps : List Nat) (m' p' : Nat) (y5 y6 y7 y8 : Option D), L = [some (.int d), some (.int m'), some (.int p'), some (tD t), some (.tup (ps.map nI)), y5, y6, y7, y8] ∧ s = s' ∧ ps.length = i ∧ smN ps + m' = m ∧ (∀ n ∈ ps, Bel t n) ∧ i ≤ d ∧ p' < ex t (d - i) m' ∧ ∀ ms : List Nat, ms.length = d - i → smN ms = m' → RK t (ps ++ ms) + p' = p + RK t ms) ⟨[], m, p, _, _, _, _, rfl, rfl, rfl, by simp [smN], (fun n h => by cases h), by omega, by simpa using hp, fun ms _ _ => by rw [List.nil_append]; omega⟩ ?_ ?_
  · rintro i L s' hi ⟨ps, m', p', y5, y6, y7, y8, rfl, rfl, hl, hsm, hb, hid, hp', hrk⟩
    obtain ⟨k, ek⟩ : ∃ k, d - i = k + 1 := ⟨d - i - 1, by omega⟩
    have ed : (d : Int) - (i : Int) = (k + 1 : Nat) := by omega
    rw [ek] at hp' hrk
    have bo : ∀ v, v ≤ m' + 1 → ∀ s, G_below c [.int (k + 1 : Nat), .int m', .int v, tD t] s = .ok (.int (bl t k m' v)) s := fun v hv s => below_ok ht (by omega) (by omega) hv s
    rw [ed]
    simp (implicitDefEqProofs := false) only [↓w_srtT, ↓w_par2, ↓w_par3, ↓w_setd, ↓w_dict1, ↓w_maxDf, ↓w_slT, ↓w_addT, ↓w_dictT, ↓w_dictI, ↓w_get, ↓w_lrg1T, ↓w_lrg2T, ↓w_lrg1, ↓w_lrg2, ↓w_pop0, ↓w_lcT, ↓w_mth, ↓w_calm, ↓w_tryM, ↓w_tm0, ↓w_tmN, ↓w_tmS, ↓w_next, ↓w_break, ↓w_cont, ↓w_retN, ↓w_asg, ↓w_expr, ↓w_ret, ↓w_if, ↓w_asgG, ↓w_for, ↓w_put, ↓w_aug, ↓w_augS, ↓w_raise0, ↓w_raise1, ↓w_raise2, ↓w_try, ↓w_tryAs, ↓w_var, ↓w_c, ↓w_op, ↓w_chain, ↓w_notV, ↓w_andV, ↓w_orV, ↓w_ifE, ↓w_tst, ↓w_not, ↓w_and, ↓w_or, ↓w_yes, ↓w_nil, ↓w_cons, ↓w_tup, ↓w_lst, ↓w_lstT, ↓w_cb, ↓w_call, ↓w_callK, ↓w_neg, ↓w_no, ↓w_pt, ↓w_sl, ↓w_fld, ↓w_src, ↓w_rng, ↓w_enu, ↓w_listT, ↓w_app, ↓w_lc, ↓w_xf, ↓w_fldT, ↓w_make, ↓w_makeL, ↓w_run, ↓w_cut, ↓w_pure, ↓w_drop, ↓wq_asg, ↓wq_asgG, ↓wq_expr, ↓wq_put, ↓wq_aug, ↓wq_augS, ↓wq_for, nth2_eq, nth3_eq, w_ok, w_ex, w_nx, w_rt, w_bk, w_ct, w_exS, w_some, w_v, w_tr, w_fa, w_tb, w_ti, w_tn, w_L, w_L0, wb_not, cn_f, startD, arr, gN_eq, gTp, gTl, gCn, gNl, Option.bind_some, List.filterMap_cons, List.filterMap_nil, List.map_cons, List.map_nil, List.replicate_succ, List.replicate_zero, List.cons_append, List.nil_append, List.getElem?_cons_zero, List.getElem?_cons_succ, List.set_cons_zero, List.set_cons_succ, List.length_cons, List.length_nil, Nat.reduceAdd, Nat.reduceSub, Nat.reduceLeDiff, Nat.reduceEqDiff, Int.reducePow, Int.reduceToNat, Int.reduceNeg, Int.reduceAdd, Int.reduceMul, Int.reduceSub, Int.reduceLT, Int.reduceLE, Int.reduceEq, Nat.zero_add, Int.zero_add, big_eq, true_and, and_true, and_self, dSub_int, dAdd_int, dAddI_int, dLt_int, dLe_int, dGt_int, dGe_int, dEqD_int, bInt_int, bLen_lst, bLen_tup, bMin_int, bMax_int, bAbs_int, dIs_non, dIs_int, dIs_nn, Bool.not_true, Bool.not_false, decide_true, decide_false, reduceIte, Bool.false_eq_true, if_false, if_true, iSeq_lst, iSeq_tup, iSeq_rdl, iEnu_lst, iEnu_tup]
    obtain ⟨C, eC⟩ : ∃ C, C = cap t m' := ⟨_, rfl⟩
    have hC : C ≤ m' + 1 ∧ 1 ≤ C := by
      rw [eC]
      cases t with
      | none => unfold cap; dsimp only; omega
      | some j =>
        have := ht j rfl
        unfold cap
        dsimp only
        omega
    refine ws_cut (fun L s' => L = [some (.int d), some (.int m'), some (.int p'), some (tD t), some (.tup (ps.map nI)), some (.int (k + 1 : Nat)), some (.int 0), some (.int C), y8] ∧ s = s') ?_ ?_
    · cases t with
      | none =>
        simp (implicitDefEqProofs := false) only [tD, ↓w_srtT, ↓w_par2, ↓w_par3, ↓w_setd, ↓w_dict1, ↓w_maxDf, ↓w_slT, ↓w_addT, ↓w_dictT, ↓w_dictI, ↓w_get, ↓w_lrg1T, ↓w_lrg2T, ↓w_lrg1, ↓w_lrg2, ↓w_pop0, ↓w_lcT, ↓w_mth, ↓w_calm, ↓w_tryM, ↓w_tm0, ↓w_tmN, ↓w_tmS, ↓w_seq, ↓w_next, ↓w_break, ↓w_cont, ↓w_retN, ↓w_asg, ↓w_expr, ↓w_ret, ↓w_if, ↓w_asgG, ↓w_for, ↓w_put, ↓w_aug, ↓w_augS, ↓w_raise0, ↓w_raise1, ↓w_raise2, ↓w_try, ↓w_tryAs, ↓w_var, ↓w_c, ↓w_op, ↓w_chain, ↓w_notV, ↓w_andV, ↓w_orV, ↓w_ifE, ↓w_tst, ↓w_not, ↓w_and, ↓w_or, ↓w_yes, ↓w_nil, ↓w_cons, ↓w_tup, ↓w_lst, ↓w_lstT, ↓w_cb, ↓w_call, ↓w_callK, ↓w_neg, ↓w_no, ↓w_pt, ↓w_sl, ↓w_fld, ↓w_src, ↓w_rng, ↓w_enu, ↓w_listT, ↓w_app, ↓w_lc, ↓w_xf, ↓w_fldT, ↓w_make, ↓w_makeL, ↓w_run, ↓w_cut, ↓w_pure, ↓w_drop, nth2_eq, nth3_eq, w_ok, w_ex, w_nx, w_rt, w_bk, w_ct, w_exS, w_some, w_v, w_tr, w_fa, w_tb, w_ti, w_tn, w_L, w_L0, wb_not, cn_f, startD, arr, gN_eq, gTp, gTl, gCn, gNl, Option.bind_some, List.filterMap_cons, List.filterMap_nil, List.map_cons, List.map_nil, List.replicate_succ, List.replicate_zero, List.cons_append, List.nil_append, List.getElem?_cons_zero, List.getElem?_cons_succ, List.set_cons_zero, List.set_cons_succ, List.length_cons, List.length_nil, Nat.reduceAdd, Nat.reduceSub, Nat.reduceLeDiff, Nat.reduceEqDiff, Int.reducePow, Int.reduceToNat, Int.reduceNeg, Int.reduceAdd, Int.reduceMul, Int.reduceSub, Int.reduceLT, Int.reduceLE, Int.reduceEq, Nat.zero_add, Int.zero_add, big_eq, true_and, and_true, and_self, dSub_int, dAdd_int, dAddI_int, dLt_int, dLe_int, dGt_int, dGe_int, dEqD_int, bInt_int, bLen_lst, bLen_tup, bMin_int, bMax_int, bAbs_int, dIs_non, dIs_int, dIs_nn, Bool.not_true, Bool.not_false, decide_true, decide_false, reduceIte, Bool.false_eq_true, if_false, if_true, iSeq_lst, iSeq_tup, iSeq_rdl, iEnu_lst, iEnu_tup]
        rw [eC]
        unfold cap
        simp
      | some j =>
        simp (implicitDefEqProofs := false) only [tD, ↓w_srtT, ↓w_par2, ↓w_par3, ↓w_setd, ↓w_dict1, ↓w_maxDf, ↓w_slT, ↓w_addT, ↓w_dictT, ↓w_dictI, ↓w_get, ↓w_lrg1T, ↓w_lrg2T, ↓w_lrg1, ↓w_lrg2, ↓w_pop0, ↓w_lcT, ↓w_mth, ↓w_calm, ↓w_tryM, ↓w_tm0, ↓w_tmN, ↓w_tmS, ↓w_seq, ↓w_next, ↓w_break, ↓w_cont, ↓w_retN, ↓w_asg, ↓w_expr, ↓w_ret, ↓w_if, ↓w_asgG, ↓w_for, ↓w_put, ↓w_aug, ↓w_augS, ↓w_raise0, ↓w_raise1, ↓w_raise2, ↓w_try, ↓w_tryAs, ↓w_var, ↓w_c, ↓w_op, ↓w_chain, ↓w_notV, ↓w_andV, ↓w_orV, ↓w_ifE, ↓w_tst, ↓w_not, ↓w_and, ↓w_or, ↓w_yes, ↓w_nil, ↓w_cons, ↓w_tup, ↓w_lst, ↓w_lstT, ↓w_cb, ↓w_call, ↓w_callK, ↓w_neg, ↓w_no, ↓w_pt, ↓w_sl, ↓w_fld, ↓w_src, ↓w_rng, ↓w_enu, ↓w_listT, ↓w_app, ↓w_lc, ↓w_xf, ↓w_fldT, ↓w_make, ↓w_makeL, ↓w_run, ↓w_cut, ↓w_pure, ↓w_drop, nth2_eq, nth3_eq, w_ok, w_ex, w_nx, w_rt, w_bk, w_ct, w_exS, w_some, w_v, w_tr, w_fa, w_tb, w_ti, w_tn, w_L, w_L0, wb_not, cn_f, startD, arr, gN_eq, gTp, gTl, gCn, gNl, Option.bind_some, List.filterMap_cons, List.filterMap_nil, List.map_cons, List.map_nil, List.replicate_succ, List.replicate_zero, List.cons_append, List.nil_append, List.getElem?_cons_zero, List.getElem?_cons_succ, List.set_cons_zero, List.set_cons_succ, List.length_cons, List.length_nil, Nat.reduceAdd, Nat.reduceSub, Nat.reduceLeDiff, Nat.reduceEqDiff, Int.reducePow, Int.reduceToNat, Int.reduceNeg, Int.reduceAdd, Int.reduceMul, Int.reduceSub, Int.reduceLT, Int.reduceLE, Int.reduceEq, Nat.zero_add, Int.zero_add, big_eq, true_and, and_true, and_self, dSub_int, dAdd_int, dAddI_int, dLt_int, dLe_int, dGt_int, dGe_int, dEqD_int, bInt_int, bLen_lst, bLen_tup, bMin_int, bMax_int, bAbs_int, dIs_non, dIs_int, dIs_nn, Bool.not_true, Bool.not_false, decide_true, decide_false, reduceIte, Bool.false_eq_true, if_false, if_true, iSeq_lst, iSeq_tup, iSeq_rdl, iEnu_lst, iEnu_tup]
        rw [eC]
        unfold cap
        simp
        omega
    rintro L s' ⟨rfl, rfl⟩
    refine ws_cut (fun L s' => ∃ (lo : Nat) (y7 y8 : Option D), L = [some (.int d), some (.int m'), some (.int p'), some (tD t), some (.tup (ps.map nI)), some (.int (k + 1 : Nat)), some (.int lo), y7, y8] ∧ s = s' ∧ lo < C ∧ bl t k m' lo ≤ p' ∧ p' < bl t k m' (lo + 1)) ?_ ?_
    · refine ws_while (fun j L s' => ∃ (lo hi : Nat) (y : Option D), L = [some (.int d), some (.int m'), some (.int p'), some (tD t), some (.tup (ps.map nI)), some (.int (k + 1 : Nat)), some (.int lo), some (.int hi), y] ∧ s = s' ∧ lo < hi ∧ hi ≤ C ∧ (hi : Int) - lo ≤ 2 ^ j ∧ bl t k m' lo ≤ p' ∧ p' < bl t k m' hi) 100000 60 ⟨0, C, _, rfl, rfl, by omega, by omega, ?_, Nat.zero_le _, ?_⟩ (by decide) ?_
      · have : (2 : Int) ^ 60 = 1152921504606846976 := by decide +kernel
        omega
      · rw [eC, bl_top]
        exact hp'
      · rintro j L s' ⟨lo, hi, y, rfl, rfl, a1, a2, a3, a4, a5⟩
        simp (implicitDefEqProofs := false) only [↓w_srtT, ↓w_par2, ↓w_par3, ↓w_setd, ↓w_dict1, ↓w_maxDf, ↓w_slT, ↓w_addT, ↓w_dictT, ↓w_dictI, ↓w_get, ↓w_lrg1T, ↓w_lrg2T, ↓w_lrg1, ↓w_lrg2, ↓w_pop0, ↓w_lcT, ↓w_mth, ↓w_calm, ↓w_tryM, ↓w_tm0, ↓w_tmN, ↓w_tmS, ↓w_seq, ↓w_next, ↓w_break, ↓w_cont, ↓w_retN, ↓w_asg, ↓w_expr, ↓w_ret, ↓w_if, ↓w_asgG, ↓w_for, ↓w_put, ↓w_aug, ↓w_augS, ↓w_raise0, ↓w_raise1, ↓w_raise2, ↓w_try, ↓w_tryAs, ↓w_var, ↓w_c, ↓w_op, ↓w_chain, ↓w_notV, ↓w_andV, ↓w_orV, ↓w_ifE, ↓w_tst, ↓w_not, ↓w_and, ↓w_or, ↓w_yes, ↓w_nil, ↓w_cons, ↓w_tup, ↓w_lst, ↓w_lstT, ↓w_cb, ↓w_call, ↓w_callK, ↓w_neg, ↓w_no, ↓w_pt, ↓w_sl, ↓w_fld, ↓w_src, ↓w_rng, ↓w_enu, ↓w_listT, ↓w_app, ↓w_lc, ↓w_xf, ↓w_fldT, ↓w_make, ↓w_makeL, ↓w_run, ↓w_cut, ↓w_pure, ↓w_drop, nth2_eq, nth3_eq, w_ok, w_ex, w_nx, w_rt, w_bk, w_ct, w_exS, w_some, w_v, w_tr, w_fa, w_tb, w_ti, w_tn, w_L, w_L0, wb_not, cn_f, startD, arr, gN_eq, gTp, gTl, gCn, gNl, Option.bind_some, List.filterMap_cons, List.filterMap_nil, List.map_cons, List.map_nil, List.replicate_succ, List.replicate_zero, List.cons_append, List.nil_append, List.getElem?_cons_zero, List.getElem?_cons_succ, List.set_cons_zero, List.set_cons_succ, List.length_cons, List.length_nil, Nat.reduceAdd, Nat.reduceSub, Nat.reduceLeDiff, Nat.reduceEqDiff, Int.reducePow, Int.reduceToNat, Int.reduceNeg, Int.reduceAdd, Int.reduceMul, Int.reduceSub, Int.reduceLT, Int.reduceLE, Int.reduceEq, Nat.zero_add, Int.zero_add, big_eq, true_and, and_true, and_self, dSub_int, dAdd_int, dAddI_int, dLt_int, dLe_int, dGt_int, dGe_int, dEqD_int, bInt_int, bLen_lst, bLen_tup, bMin_int, bMax_int, bAbs_int, dIs_non, dIs_int, dIs_nn, Bool.not_true, Bool.not_false, decide_true, decide_false, reduceIte, Bool.false_eq_true, if_false, if_true, iSeq_lst, iSeq_tup, iSeq_rdl, iEnu_lst, iEnu_tup]
        refine wb_dec (fun hw => ?_) (fun hw => ?_)
        · obtain ⟨q, eq⟩ : ∃ q : Nat, q = (lo + hi) / 2 := ⟨_, rfl⟩
          have eq' : ((lo : Int) + hi) / 2 = (q : Nat) := by omega
          cases j with
          | zero =>
            have : (2 : Int) ^ 0 = 1 := rfl
            omega
          | succ j =>
            rw [Int.pow_succ] at a3
            simp (implicitDefEqProofs := false) only [↓w_srtT, ↓w_par2, ↓w_par3, ↓w_setd, ↓w_dict1, ↓w_maxDf, ↓w_slT, ↓w_addT, ↓w_dictT, ↓w_dictI, ↓w_get, ↓w_lrg1T, ↓w_lrg2T, ↓w_lrg1, ↓w_lrg2, ↓w_pop0, ↓w_lcT, ↓w_mth, ↓w_calm, ↓w_tryM, ↓w_tm0, ↓w_tmN, ↓w_tmS, ↓w_seq, ↓w_next, ↓w_break, ↓w_cont, ↓w_retN, ↓w_asg, ↓w_expr, ↓w_ret, ↓w_if, ↓w_asgG, ↓w_for, ↓w_put, ↓w_aug, ↓w_augS, ↓w_raise0, ↓w_raise1, ↓w_raise2, ↓w_try, ↓w_tryAs, ↓w_var, ↓w_c, ↓w_op, ↓w_chain, ↓w_notV, ↓w_andV, ↓w_orV, ↓w_ifE, ↓w_tst, ↓w_not, ↓w_and, ↓w_or, ↓w_yes, ↓w_nil, ↓w_cons, ↓w_tup, ↓w_lst, ↓w_lstT, ↓w_cb, ↓w_call, ↓w_callK, ↓w_neg, ↓w_no, ↓w_pt, ↓w_sl, ↓w_fld, ↓w_src, ↓w_rng, ↓w_enu, ↓w_listT, ↓w_app, ↓w_lc, ↓w_xf, ↓w_fldT, ↓w_make, ↓w_makeL, ↓w_run, ↓w_cut, ↓w_pure, ↓w_drop, nth2_eq, nth3_eq, w_ok, w_ex, w_nx, w_rt, w_bk, w_ct, w_exS, w_some, w_v, w_tr, w_fa, w_tb, w_ti, w_tn, w_L, w_L0, wb_not, cn_f, startD, arr, gN_eq, gTp, gTl, gCn, gNl, Option.bind_some, List.filterMap_cons, List.filterMap_nil, List.map_cons, List.map_nil, List.replicate_succ, List.replicate_zero, List.cons_append, List.nil_append, List.getElem?_cons_zero, List.getElem?_cons_succ, List.set_cons_zero, List.set_cons_succ, List.length_cons, List.length_nil, Nat.reduceAdd, Nat.reduceSub, Nat.reduceLeDiff, Nat.reduceEqDiff, Int.reducePow, Int.reduceToNat, Int.reduceNeg, Int.reduceAdd, Int.reduceMul, Int.reduceSub, Int.reduceLT, Int.reduceLE, Int.reduceEq, Nat.zero_add, Int.zero_add, big_eq, true_and, and_true, and_self, dSub_int, dAdd_int, dAddI_int, dLt_int, dLe_int, dGt_int, dGe_int, dEqD_int, bInt_int, bLen_lst, bLen_tup, bMin_int, bMax_int, bAbs_int, dIs_non, dIs_int, dIs_nn, Bool.not_true, Bool.not_false, decide_true, decide_false, reduceIte, Bool.false_eq_true, if_false, if_true, iSeq_lst, iSeq_tup, iSeq_rdl, iEnu_lst, iEnu_tup]
            rw [dDiv_small (by decide) (by decide), eq']
            simp (implicitDefEqProofs := false) only [bo q (by omega), ↓w_srtT, ↓w_par2, ↓w_par3, ↓w_setd, ↓w_dict1, ↓w_maxDf, ↓w_slT, ↓w_addT, ↓w_dictT, ↓w_dictI, ↓w_get, ↓w_lrg1T, ↓w_lrg2T, ↓w_lrg1, ↓w_lrg2, ↓w_pop0, ↓w_lcT, ↓w_mth, ↓w_calm, ↓w_tryM, ↓w_tm0, ↓w_tmN, ↓w_tmS, ↓w_seq, ↓w_next, ↓w_break, ↓w_cont, ↓w_retN, ↓w_asg, ↓w_expr, ↓w_ret, ↓w_if, ↓w_asgG, ↓w_for, ↓w_put, ↓w_aug, ↓w_augS, ↓w_raise0, ↓w_raise1, ↓w_raise2, ↓w_try, ↓w_tryAs, ↓w_var, ↓w_c, ↓w_op, ↓w_chain, ↓w_notV, ↓w_andV, ↓w_orV, ↓w_ifE, ↓w_tst, ↓w_not, ↓w_and, ↓w_or, ↓w_yes, ↓w_nil, ↓w_cons, ↓w_tup, ↓w_lst, ↓w_lstT, ↓w_cb, ↓w_call, ↓w_callK, ↓w_neg, ↓w_no, ↓w_pt, ↓w_sl, ↓w_fld, ↓w_src, ↓w_rng, ↓w_enu, ↓w_listT, ↓w_app, ↓w_lc, ↓w_xf, ↓w_fldT, ↓w_make, ↓w_makeL, ↓w_run, ↓w_cut, ↓w_pure, ↓w_drop, nth2_eq, nth3_eq, w_ok, w_ex, w_nx, w_rt, w_bk, w_ct, w_exS, w_some, w_v, w_tr, w_fa, w_tb, w_ti, w_tn, w_L, w_L0, wb_not, cn_f, startD, arr, gN_eq, gTp, gTl, gCn, gNl, Option.bind_some, List.filterMap_cons, List.filterMap_nil, List.map_cons, List.map_nil, List.replicate_succ, List.replicate_zero, List.cons_append, List.nil_append, List.getElem?_cons_zero, List.getElem?_cons_succ, List.set_cons_zero, List.set_cons_succ, List.length_cons, List.length_nil, Nat.reduceAdd, Nat.reduceSub, Nat.reduceLeDiff, Nat.reduceEqDiff, Int.reducePow, Int.reduceToNat, Int.reduceNeg, Int.reduceAdd, Int.reduceMul, Int.reduceSub, Int.reduceLT, Int.reduceLE, Int.reduceEq, Nat.zero_add, Int.zero_add, big_eq, true_and, and_true, and_self, dSub_int, dAdd_int, dAddI_int, dLt_int, dLe_int, dGt_int, dGe_int, dEqD_int, bInt_int, bLen_lst, bLen_tup, bMin_int, bMax_int, bAbs_int, dIs_non, dIs_int, dIs_nn, Bool.not_true, Bool.not_false, decide_true, decide_false, reduceIte, Bool.false_eq_true, if_false, if_true, iSeq_lst, iSeq_tup, iSeq_rdl, iEnu_lst, iEnu_tup]
            refine wb_dec (fun hz => ?_) (fun hz => ?_)
            · simp (implicitDefEqProofs := false) only [↓w_srtT, ↓w_par2, ↓w_par3, ↓w_setd, ↓w_dict1, ↓w_maxDf, ↓w_slT, ↓w_addT, ↓w_dictT, ↓w_dictI, ↓w_get, ↓w_lrg1T, ↓w_lrg2T, ↓w_lrg1, ↓w_lrg2, ↓w_pop0, ↓w_lcT, ↓w_mth, ↓w_calm, ↓w_tryM, ↓w_tm0, ↓w_tmN, ↓w_tmS, ↓w_seq, ↓w_next, ↓w_break, ↓w_cont, ↓w_retN, ↓w_asg, ↓w_expr, ↓w_ret, ↓w_if, ↓w_asgG, ↓w_for, ↓w_put, ↓w_aug, ↓w_augS, ↓w_raise0, ↓w_raise1, ↓w_raise2, ↓w_try, ↓w_tryAs, ↓w_var, ↓w_c, ↓w_op, ↓w_chain, ↓w_notV, ↓w_andV, ↓w_orV, ↓w_ifE, ↓w_tst, ↓w_not, ↓w_and, ↓w_or, ↓w_yes, ↓w_nil, ↓w_cons, ↓w_tup, ↓w_lst, ↓w_lstT, ↓w_cb, ↓w_call, ↓w_callK, ↓w_neg, ↓w_no, ↓w_pt, ↓w_sl, ↓w_fld, ↓w_src, ↓w_rng, ↓w_enu, ↓w_listT, ↓w_app, ↓w_lc, ↓w_xf, ↓w_fldT, ↓w_make, ↓w_makeL, ↓w_run, ↓w_cut, ↓w_pure, ↓w_drop, nth2_eq, nth3_eq, w_ok, w_ex, w_nx, w_rt, w_bk, w_ct, w_exS, w_some, w_v, w_tr, w_fa, w_tb, w_ti, w_tn, w_L, w_L0, wb_not, cn_f, startD, arr, gN_eq, gTp, gTl, gCn, gNl, Option.bind_some, List.filterMap_cons, List.filterMap_nil, List.map_cons, List.map_nil, List.replicate_succ, List.replicate_zero, List.cons_append, List.nil_append, List.getElem?_cons_zero, List.getElem?_cons_succ, List.set_cons_zero, List.set_cons_succ, List.length_cons, List.length_nil, Nat.reduceAdd, Nat.reduceSub, Nat.reduceLeDiff, Nat.reduceEqDiff, Int.reducePow, Int.reduceToNat, Int.reduceNeg, Int.reduceAdd, Int.reduceMul, Int.reduceSub, Int.reduceLT, Int.reduceLE, Int.reduceEq, Nat.zero_add, Int.zero_add, big_eq, true_and, and_true, and_self, dSub_int, dAdd_int, dAddI_int, dLt_int, dLe_int, dGt_int, dGe_int, dEqD_int, bInt_int, bLen_lst, bLen_tup, bMin_int, bMax_int, bAbs_int, dIs_non, dIs_int, dIs_nn, Bool.not_true, Bool.not_false, decide_true, decide_false, reduceIte, Bool.false_eq_true, if_false, if_true, iSeq_lst, iSeq_tup, iSeq_rdl, iEnu_lst, iEnu_tup]
              exact ⟨j, by omega, _, _, _, rfl, by omega, by omega, by omega, by omega, a5⟩
            · simp (implicitDefEqProofs := false) only [↓w_srtT, ↓w_par2, ↓w_par3, ↓w_setd, ↓w_dict1, ↓w_maxDf, ↓w_slT, ↓w_addT, ↓w_dictT, ↓w_dictI, ↓w_get, ↓w_lrg1T, ↓w_lrg2T, ↓w_lrg1, ↓w_lrg2, ↓w_pop0, ↓w_lcT, ↓w_mth, ↓w_calm, ↓w_tryM, ↓w_tm0, ↓w_tmN, ↓w_tmS, ↓w_seq, ↓w_next, ↓w_break, ↓w_cont, ↓w_retN, ↓w_asg, ↓w_expr, ↓w_ret, ↓w_if, ↓w_asgG, ↓w_for, ↓w_put, ↓w_aug, ↓w_augS, ↓w_raise0, ↓w_raise1, ↓w_raise2, ↓w_try, ↓w_tryAs, ↓w_var, ↓w_c, ↓w_op, ↓w_chain, ↓w_notV, ↓w_andV, ↓w_orV, ↓w_ifE, ↓w_tst, ↓w_not, ↓w_and, ↓w_or, ↓w_yes, ↓w_nil, ↓w_cons, ↓w_tup, ↓w_lst, ↓w_lstT, ↓w_cb, ↓w_call, ↓w_callK, ↓w_neg, ↓w_no, ↓w_pt, ↓w_sl, ↓w_fld, ↓w_src, ↓w_rng, ↓w_enu, ↓w_listT, ↓w_app, ↓w_lc, ↓w_xf, ↓w_fldT, ↓w_make, ↓w_makeL, ↓w_run, ↓w_cut, ↓w_pure, ↓w_drop, nth2_eq, nth3_eq, w_ok, w_ex, w_nx, w_rt, w_bk, w_ct, w_exS, w_some, w_v, w_tr, w_fa, w_tb, w_ti, w_tn, w_L, w_L0, wb_not, cn_f, startD, arr, gN_eq, gTp, gTl, gCn, gNl, Option.bind_some, List.filterMap_cons, List.filterMap_nil, List.map_cons, List.map_nil, List.replicate_succ, List.replicate_zero, List.cons_append, List.nil_append, List.getElem?_cons_zero, List.getElem?_cons_succ, List.set_cons_zero, List.set_cons_succ, List.length_cons, List.length_nil, Nat.reduceAdd, Nat.reduceSub, Nat.reduceLeDiff, Nat.reduceEqDiff, Int.reducePow, Int.reduceToNat, Int.reduceNeg, Int.reduceAdd, Int.reduceMul, Int.reduceSub, Int.reduceLT, Int.reduceLE, Int.reduceEq, Nat.zero_add, Int.zero_add, big_eq, true_and, and_true, and_self, dSub_int, dAdd_int, dAddI_int, dLt_int, dLe_int, dGt_int, dGe_int, dEqD_int, bInt_int, bLen_lst, bLen_tup, bMin_int, bMax_int, bAbs_int, dIs_non, dIs_int, dIs_nn, Bool.not_true, Bool.not_false, decide_true, decide_false, reduceIte, Bool.false_eq_true, if_false, if_true, iSeq_lst, iSeq_tup, iSeq_rdl, iEnu_lst, iEnu_tup]
              exact ⟨j, by omega, _, _, _, rfl, by omega, by omega, by omega, a4, by omega⟩
        · simp (implicitDefEqProofs := false) only [↓w_srtT, ↓w_par2, ↓w_par3, ↓w_setd, ↓w_dict1, ↓w_maxDf, ↓w_slT, ↓w_addT, ↓w_dictT, ↓w_dictI, ↓w_get, ↓w_lrg1T, ↓w_lrg2T, ↓w_lrg1, ↓w_lrg2, ↓w_pop0, ↓w_lcT, ↓w_mth, ↓w_calm, ↓w_tryM, ↓w_tm0, ↓w_tmN, ↓w_tmS, ↓w_seq, ↓w_next, ↓w_break, ↓w_cont, ↓w_retN, ↓w_asg, ↓w_expr, ↓w_ret, ↓w_if, ↓w_asgG, ↓w_for, ↓w_put, ↓w_aug, ↓w_augS, ↓w_raise0, ↓w_raise1, ↓w_raise2, ↓w_try, ↓w_tryAs, ↓w_var, ↓w_c, ↓w_op, ↓w_chain, ↓w_notV, ↓w_andV, ↓w_orV, ↓w_ifE, ↓w_tst, ↓w_not, ↓w_and, ↓w_or, ↓w_yes, ↓w_nil, ↓w_cons, ↓w_tup, ↓w_lst, ↓w_lstT, ↓w_cb, ↓w_call, ↓w_callK, ↓w_neg, ↓w_no, ↓w_pt, ↓w_sl, ↓w_fld, ↓w_src, ↓w_rng, ↓w_enu, ↓w_listT, ↓w_app, ↓w_lc, ↓w_xf, ↓w_fldT, ↓w_make, ↓w_makeL, ↓w_run, ↓w_cut, ↓w_pure, ↓w_drop, nth2_eq, nth3_eq, w_ok, w_ex, w_nx, w_rt, w_bk, w_ct, w_exS, w_some, w_v, w_tr, w_fa, w_tb, w_ti, w_tn, w_L, w_L0, wb_not, cn_f, startD, arr, gN_eq, gTp, gTl, gCn, gNl, Option.bind_some, List.filterMap_cons, List.filterMap_nil, List.map_cons, List.map_nil, List.replicate_succ, List.replicate_zero, List.cons_append, List.nil_append, List.getElem?_cons_zero, List.getElem?_cons_succ, List.set_cons_zero, List.set_cons_succ, List.length_cons, List.length_nil, Nat.reduceAdd, Nat.reduceSub, Nat.reduceLeDiff, Nat.reduceEqDiff, Int.reducePow, Int.reduceToNat, Int.reduceNeg, Int.reduceAdd, Int.reduceMul, Int.reduceSub, Int.reduceLT, Int.reduceLE, Int.reduceEq, Nat.zero_add, Int.zero_add, big_eq, true_and, and_true, and_self, dSub_int, dAdd_int, dAddI_int, dLt_int, dLe_int, dGt_int, dGe_int, dEqD_int, bInt_int, bLen_lst, bLen_tup, bMin_int, bMax_int, bAbs_int, dIs_non, dIs_int, dIs_nn, Bool.not_true, Bool.not_false, decide_true, decide_false, reduceIte, Bool.false_eq_true, if_false, if_true, iSeq_lst, iSeq_tup, iSeq_rdl, iEnu_lst, iEnu_tup]
          exact ⟨lo, _, _, rfl, by omega, a4, by rw [show lo + 1 = hi by omega]; exact a5⟩
    rintro L s' ⟨lo, y7', y8', rfl, rfl, h1, h2, h3⟩
    have hlo := lt_cap (t := t) (m := m') (n := lo) (by omega)
    have lenp : (ps.map nI).length + [D.int (lo : Int)].length ≤ 1000000 := by simp; omega
    have e1 : (p' : Int) - (bl t k m' lo : Nat) = (p' - bl t k m' lo : Nat) := by omega
    have e2 : (m' : Int) - (lo : Nat) = (m' - lo : Nat) := by omega
    simp (implicitDefEqProofs := false) only [bo lo (by omega), e1, e2, add_tup lenp, ↓w_srtT, ↓w_par2, ↓w_par3, ↓w_setd, ↓w_dict1, ↓w_maxDf, ↓w_slT, ↓w_addT, ↓w_dictT, ↓w_dictI, ↓w_get, ↓w_lrg1T, ↓w_lrg2T, ↓w_lrg1, ↓w_lrg2, ↓w_pop0, ↓w_lcT, ↓w_mth, ↓w_calm, ↓w_tryM, ↓w_tm0, ↓w_tmN, ↓w_tmS, ↓w_seq, ↓w_next, ↓w_break, ↓w_cont, ↓w_retN, ↓w_asg, ↓w_expr, ↓w_ret, ↓w_if, ↓w_asgG, ↓w_for, ↓w_put, ↓w_aug, ↓w_augS, ↓w_raise0, ↓w_raise1, ↓w_raise2, ↓w_try, ↓w_tryAs, ↓w_var, ↓w_c, ↓w_op, ↓w_chain, ↓w_notV, ↓w_andV, ↓w_orV, ↓w_ifE, ↓w_tst, ↓w_not, ↓w_and, ↓w_or, ↓w_yes, ↓w_nil, ↓w_cons, ↓w_tup, ↓w_lst, ↓w_lstT, ↓w_cb, ↓w_call, ↓w_callK, ↓w_neg, ↓w_no, ↓w_pt, ↓w_sl, ↓w_fld, ↓w_src, ↓w_rng, ↓w_enu, ↓w_listT, ↓w_app, ↓w_lc, ↓w_xf, ↓w_fldT, ↓w_make, ↓w_makeL, ↓w_run, ↓w_cut, ↓w_pure, ↓w_drop, nth2_eq, nth3_eq, w_ok, w_ex, w_nx, w_rt, w_bk, w_ct, w_exS, w_some, w_v, w_tr, w_fa, w_tb, w_ti, w_tn, w_L, w_L0, wb_not, cn_f, startD, arr, gN_eq, gTp, gTl, gCn, gNl, Option.bind_some, List.filterMap_cons, List.filterMap_nil, List.map_cons, List.map_nil, List.replicate_succ, List.replicate_zero, List.cons_append, List.nil_append, List.getElem?_cons_zero, List.getElem?_cons_succ, List.set_cons_zero, List.set_cons_succ, List.length_cons, List.length_nil, Nat.reduceAdd, Nat.reduceSub, Nat.reduceLeDiff, Nat.reduceEqDiff, Int.reducePow, Int.reduceToNat, Int.reduceNeg, Int.reduceAdd, Int.reduceMul, Int.reduceSub, Int.reduceLT, Int.reduceLE, Int.reduceEq, Nat.zero_add, Int.zero_add, big_eq, true_and, and_true, and_self, dSub_int, dAdd_int, dAddI_int, dLt_int, dLe_int, dGt_int, dGe_int, dEqD_int, bInt_int, bLen_lst, bLen_tup, bMin_int, bMax_int, bAbs_int, dIs_non, dIs_int, dIs_nn, Bool.not_true, Bool.not_false, decide_true, decide_false, reduceIte, Bool.false_eq_true, if_false, if_true, iSeq_lst, iSeq_tup, iSeq_rdl, iEnu_lst, iEnu_tup]
    refine ⟨ps ++ [lo], m' - lo, p' - bl t k m' lo, some (.int (k + 1 : Nat)), some (.int lo), y7', y8', by simp [nI], ?_⟩
    refine ⟨by simp [hl], by rw [smN_app]; simp only [smN]; omega, fun n hn => ?_, by omega, ?_, fun ms hml hms => ?_⟩
    · rcases List.mem_append.mp hn with e | e
      · exact hb n e
      · rw [List.mem_singleton.mp e]
        exact hlo.2
    · rw [show d - (i + 1) = k by omega]
      rw [bl_s] at h3
      omega
    · have := hrk (lo :: ms) (by rw [List.length_cons]; omega) (by rw [smN]; omega)
      rw [List.append_assoc]
      show RK t (ps ++ lo :: ms) + _ = _
      rw [RK, show lo + smN ms = m' by omega, show ms.length = k by omega] at this
      omega
  · rintro L s' ⟨ps, m', p', y5, y6, y7, y8, rfl, rfl, hl, hsm, hb, hid, hp', hrk⟩
    simp (implicitDefEqProofs := false) only [↓w_srtT, ↓w_par2, ↓w_par3, ↓w_setd, ↓w_dict1, ↓w_maxDf, ↓w_slT, ↓w_addT, ↓w_dictT, ↓w_dictI, ↓w_get, ↓w_lrg1T, ↓w_lrg2T, ↓w_lrg1, ↓w_lrg2, ↓w_pop0, ↓w_lcT, ↓w_mth, ↓w_calm, ↓w_tryM, ↓w_tm0, ↓w_tmN, ↓w_tmS, ↓w_seq, ↓w_next, ↓w_break, ↓w_cont, ↓w_retN, ↓w_asg, ↓w_expr, ↓w_ret, ↓w_if, ↓w_asgG, ↓w_for, ↓w_put, ↓w_aug, ↓w_augS, ↓w_raise0, ↓w_raise1, ↓w_raise2, ↓w_try, ↓w_tryAs, ↓w_var, ↓w_c, ↓w_op, ↓w_chain, ↓w_notV, ↓w_andV, ↓w_orV, ↓w_ifE, ↓w_tst, ↓w_not, ↓w_and, ↓w_or, ↓w_yes, ↓w_nil, ↓w_cons, ↓w_tup, ↓w_lst, ↓w_lstT, ↓w_cb, ↓w_call, ↓w_callK, ↓w_neg, ↓w_no, ↓w_pt, ↓w_sl, ↓w_fld, ↓w_src, ↓w_rng, ↓w_enu, ↓w_listT, ↓w_app, ↓w_lc, ↓w_xf, ↓w_fldT, ↓w_make, ↓w_makeL, ↓w_run, ↓w_cut, ↓w_pure, ↓w_drop, nth2_eq, nth3_eq, w_ok, w_ex, w_nx, w_rt, w_bk, w_ct, w_exS, w_some, w_v, w_tr, w_fa, w_tb, w_ti, w_tn, w_L, w_L0, wb_not, cn_f, startD, arr, gN_eq, gTp, gTl, gCn, gNl, Option.bind_some, List.filterMap_cons, List.filterMap_nil, List.map_cons, List.map_nil, List.replicate_succ, List.replicate_zero, List.cons_append, List.nil_append, List.getElem?_cons_zero, List.getElem?_cons_succ, List.set_cons_zero, List.set_cons_succ, List.length_cons, List.length_nil, Nat.reduceAdd, Nat.reduceSub, Nat.reduceLeDiff, Nat.reduceEqDiff, Int.reducePow, Int.reduceToNat, Int.reduceNeg, Int.reduceAdd, Int.reduceMul, Int.reduceSub, Int.reduceLT, Int.reduceLE, Int.reduceEq, Nat.zero_add, Int.zero_add, big_eq, true_and, and_true, and_self, dSub_int, dAdd_int, dAddI_int, dLt_int, dLe_int, dGt_int, dGe_int, dEqD_int, bInt_int, bLen_lst, bLen_tup, bMin_int, bMax_int, bAbs_int, dIs_non, dIs_int, dIs_nn, Bool.not_true, Bool.not_false, decide_true, decide_false, reduceIte, Bool.false_eq_true, if_false, if_true, iSeq_lst, iSeq_tup, iSeq_rdl, iEnu_lst, iEnu_tup]
    rw [Nat.sub_self] at hp'
    obtain ⟨rfl, rfl⟩ := ex_0 hp'
    have := hrk [] (by simp) rfl
    rw [List.append_nil] at this
    exact ⟨ps, ⟨hl, by omega, hb, by simp [RK] at this; omega⟩, rfl⟩
end SI

/-! place_of, name_at -/
namespace SI
open PySem L2 Pg Mt
variable {c : Cl} {M : Mc} {t : Option Nat}
theorem cut_to (xs : List D) (n : Nat) (s : S) : dSl s (.lst xs) none (some (n : Int)) = some (.lst (xs.take n)) := by
  show some (D.lst (cutD xs none (some (n : Int)))) = _
  unfold cutD
  rw [HT.sIx_none, HT.sIx_nat]
  simp
end SI

/-! the same data, of the same types -/
namespace SI
open PySem L2 Pg
variable {c : Cl}
end SI

/-! a sequence: a list, a tuple, or a list of the store -/
namespace Pg
open PySem L2 SI Mt
variable {c : Cl} {M : Mc}
def Pfx (s s' : S) : Prop := ∃ t, s' = s ++ t
theorem Pfx.trans {a b d : S} (h1 : Pfx a b) (h2 : Pfx b d) : Pfx a d := by
  obtain ⟨x, rfl⟩ := h1
  obtain ⟨y, rfl⟩ := h2
  exact ⟨x ++ y, by simp⟩
theorem Pfx.get {s s' : S} (h : Pfx s s') {n : Nat} {o : O} (e : s[n]? = some o) : s'[n]? = some o := by
  obtain ⟨t, rfl⟩ := h
  rw [List.getElem?_append_left ((List.getElem?_eq_some_iff.mp e).1)]
  exact e
/-- the part up to a place -/
def slD (d : D) (xs : List D) : D := match d with
  | .tup _ => .tup xs
  | _ => .lst xs
structure Sq (s : S) (d : D) (xs : List D) (rr : Option (Nat × List D)) : Prop where
  seq : ∀ {s'}, Pfx s s' → seqOf s' d = some xs
  src : ∀ {s'}, Pfx s s' → iSeq s' d = some ⟨xs, rr⟩
  enu : ∀ {s'}, Pfx s s' → iEnu s' d = some ⟨enumI 0 xs, rr⟩
  ck : ∀ {s'} (on : List D), Pfx s s' → chk ⟨on, rr⟩ s' = true
  isT : ∀ {s'} {cs : List Addr}, Pfx s s' → bIsiT cs s' [d, .tup [.ty "list", .ty "tuple"]] = some (.bl true)
  sl : ∀ {s'} {n : Nat}, Pfx s s' → dSl s' d none (some (n : Int)) = some (slD d (xs.take n))
  nostr : ∀ z, d ≠ .str z
theorem cut_t (xs : List D) (n : Nat) : cutD xs none (some (n : Int)) = xs.take n := by
  unfold cutD
  rw [HT.sIx_none, HT.sIx_nat]
  simp
section
variable {s : S} {d : D} {xs : List D} {rr : Option (Nat × List D)}
theorem Sq.len (h : Sq s d xs rr) {s' : S} (p : Pfx s s') : bLen s' [d] = some (.int xs.length) := by
  have e : bLen s' [d] = (seqOf s' d).map fun xs => .int xs.length := by
    cases d <;> try rfl
    exact absurd rfl (h.nostr _)
  rw [e, h.seq p]
  rfl
theorem Sq.ix (h : Sq s d xs rr) {s' : S} (p : Pfx s s') {i : Nat} (hi : i < xs.length) : dIx s' d (.int i) = some xs[i] := by
  have e : dIx s' d (.int i) = (seqOf s' d).bind fun xs => L2.atI xs i := by
    cases d <;> try rfl
    exact absurd rfl (h.nostr _)
  rw [e, h.seq p]
  show L2.atI xs i = _
  rw [atI_in (by omega) (by omega), Int.toNat_natCast, List.getElem?_eq_getElem hi]
theorem Sq.mono (h : Sq s d xs rr) {s' : S} (p : Pfx s s') : Sq s' d xs rr :=
  ⟨fun q => h.seq (p.trans q), fun q => h.src (p.trans q), fun q => h.enu (p.trans q), fun on q => h.ck on (p.trans q), fun q => h.isT (p.trans q), fun q => h.sl (p.trans q), h.nostr⟩
end
theorem sq_lst (s : S) (xs : List D) : Sq s (.lst xs) xs none :=
  ⟨fun _ => rfl, fun _ => rfl, fun _ => rfl, fun _ _ => rfl, fun _ => rfl, fun _ => by rw [cut_to]; rfl, fun z h => by cases h⟩
theorem sq_tup (s : S) (xs : List D) : Sq s (.tup xs) xs none :=
  ⟨fun _ => rfl, fun _ => rfl, fun _ => rfl, fun _ _ => rfl, fun _ => rfl, fun _ => by unfold dSl; simp only [cut_t]; rfl, fun z h => by cases h⟩
theorem sq_ref {s : S} {n : Nat} {xs : List D} (e : s[n]? = some (.lst xs)) : Sq s (.ref n) xs (some (n, xs)) where
  seq p := by
    unfold seqOf
    simp only [p.get e]
  src p := by
    unfold iSeq
    simp only [p.get e]
  enu p := by
    unfold iEnu
    simp only [p.get e]
  ck on p := by
    unfold chk
    simp [p.get e]
  isT {s'} {cs} p := by
    have t : tyD s' (.ref n) = tyD s' (.lst []) := by simp only [tyD, p.get e]
    unfold bIsiT isiAny isi1
    simp only [t]
    rfl
  sl p := by
    unfold dSl lstOf
    simp only [p.get e, Option.map_some, cut_t]
    rfl
  nostr z h := by cases h
end Pg

/-! faults of plans whose rows are three ints -/
namespace Pg
open PySem L2 SI Mt
variable {c : Cl} {M : Mc}
abbrev Rw := Int × Int × Int
def rwT (z : Rw) : D := .tup [.int z.1, .int z.2.1, .int z.2.2]
def rcs (zs : List Rw) : List Int := zs.map fun z => z.2.1
/-! dicts -/
def hasK (ks : List Key) (k : Key) : Bool := ks.any fun a => decide (a = k)
theorem lk_some : ∀ {ks : List Key} {vs : List D} (k : Key), ks.length = vs.length → (lkD ks vs k).isSome = hasK ks k
  | [], vs, k, h => by simp [lkD, hasK]
  | a :: ks, [], k, h => by simp at h
  | a :: ks, v :: vs, k, h => by
    have ih := lk_some (ks := ks) (vs := vs) k (by simpa using h)
    unfold hasK at ih ⊢
    rw [lkD, List.any_cons]
    by_cases e : a = k
    · simp [e]
    · rw [if_neg e, ih]
      simp [e]
theorem pt_len : ∀ {ks : List Key} {vs : List D} (k : Key) (d : D), ks.length = vs.length → (ptD ks vs k d).1.length = (ptD ks vs k d).2.length ∧ (ptD ks vs k d).1.length ≤ ks.length + 1
  | [], vs, k, d, h => by simp [ptD]
  | a :: ks, [], k, d, h => by simp at h
  | a :: ks, v :: vs, k, d, h => by
    have ih := pt_len (ks := ks) (vs := vs) k d (by simpa using h)
    rw [ptD]
    split
    · simp at h ⊢
      omega
    · simp
      omega
theorem pt_mem : ∀ {ks : List Key} {vs : List D} {k a : Key} (d : D), ks.length = vs.length → a ∈ (ptD ks vs k d).1 → a ∈ ks ∨ a = k
  | [], vs, k, a, d, h, hm => by
    simp [ptD] at hm
    exact .inr hm
  | b :: ks, [], k, a, d, h, hm => by simp at h
  | b :: ks, v :: vs, k, a, d, h, hm => by
    rw [ptD] at hm
    split at hm
    · exact .inl hm
    · rcases List.mem_cons.mp hm with e | e
      · exact .inl (by rw [e]; exact List.mem_cons_self ..)
      · rcases pt_mem (ks := ks) (vs := vs) d (by simpa using h) e with z | z
        · exact .inl (List.mem_cons_of_mem _ z)
        · exact .inr z
end Pg

/-! faults of the times of plans -/
namespace Pg
open PySem L2 SI Mt
variable {c : Cl} {M : Mc}
end Pg

/-! faults of plans, and their ends -/
namespace Pg
open PySem L2 SI Mt
variable {c : Cl} {M : Mc}
/-- the end of the rows -/
def endP (l : Int) : List Rw → Int
  | [] => 0
  | z :: zs => max (z.2.2 + l) (endP l zs)
end Pg

/-! plans that are drawn row by row -/
namespace Pg
open PySem L2 SI Mt
variable {M : Mc}
/-- a hand that is told: its number, when it is free, how many it has told -/
abbrev Us := Int × Int × Nat
def Us.hs (us : List Us) : List Int := us.map fun u => u.1
def Us.cs (M : Mc) (us : List Us) : List (Int × Nat) := us.map fun u => (u.2.1 + M.letter, u.2.2)
def stp (M : Mc) : Int := 4 * (M.letter + M.gap)
structure PlI (M : Mc) (n k : Nat) (us : List Us) (rest : List Int) (ys : List Rw) : Prop where
  nd : (Us.hs us ++ rest).Nodup
  rg : ∀ x ∈ Us.hs us ++ rest, 0 ≤ x ∧ x < n
  z0 : (0 : Int) ∈ Us.hs us
  lu : us.length = k + 1
  lr : rest.length + k + 1 = n
  cov : ∀ x : Int, 0 ≤ x → x < n → x ∈ Us.hs us ++ rest
  ly : ys.length = k
  rc : ∀ h, h ∈ rcs ys ↔ h ∈ Us.hs us ∧ h ≠ 0
  rn : (rcs ys).Nodup
  row : ∀ z ∈ ys, z.1 ∈ Us.hs us ∧ z.1 ≠ z.2.1 ∧ 0 ≤ z.2.2 ∧ z.2.2 ≤ k * stp M ∧ (z.1 = 0 ∨ ∃ y ∈ ys, y.2.1 = z.1 ∧ y.2.2 + M.letter ≤ z.2.2)
  fr : ∀ u ∈ us, 0 ≤ u.2.1 ∧ u.2.1 ≤ k * stp M ∧ (u.1 = 0 ∨ ∃ y ∈ ys, y.2.1 = u.1 ∧ y.2.2 + M.letter ≤ u.2.1) ∧ (∀ z ∈ ys, z.1 = u.1 → z.2.2 + M.gap ≤ u.2.1) ∧ (ys.filter fun z => decide (z.1 = u.1)).length = u.2.2
  pw : ys.Pairwise fun a b => a.1 = b.1 → M.gap ≤ ((a.2.2 - b.2.2).natAbs : Int)
  cn : ∀ (T : Nat) (x : Int), 0 ≤ x → 1 ≤ T → T ≤ 10 ^ 12 → (∀ u ∈ us, u.2.2 ≤ T) → 1 + ((ys.filter fun z => decide (z.2.2 + M.letter ≤ x)).length : Int) + WS2 M (some T) x (Us.cs M us) ≤ FR M (some T) x
end Pg

/-! a drawn plan is right -/
namespace Pg
open PySem L2 SI Mt
variable {M : Mc}
end Pg

/-! the plans that the laws draw -/
namespace Pg
open PySem L2 SI Mt
variable {c : Cl} {M : Mc}
--PLANG
--END PLANG
section
variable {o : O} {r : S} {rest ts k1 : List Int} {sv : List D} {k2 : List Int} {fv : List D} {zs : List Rw}
end
end Pg

/-! small rules that many laws want -/
namespace SI
open PySem L2
theorem isn_nn (s : S) : dIs true s .non .non = some (.bl false) := rfl
/-! comprehensions over pure data: the list in the making is pure -/
section
open Pg
variable {L : Lc} {s : S} {Q : Cn (D → S → Prop)} {E : Cn (Addr → List Str → List D → S → Prop)}
theorem pur_cons {s : S} {o : O} (hs : ∀ o ∈ s, PurO o) (ho : PurO o) : ∀ o' ∈ o :: s, PurO o' := fun x hx => by
  rcases List.mem_cons.mp hx with h | h
  · rw [h]
    exact ho
  · exact hs x h
theorem pur_srcv (v : SrcV) : PurO v.o := fun n => bel_src v n
end
end SI

/-! the first start that lies near an earlier one of the same hand -/
namespace Pg
open PySem L2 SI Mt
variable {c : Cl} {M : Mc}
abbrev Pr := Int × Int
/-- the starts of a hand -/
def stOf (h : Int) (ps : List Pr) : List Int := (ps.filter fun q => decide (q.1 = h)).map fun q => q.2
/-- where the hand stands first -/
def ix1 (ps : List Pr) (h : Int) : Nat := (ps.map fun q => q.1).idxOf h
structure NrI (ps : List Pr) (m i : Nat) (ks : List Key) (vs : List D) (T : List O) : Prop where
  nd : ks.Nodup
  ln : ks.length = vs.length
  le : ks.length ≤ i
  lt : T.length = i
  lk : ∀ h, lkD ks vs (.inl h) = if h ∈ (ps.take i).map (fun q => q.1) then some (.ref (m + 1 + ix1 ps h)) else none
  at' : ∀ h, h ∈ (ps.take i).map (fun q => q.1) → T[ix1 ps h]? = some (.lst ((stOf h (ps.take i)).map D.int))
section
variable {s : S} {ks : List Key} {vs : List D} {T : List O}
end
end Pg

/-! faults of gathers -/
namespace Pg
open PySem L2 SI Mt
variable {c : Cl} {M : Mc}
def sds (zs : List Rw) : List Int := zs.map fun z => z.1
--NEXT
end Pg

/-! right plans, right gathers, and their mirrors -/
namespace Pg
open PySem L2 SI Mt
variable {M : Mc}
def Tm (z : Rw) : Prop := 0 ≤ z.2.2 ∧ z.2.2 ≤ 1000000000000000
def Gp (g : Int) (zs : List Rw) (f : Rw → Int) : Prop := zs.Pairwise fun a b => f a = f b → g ≤ ((a.2.2 - b.2.2).natAbs : Int)
structure PlR (l g : Int) (n : Nat) (zs : List Rw) : Prop where
  frm : ∀ z ∈ zs, Tm z
  hnd : ∀ z ∈ zs, 0 ≤ z.1 ∧ z.1 < n ∧ 0 < z.2.1 ∧ z.2.1 < n ∧ z.1 ≠ z.2.1
  nd : (rcs zs).Nodup
  cov : ∀ h : Int, 0 < h → h < n → h ∈ rcs zs
  ear : ∀ z ∈ zs, ∀ y ∈ zs, y.2.1 = z.1 → y.2.2 + l ≤ z.2.2
  gap : Gp g zs fun a => a.1
structure GtR (l g : Int) (n : Nat) (zs : List Rw) : Prop where
  frm : ∀ z ∈ zs, Tm z
  hnd : ∀ z ∈ zs, 0 < z.1 ∧ z.1 < n ∧ 0 ≤ z.2.1 ∧ z.2.1 < n ∧ z.1 ≠ z.2.1
  nd : (sds zs).Nodup
  cov : ∀ h : Int, 0 < h → h < n → h ∈ sds zs
  ear : ∀ z ∈ zs, ∀ y ∈ zs, y.2.1 = z.1 → y.2.2 + l ≤ z.2.2
  gap : Gp g zs fun a => a.2.1
variable {l g L b : Int} {n : Nat} {zs ys : List Rw}
/-! what holds of an item and the items before it -/
end Pg

/-! words heard in a right gather: the tree below a hand -/
namespace Pg
open PySem L2 SI Mt
variable {l g : Int} {n : Nat} {R : List Rw}
/-- who sends to h -/
def ch (R : List Rw) (h : Int) : List Int := (R.filter fun z => decide (z.2.1 = h)).map (·.1)
/-- all below h, h included; k: fuel -/
def Wd (R : List Rw) : Nat → Int → List Int
  | 0, h => [h]
  | k + 1, h => h :: (ch R h).flatMap (Wd R k)
/-- all below h -/
def V (R : List Rw) (h : Int) : List Int := Wd R R.length h
end Pg

/-! no right gather ends too soon -/
namespace Pg
open PySem L2 SI Mt
variable {M : Mc} {n : Nat} {R : List Rw}
end Pg

/-! name_at -/
namespace SI
open PySem L2 Pg Mt
variable {c : Cl} {M : Mc} {t : Option Nat}
/-- the name at a place -/
structure NmAt (M : Mc) (t : Option Nat) (rs : List Int) (x : Int) (r : Nat) (ns : List Nat) : Prop where
  ok : OkN t rs.length r ns
  hor : TM M rs r ns ≤ hor M t
  pl : PL M t rs r ns = x
theorem NmAt.lt (hM : M.Ok) (ht : OkT t) {rs : List Int} (hr : OkR rs) {x : Int} {r : Nat} {ns : List Nat} (h : NmAt M t rs x r ns) : LT M t rs (x + 1) (TM M rs r ns) := by
  have := PL_LT hM ht hr.mem (Pg.OkN.vn (M := M) h.ok) h.hor
  rw [h.pl] at this
  exact this
theorem NmAt.uniq (hM : M.Ok) (ht : OkT t) {rs : List Int} (hr : OkR rs) {x : Int} {r r' : Nat} {ns ns' : List Nat} (h : NmAt M t rs x r ns) (h' : NmAt M t rs x r' ns') : r = r' ∧ ns = ns' :=
  PL_inj hM ht hr.mem (Pg.OkN.vn (M := M) h.ok) (Pg.OkN.vn (M := M) h'.ok) (by rw [h.pl, h'.pl])
theorem pow30m (s : S) : dPow s (.int 10) (.int 30) = some (.int 1000000000000000000000000000000) := pow_lit rfl rfl
theorem mem_le : ∀ {ns : List Nat} {n : Nat}, n ∈ ns → n ≤ smN ns
  | m :: ns, n, h => by
    rw [smN]
    rcases List.mem_cons.mp h with rfl | e
    · omega
    · have := mem_le e
      omega
theorem nameat_ok (hM : M.Ok) (ht : OkT t) {rs : List Int} (hr : OkR rs) {rd : D} (hd : RtD rs rd) {x : Int} (x0 : 0 ≤ x) (x1 : x < 1000000000000000000000000000000) (h : x + 1 ≤ FRs M t (hor M t) rs) (s : S) : ∃ r ns, NmAt M t rs x r ns ∧ G_name_at c [M.d c, .int x, tD t, rd] s = .ok (nmD r ns) s := by
  suffices g : @WR _ (G_name_at c [M.d c, .int x, tD t, rd] s) ⟨fun d s' => ∃ r ns, NmAt M t rs x r ns ∧ d = nmD r ns ∧ s' = s⟩ ⟨nE⟩ by
    revert g
    generalize G_name_at c [M.d c, .int x, tD t, rd] s = z
    intro g
    obtain ⟨a, s', e, r, ns, h, rfl, rfl⟩ := ex_ok g
    exact ⟨r, ns, h, e⟩
  have l0 := hM.letter0
  have l1 := hM.letter1
  have g0 := hM.gap0
  have g1 := hM.gap1
  have hh := hor_le hM t
  obtain ⟨T, hT, eF⟩ := first_ok (c := c) hM ht hr.mem (show 1 ≤ x + 1 by omega) h s
  have t0 := hT.x0
  have t1 := hT.x1
  have t2 := hT.lt
  have t3 := hT.le
  obtain ⟨k, hk, ek⟩ := known_ok (c := c) hM ht (x := T - 1) (by omega) (by omega) hr.mem 10000000000000000000000000000000000000000 s
  have hkT := hk.eq (by omega)
  rw [hkT] at ek
  have hLY := LYs_eq (t := t) hM T rs
  obtain ⟨N, eN⟩ : ∃ N : Nat, N = (T / M.letter + 1).toNat := ⟨_, rfl⟩
  have hN : N ≤ 121 := by
    have : T / M.letter ≤ 120 := by
      have := Int.ediv_le_ediv (show 0 < M.letter by omega) (show T ≤ 120 * M.letter by omega)
      rw [Int.mul_ediv_cancel _ (by omega)] at this
      exact this
    omega
  have hall := P1_all (t := t) hM (T := T) (N := N) (by omega) hr.mem
  have jo : ∀ (x : Int) (d : Nat), x ∈ rs → d ≤ 200 → ∀ s, G_known_just_at c [M.d c, .int T, tD t, .int x, .int d] s = .ok (.int (KJ M t d (T - x - d * M.letter))) s := fun x d hx hd s => just_ok hM ht (by omega) (by omega) (hr.mem x hx) (by omega) s
  obtain ⟨p0, ep0⟩ : ∃ p0, p0 = x - FRs M t (T - 1) rs := ⟨_, rfl⟩
  unfold G_name_at
  simp (implicitDefEqProofs := false) only [turns_ok ht, roots_run hr rd hd, pow30m, count_ok x0 (show x ≤ 999999999999999999999999999999 by omega), eF, ek, ← ep0, ↓w_srtT, ↓w_par2, ↓w_par3, ↓w_setd, ↓w_dict1, ↓w_maxDf, ↓w_slT, ↓w_addT, ↓w_dictT, ↓w_dictI, ↓w_get, ↓w_lrg1T, ↓w_lrg2T, ↓w_lrg1, ↓w_lrg2, ↓w_pop0, ↓w_lcT, ↓w_mth, ↓w_calm, ↓w_tryM, ↓w_tm0, ↓w_tmN, ↓w_tmS, ↓w_seq, ↓w_next, ↓w_break, ↓w_cont, ↓w_retN, ↓w_asg, ↓w_expr, ↓w_ret, ↓w_if, ↓w_asgG, ↓w_for, ↓w_put, ↓w_aug, ↓w_augS, ↓w_raise0, ↓w_raise1, ↓w_raise2, ↓w_try, ↓w_tryAs, ↓w_var, ↓w_c, ↓w_op, ↓w_chain, ↓w_notV, ↓w_andV, ↓w_orV, ↓w_ifE, ↓w_tst, ↓w_not, ↓w_and, ↓w_or, ↓w_yes, ↓w_nil, ↓w_cons, ↓w_tup, ↓w_lst, ↓w_lstT, ↓w_cb, ↓w_call, ↓w_callK, ↓w_neg, ↓w_no, ↓w_pt, ↓w_sl, ↓w_fld, ↓w_src, ↓w_rng, ↓w_enu, ↓w_listT, ↓w_app, ↓w_lc, ↓w_xf, ↓w_fldT, ↓w_make, ↓w_makeL, ↓w_run, ↓w_cut, ↓w_pure, ↓w_drop, nth2_eq, nth3_eq, w_ok, w_ex, w_nx, w_rt, w_bk, w_ct, w_exS, w_some, w_v, w_tr, w_fa, w_tb, w_ti, w_tn, w_L, w_L0, wb_not, cn_f, startD, arr, gN_eq, gTp, gTl, gCn, gNl, Option.bind_some, List.filterMap_cons, List.filterMap_nil, List.map_cons, List.map_nil, List.replicate_succ, List.replicate_zero, List.cons_append, List.nil_append, List.getElem?_cons_zero, List.getElem?_cons_succ, List.set_cons_zero, List.set_cons_succ, List.length_cons, List.length_nil, Nat.reduceAdd, Nat.reduceSub, Nat.reduceLeDiff, Nat.reduceEqDiff, Int.reducePow, Int.reduceToNat, Int.reduceNeg, Int.reduceAdd, Int.reduceMul, Int.reduceSub, Int.reduceLT, Int.reduceLE, Int.reduceEq, Nat.zero_add, Int.zero_add, big_eq, true_and, and_true, and_self, dSub_int, dAdd_int, dAddI_int, dLt_int, dLe_int, dGt_int, dGe_int, dEqD_int, bInt_int, bLen_lst, bLen_tup, bMin_int, bMax_int, bAbs_int, dIs_non, dIs_int, dIs_nn, Bool.not_true, Bool.not_false, decide_true, decide_false, reduceIte, Bool.false_eq_true, if_false, if_true, iSeq_lst, iSeq_tup, iSeq_rdl, iEnu_lst, iEnu_tup]
  refine ws_while (fun j L s' => ∃ (d : Nat) (y8 y9 y10 y11 : Option D), L = [some (M.d c), some (.int x), some (tD t), some rd, some (.lst (rs.map D.int)), some (.int T), some (.int (p0 - P1 M t T rs d)), some (.int d), y8, y9, y10, y11] ∧ s = s' ∧ 0 ≤ p0 - P1 M t T rs d ∧ j = 1000 - d ∧ d ≤ N) 100000 1000 ⟨0, _, _, _, _, by rw [show P1 M t T rs 0 = 0 from rfl, Int.sub_zero]; rfl, rfl, by rw [show P1 M t T rs 0 = 0 from rfl]; omega, by omega, by omega⟩ (by decide) ?_
  rintro j L s' ⟨d, y8, y9, y10, y11, rfl, rfl, hp, hj, hdN⟩
  have hd2 : d < N := by
    rcases Nat.lt_or_ge d N with z | z
    · exact z
    · have : d = N := by omega
      subst this
      omega
  simp (implicitDefEqProofs := false) only [↓w_srtT, ↓w_par2, ↓w_par3, ↓w_setd, ↓w_dict1, ↓w_maxDf, ↓w_slT, ↓w_addT, ↓w_dictT, ↓w_dictI, ↓w_get, ↓w_lrg1T, ↓w_lrg2T, ↓w_lrg1, ↓w_lrg2, ↓w_pop0, ↓w_lcT, ↓w_mth, ↓w_calm, ↓w_tryM, ↓w_tm0, ↓w_tmN, ↓w_tmS, ↓w_seq, ↓w_next, ↓w_break, ↓w_cont, ↓w_retN, ↓w_asg, ↓w_expr, ↓w_ret, ↓w_if, ↓w_asgG, ↓w_for, ↓w_put, ↓w_aug, ↓w_augS, ↓w_raise0, ↓w_raise1, ↓w_raise2, ↓w_try, ↓w_tryAs, ↓w_var, ↓w_c, ↓w_op, ↓w_chain, ↓w_notV, ↓w_andV, ↓w_orV, ↓w_ifE, ↓w_tst, ↓w_not, ↓w_and, ↓w_or, ↓w_yes, ↓w_nil, ↓w_cons, ↓w_tup, ↓w_lst, ↓w_lstT, ↓w_cb, ↓w_call, ↓w_callK, ↓w_neg, ↓w_no, ↓w_pt, ↓w_sl, ↓w_fld, ↓w_src, ↓w_rng, ↓w_enu, ↓w_listT, ↓w_app, ↓w_lc, ↓w_xf, ↓w_fldT, ↓w_make, ↓w_makeL, ↓w_run, ↓w_cut, ↓w_pure, ↓w_drop, nth2_eq, nth3_eq, w_ok, w_ex, w_nx, w_rt, w_bk, w_ct, w_exS, w_some, w_v, w_tr, w_fa, w_tb, w_ti, w_tn, w_L, w_L0, wb_not, cn_f, startD, arr, gN_eq, gTp, gTl, gCn, gNl, Option.bind_some, List.filterMap_cons, List.filterMap_nil, List.map_cons, List.map_nil, List.replicate_succ, List.replicate_zero, List.cons_append, List.nil_append, List.getElem?_cons_zero, List.getElem?_cons_succ, List.set_cons_zero, List.set_cons_succ, List.length_cons, List.length_nil, Nat.reduceAdd, Nat.reduceSub, Nat.reduceLeDiff, Nat.reduceEqDiff, Int.reducePow, Int.reduceToNat, Int.reduceNeg, Int.reduceAdd, Int.reduceMul, Int.reduceSub, Int.reduceLT, Int.reduceLE, Int.reduceEq, Nat.zero_add, Int.zero_add, big_eq, true_and, and_true, and_self, dSub_int, dAdd_int, dAddI_int, dLt_int, dLe_int, dGt_int, dGe_int, dEqD_int, bInt_int, bLen_lst, bLen_tup, bMin_int, bMax_int, bAbs_int, dIs_non, dIs_int, dIs_nn, Bool.not_true, Bool.not_false, decide_true, decide_false, reduceIte, Bool.false_eq_true, if_false, if_true, iSeq_lst, iSeq_tup, iSeq_rdl, iEnu_lst, iEnu_tup]
  have hen : (enumI 0 (rs.map D.int)) = (List.range rs.length).map fun (i : Nat) => D.tup [.int i, .int (rs.getD i 0)] := by
    apply List.ext_getElem?
    intro i
    rw [enum_get, List.getElem?_map, List.getElem?_map]
    by_cases hi : i < rs.length
    · rw [List.getElem?_eq_getElem hi, List.getElem?_range hi]
      simp only [Option.map_some, Nat.zero_add]
      rw [List.getD_eq_getElem?_getD, List.getElem?_eq_getElem hi]
      rfl
    · rw [List.getElem?_eq_none (by omega), List.getElem?_eq_none (by simp; omega)]
      rfl
  rw [hen]
  refine ws_lst (xs := List.range rs.length) (f := fun i : Nat => D.tup [.int i, .int (rs.getD i 0)]) (fun j L s' => ∃ (y8 y9 y10 y11 : Option D), L = [some (M.d c), some (.int x), some (tD t), some rd, some (.lst (rs.map D.int)), some (.int T), some (.int (p0 - P1 M t T rs d - SR M t T d (rs.take j))), some (.int d), y8, y9, y10, y11] ∧ s = s' ∧ 0 ≤ p0 - P1 M t T rs d - SR M t T d (rs.take j)) ⟨_, _, _, _, by rw [List.take_zero, SR, Int.sub_zero], rfl, by rw [List.take_zero, SR]; omega⟩ ?_ ?_
  · rintro i hi L s' ⟨y8, y9, y10, y11, rfl, rfl, hp2⟩
    have hi' : i < rs.length := by simpa using hi
    have er : rs.getD i 0 = rs[i] := by rw [List.getD_eq_getElem?_getD, List.getElem?_eq_getElem hi']; rfl
    have hmem := List.getElem_mem hi'
    have r0 := hr.mem _ hmem
    rw [List.getElem_range, er]
    have ms := SR_take M t T d rs i hi'
    generalize hpp : p0 - P1 M t T rs d - SR M t T d (rs.take i) = pp at *
    simp (implicitDefEqProofs := false) only [jo rs[i] d hmem (by omega), ↓w_srtT, ↓w_par2, ↓w_par3, ↓w_setd, ↓w_dict1, ↓w_maxDf, ↓w_slT, ↓w_addT, ↓w_dictT, ↓w_dictI, ↓w_get, ↓w_lrg1T, ↓w_lrg2T, ↓w_lrg1, ↓w_lrg2, ↓w_pop0, ↓w_lcT, ↓w_mth, ↓w_calm, ↓w_tryM, ↓w_tm0, ↓w_tmN, ↓w_tmS, ↓w_seq, ↓w_next, ↓w_break, ↓w_cont, ↓w_retN, ↓w_asg, ↓w_expr, ↓w_ret, ↓w_if, ↓w_asgG, ↓w_for, ↓w_put, ↓w_aug, ↓w_augS, ↓w_raise0, ↓w_raise1, ↓w_raise2, ↓w_try, ↓w_tryAs, ↓w_var, ↓w_c, ↓w_op, ↓w_chain, ↓w_notV, ↓w_andV, ↓w_orV, ↓w_ifE, ↓w_tst, ↓w_not, ↓w_and, ↓w_or, ↓w_yes, ↓w_nil, ↓w_cons, ↓w_tup, ↓w_lst, ↓w_lstT, ↓w_cb, ↓w_call, ↓w_callK, ↓w_neg, ↓w_no, ↓w_pt, ↓w_sl, ↓w_fld, ↓w_src, ↓w_rng, ↓w_enu, ↓w_listT, ↓w_app, ↓w_lc, ↓w_xf, ↓w_fldT, ↓w_make, ↓w_makeL, ↓w_run, ↓w_cut, ↓w_pure, ↓w_drop, nth2_eq, nth3_eq, w_ok, w_ex, w_nx, w_rt, w_bk, w_ct, w_exS, w_some, w_v, w_tr, w_fa, w_tb, w_ti, w_tn, w_L, w_L0, wb_not, cn_f, startD, arr, gN_eq, gTp, gTl, gCn, gNl, Option.bind_some, List.filterMap_cons, List.filterMap_nil, List.map_cons, List.map_nil, List.replicate_succ, List.replicate_zero, List.cons_append, List.nil_append, List.getElem?_cons_zero, List.getElem?_cons_succ, List.set_cons_zero, List.set_cons_succ, List.length_cons, List.length_nil, Nat.reduceAdd, Nat.reduceSub, Nat.reduceLeDiff, Nat.reduceEqDiff, Int.reducePow, Int.reduceToNat, Int.reduceNeg, Int.reduceAdd, Int.reduceMul, Int.reduceSub, Int.reduceLT, Int.reduceLE, Int.reduceEq, Nat.zero_add, Int.zero_add, big_eq, true_and, and_true, and_self, dSub_int, dAdd_int, dAddI_int, dLt_int, dLe_int, dGt_int, dGe_int, dEqD_int, bInt_int, bLen_lst, bLen_tup, bMin_int, bMax_int, bAbs_int, dIs_non, dIs_int, dIs_nn, Bool.not_true, Bool.not_false, decide_true, decide_false, reduceIte, Bool.false_eq_true, if_false, if_true, iSeq_lst, iSeq_tup, iSeq_rdl, iEnu_lst, iEnu_tup]
    refine wb_dec (fun hw => ?_) (fun hw => ?_)
    · obtain ⟨y, ey⟩ : ∃ y, y = T - rs[i] - d * M.letter := ⟨_, rfl⟩
      rw [← ey] at hw
      have y0 : 0 ≤ y := by
        rcases Int.lt_or_le y 0 with z | z
        · rw [KJ_neg hM z] at hw
          omega
        · exact z
      have ym : y % M.gap = 0 := by
        by_cases z : y % M.gap = 0
        · exact z
        · rw [KJ_off hM z] at hw
          omega
      rw [KJ_ex hM ht y0 ym] at hw
      have q0 : 0 ≤ y / M.gap := Int.ediv_nonneg y0 (by omega)
      have q1 : y / M.gap ≤ y := Int.ediv_le_self _ y0
      have dl : 0 ≤ (d : Int) * M.letter := Int.mul_nonneg (by omega) (by omega)
      have hq : ((y / M.gap).toNat : Int) = y / M.gap := by omega
      have hpq : ((pp.toNat : Nat) : Int) = pp := by omega
      obtain ⟨ns, hta, et⟩ := tuple_ok (c := c) ht (d := d) (m := (y / M.gap).toNat) (p := pp.toNat) (by omega) (by omega) (by omega) s
      rw [hq, hpq] at et
      have hmu : dMul s (.int d) (.int M.letter) = some (.int (d * M.letter)) := dMul_small (by omega) (by omega) (by omega) (by omega)
      have hdv : dDiv s (.int y) (.int M.gap) = some (.int (y / M.gap)) := dDiv_small (by omega) (by omega)
      have had : dAdd s (.tup [.int i]) (.tup (ns.map nI)) = some (nmD i ns) := by
        rw [add_tup (by simp; have := hta.l; omega)]
        rfl
      have hlen := hta.l
      have hsm := hta.s
      have hTM : TM M rs i ns = T := by
        unfold TM
        rw [er, hlen, hsm, hq, Int.ediv_mul_cancel (Int.dvd_of_emod_eq_zero ym)]
        omega
      simp (implicitDefEqProofs := false) only [fld_letter, fld_gap, hmu, ← ey, hdv, et, had, ↓w_srtT, ↓w_par2, ↓w_par3, ↓w_setd, ↓w_dict1, ↓w_maxDf, ↓w_slT, ↓w_addT, ↓w_dictT, ↓w_dictI, ↓w_get, ↓w_lrg1T, ↓w_lrg2T, ↓w_lrg1, ↓w_lrg2, ↓w_pop0, ↓w_lcT, ↓w_mth, ↓w_calm, ↓w_tryM, ↓w_tm0, ↓w_tmN, ↓w_tmS, ↓w_seq, ↓w_next, ↓w_break, ↓w_cont, ↓w_retN, ↓w_asg, ↓w_expr, ↓w_ret, ↓w_if, ↓w_asgG, ↓w_for, ↓w_put, ↓w_aug, ↓w_augS, ↓w_raise0, ↓w_raise1, ↓w_raise2, ↓w_try, ↓w_tryAs, ↓w_var, ↓w_c, ↓w_op, ↓w_chain, ↓w_notV, ↓w_andV, ↓w_orV, ↓w_ifE, ↓w_tst, ↓w_not, ↓w_and, ↓w_or, ↓w_yes, ↓w_nil, ↓w_cons, ↓w_tup, ↓w_lst, ↓w_lstT, ↓w_cb, ↓w_call, ↓w_callK, ↓w_neg, ↓w_no, ↓w_pt, ↓w_sl, ↓w_fld, ↓w_src, ↓w_rng, ↓w_enu, ↓w_listT, ↓w_app, ↓w_lc, ↓w_xf, ↓w_fldT, ↓w_make, ↓w_makeL, ↓w_run, ↓w_cut, ↓w_pure, ↓w_drop, nth2_eq, nth3_eq, w_ok, w_ex, w_nx, w_rt, w_bk, w_ct, w_exS, w_some, w_v, w_tr, w_fa, w_tb, w_ti, w_tn, w_L, w_L0, wb_not, cn_f, startD, arr, gN_eq, gTp, gTl, gCn, gNl, Option.bind_some, List.filterMap_cons, List.filterMap_nil, List.map_cons, List.map_nil, List.replicate_succ, List.replicate_zero, List.cons_append, List.nil_append, List.getElem?_cons_zero, List.getElem?_cons_succ, List.set_cons_zero, List.set_cons_succ, List.length_cons, List.length_nil, Nat.reduceAdd, Nat.reduceSub, Nat.reduceLeDiff, Nat.reduceEqDiff, Int.reducePow, Int.reduceToNat, Int.reduceNeg, Int.reduceAdd, Int.reduceMul, Int.reduceSub, Int.reduceLT, Int.reduceLE, Int.reduceEq, Nat.zero_add, Int.zero_add, big_eq, true_and, and_true, and_self, dSub_int, dAdd_int, dAddI_int, dLt_int, dLe_int, dGt_int, dGe_int, dEqD_int, bInt_int, bLen_lst, bLen_tup, bMin_int, bMax_int, bAbs_int, dIs_non, dIs_int, dIs_nn, Bool.not_true, Bool.not_false, decide_true, decide_false, reduceIte, Bool.false_eq_true, if_false, if_true, iSeq_lst, iSeq_tup, iSeq_rdl, iEnu_lst, iEnu_tup]
      refine ⟨i, ns, ⟨⟨hi', by omega, fun n hn => ?_⟩, by omega, ?_⟩, rfl⟩
      · have h1 := hta.b n hn
        have h2 := mem_le hn
        cases t with
        | none =>
          simp only [lastN]
          omega
        | some k =>
          have := h1 k rfl
          simp only [lastN]
          omega
      · unfold PL
        rw [hTM, hlen, hta.r]
        omega
    · simp (implicitDefEqProofs := false) only [↓w_srtT, ↓w_par2, ↓w_par3, ↓w_setd, ↓w_dict1, ↓w_maxDf, ↓w_slT, ↓w_addT, ↓w_dictT, ↓w_dictI, ↓w_get, ↓w_lrg1T, ↓w_lrg2T, ↓w_lrg1, ↓w_lrg2, ↓w_pop0, ↓w_lcT, ↓w_mth, ↓w_calm, ↓w_tryM, ↓w_tm0, ↓w_tmN, ↓w_tmS, ↓w_seq, ↓w_next, ↓w_break, ↓w_cont, ↓w_retN, ↓w_asg, ↓w_expr, ↓w_ret, ↓w_if, ↓w_asgG, ↓w_for, ↓w_put, ↓w_aug, ↓w_augS, ↓w_raise0, ↓w_raise1, ↓w_raise2, ↓w_try, ↓w_tryAs, ↓w_var, ↓w_c, ↓w_op, ↓w_chain, ↓w_notV, ↓w_andV, ↓w_orV, ↓w_ifE, ↓w_tst, ↓w_not, ↓w_and, ↓w_or, ↓w_yes, ↓w_nil, ↓w_cons, ↓w_tup, ↓w_lst, ↓w_lstT, ↓w_cb, ↓w_call, ↓w_callK, ↓w_neg, ↓w_no, ↓w_pt, ↓w_sl, ↓w_fld, ↓w_src, ↓w_rng, ↓w_enu, ↓w_listT, ↓w_app, ↓w_lc, ↓w_xf, ↓w_fldT, ↓w_make, ↓w_makeL, ↓w_run, ↓w_cut, ↓w_pure, ↓w_drop, nth2_eq, nth3_eq, w_ok, w_ex, w_nx, w_rt, w_bk, w_ct, w_exS, w_some, w_v, w_tr, w_fa, w_tb, w_ti, w_tn, w_L, w_L0, wb_not, cn_f, startD, arr, gN_eq, gTp, gTl, gCn, gNl, Option.bind_some, List.filterMap_cons, List.filterMap_nil, List.map_cons, List.map_nil, List.replicate_succ, List.replicate_zero, List.cons_append, List.nil_append, List.getElem?_cons_zero, List.getElem?_cons_succ, List.set_cons_zero, List.set_cons_succ, List.length_cons, List.length_nil, Nat.reduceAdd, Nat.reduceSub, Nat.reduceLeDiff, Nat.reduceEqDiff, Int.reducePow, Int.reduceToNat, Int.reduceNeg, Int.reduceAdd, Int.reduceMul, Int.reduceSub, Int.reduceLT, Int.reduceLE, Int.reduceEq, Nat.zero_add, Int.zero_add, big_eq, true_and, and_true, and_self, dSub_int, dAdd_int, dAddI_int, dLt_int, dLe_int, dGt_int, dGe_int, dEqD_int, bInt_int, bLen_lst, bLen_tup, bMin_int, bMax_int, bAbs_int, dIs_non, dIs_int, dIs_nn, Bool.not_true, Bool.not_false, decide_true, decide_false, reduceIte, Bool.false_eq_true, if_false, if_true, iSeq_lst, iSeq_tup, iSeq_rdl, iEnu_lst, iEnu_tup]
      exact ⟨_, _, _, _, by rw [ms, ← hpp, Int.sub_sub _ _ (KJ M t d _)], by rw [ms]; omega⟩
  · rintro L s' ⟨y8, y9, y10, y11, rfl, rfl, hp2⟩
    rw [List.length_range, List.take_length] at hp2 ⊢
    have e1 := P1_s (M := M) (t := t) T rs d
    simp (implicitDefEqProofs := false) only [↓w_srtT, ↓w_par2, ↓w_par3, ↓w_setd, ↓w_dict1, ↓w_maxDf, ↓w_slT, ↓w_addT, ↓w_dictT, ↓w_dictI, ↓w_get, ↓w_lrg1T, ↓w_lrg2T, ↓w_lrg1, ↓w_lrg2, ↓w_pop0, ↓w_lcT, ↓w_mth, ↓w_calm, ↓w_tryM, ↓w_tm0, ↓w_tmN, ↓w_tmS, ↓w_seq, ↓w_next, ↓w_break, ↓w_cont, ↓w_retN, ↓w_asg, ↓w_expr, ↓w_ret, ↓w_if, ↓w_asgG, ↓w_for, ↓w_put, ↓w_aug, ↓w_augS, ↓w_raise0, ↓w_raise1, ↓w_raise2, ↓w_try, ↓w_tryAs, ↓w_var, ↓w_c, ↓w_op, ↓w_chain, ↓w_notV, ↓w_andV, ↓w_orV, ↓w_ifE, ↓w_tst, ↓w_not, ↓w_and, ↓w_or, ↓w_yes, ↓w_nil, ↓w_cons, ↓w_tup, ↓w_lst, ↓w_lstT, ↓w_cb, ↓w_call, ↓w_callK, ↓w_neg, ↓w_no, ↓w_pt, ↓w_sl, ↓w_fld, ↓w_src, ↓w_rng, ↓w_enu, ↓w_listT, ↓w_app, ↓w_lc, ↓w_xf, ↓w_fldT, ↓w_make, ↓w_makeL, ↓w_run, ↓w_cut, ↓w_pure, ↓w_drop, nth2_eq, nth3_eq, w_ok, w_ex, w_nx, w_rt, w_bk, w_ct, w_exS, w_some, w_v, w_tr, w_fa, w_tb, w_ti, w_tn, w_L, w_L0, wb_not, cn_f, startD, arr, gN_eq, gTp, gTl, gCn, gNl, Option.bind_some, List.filterMap_cons, List.filterMap_nil, List.map_cons, List.map_nil, List.replicate_succ, List.replicate_zero, List.cons_append, List.nil_append, List.getElem?_cons_zero, List.getElem?_cons_succ, List.set_cons_zero, List.set_cons_succ, List.length_cons, List.length_nil, Nat.reduceAdd, Nat.reduceSub, Nat.reduceLeDiff, Nat.reduceEqDiff, Int.reducePow, Int.reduceToNat, Int.reduceNeg, Int.reduceAdd, Int.reduceMul, Int.reduceSub, Int.reduceLT, Int.reduceLE, Int.reduceEq, Nat.zero_add, Int.zero_add, big_eq, true_and, and_true, and_self, dSub_int, dAdd_int, dAddI_int, dLt_int, dLe_int, dGt_int, dGe_int, dEqD_int, bInt_int, bLen_lst, bLen_tup, bMin_int, bMax_int, bAbs_int, dIs_non, dIs_int, dIs_nn, Bool.not_true, Bool.not_false, decide_true, decide_false, reduceIte, Bool.false_eq_true, if_false, if_true, iSeq_lst, iSeq_tup, iSeq_rdl, iEnu_lst, iEnu_tup]
    exact ⟨1000 - (d + 1), by omega, d + 1, y8, y9, y10, y11, by rw [e1, Int.sub_sub]; simp, by omega, rfl, by omega⟩
end SI

/-! next_time: both answers; there is always a next hand -/
namespace SI
open PySem L2 Pg Mt
variable {c : Cl} {M : Mc} {t : Option Nat}
theorem at_last (xs : List D) (y : D) : L2.atI (xs ++ [y]) (-1) = some y := by
  unfold L2.atI ixN
  rw [if_neg (by decide), if_pos (by simp; omega)]
  simp
  rw [show ((-1 : Int) + ((xs.length : Int) + 1)).toNat = xs.length by omega]
  simp
theorem NX.uniq {rs : List Int} {x y z : Int} (h : NX M t rs x y) (h' : NX M t rs x z) : y = z := by
  rcases Int.lt_trichotomy y z with e | e | e
  · have := h'.zero y h.lt e
    have := h.pos
    omega
  · exact e
  · have := h.zero z h'.lt e
    have := h'.pos
    omega
end SI

/-! names with a last item -/
namespace SI
open PySem L2 Pg Mt
variable {c : Cl} {M : Mc} {t : Option Nat}
theorem cut_last (xs : List D) (x : D) (s : S) : dSl s (.tup (xs ++ [x])) none (some (-1)) = some (.tup xs) := by
  show some (D.tup (cutD (xs ++ [x]) none (some (-1)))) = _
  have : cutD (xs ++ [x]) none (some (-1)) = xs := by
    unfold cutD
    have e : HT.sIx (xs ++ [x]).length (xs ++ [x]).length (some (-1)) = xs.length := by
      unfold HT.sIx
      simp
      omega
    rw [HT.sIx_none, e]
    simp
  rw [this]
theorem nm_snoc (r : Nat) (ms : List Nat) (n : Nat) : nmD r (ms ++ [n]) = .tup ((nI r :: ms.map nI) ++ [nI n]) := by
  unfold nmD
  simp
theorem nm_cutl (r : Nat) (ms : List Nat) (n : Nat) (s : S) : dSl s (nmD r (ms ++ [n])) none (some (-1)) = some (nmD r ms) := by
  rw [nm_snoc]
  exact cut_last ..
theorem nm_last (r : Nat) (ms : List Nat) (n : Nat) (s : S) : dIx s (nmD r (ms ++ [n])) (.int (-1)) = some (.int n) := by
  rw [nm_snoc, dIx_tup]
  exact at_last ..
theorem nm_add (r : Nat) (ms : List Nat) (n : Nat) (h : ms.length ≤ 1000) (s : S) : dAdd s (nmD r ms) (.tup [.int n]) = some (nmD r (ms ++ [n])) := by
  rw [nm_snoc]
  unfold nmD
  rw [add_tup (by simp; omega)]
  rfl
theorem TM_snoc (M : Mc) (rs : List Int) (r : Nat) (ms : List Nat) (n : Nat) : TM M rs r (ms ++ [n]) = TM M rs r ms + M.letter + n * M.gap := by
  unfold TM
  rw [List.length_append, List.length_singleton, smN_app, smN, smN]
  push_cast
  rw [Int.add_mul, Int.add_mul, Int.one_mul, Int.add_zero]
  omega
theorem okn_snoc {many r : Nat} {ms : List Nat} {n : Nat} (h : OkN t many r (ms ++ [n])) : OkN t many r ms ∧ (n : Int) ≤ lastN t :=
  ⟨⟨h.r, by have := h.l; simp at this; omega, fun x hx => h.m x (List.mem_append_left _ hx)⟩, h.m n (by simp)⟩
theorem okn_mk {many r : Nat} {ms : List Nat} {n : Nat} (h : OkN t many r ms) (hl : ms.length ≤ 198) (hn : (n : Int) ≤ lastN t) : OkN t many r (ms ++ [n]) :=
  ⟨h.r, by simp; omega, fun x hx => by
    rcases List.mem_append.mp hx with e | e
    · exact h.m x e
    · rw [List.mem_singleton.mp e]
      exact hn⟩
theorem PL_nonneg (hM : M.Ok) (rs : List Int) (r : Nat) (ns : List Nat) : 0 ≤ PL M t rs r ns := by
  have := PL_ge (t := t) hM rs r ns
  have := FRs_nonneg M t (TM M rs r ns - 1) rs
  omega
end SI

/-! names in their order: those that wait, the first of them out, its next ones in -/
namespace Pg
open PySem L2 SI Mt
variable {M : Mc} {t : Option Nat} {rs : List Int}
abbrev NP := Nat × List Nat
def Vn (M : Mc) (t : Option Nat) (rs : List Int) (x : NP) : Prop := VN M t rs x.1 x.2
def PP (M : Mc) (t : Option Nat) (rs : List Int) (x : NP) : Int := PL M t rs x.1 x.2
def TmN (M : Mc) (rs : List Int) (x : NP) : Int := TM M rs x.1 x.2
def nxt (t : Option Nat) (n : Nat) : Bool := match t with
  | none => true
  | some k => decide (n + 1 < k)
theorem nxt_bel {n : Nat} : nxt t n = true ↔ Bel t (n + 1) := by
  unfold nxt Bel
  cases t with
  | none => simp
  | some k => simp
/-- the next one of the same sender -/
def sib (t : Option Nat) (x : NP) : List NP := match x.2.getLast? with
  | none => []
  | some n => if nxt t n = true then [(x.1, x.2.dropLast ++ [n + 1])] else []
def kids (t : Option Nat) (x : NP) : List NP := (x.1, x.2 ++ [0]) :: sib t x
theorem sib_snoc (r : Nat) (ms : List Nat) (n : Nat) : sib t (r, ms ++ [n]) = if nxt t n = true then [(r, ms ++ [n + 1])] else [] := by
  unfold sib
  rw [List.getLast?_concat]
  simp
theorem last_cases (xs : List Nat) : xs = [] ∨ ∃ ms n, xs = ms ++ [n] := by
  rcases List.eq_nil_or_concat xs with h | ⟨ms, n, h⟩
  · exact .inl h
  · exact .inr ⟨ms, n, by rw [h, List.concat_eq_append]⟩
theorem mem_kids {x z : NP} : z ∈ kids t x ↔ z = (x.1, x.2 ++ [0]) ∨ ∃ ms n, x.2 = ms ++ [n] ∧ nxt t n = true ∧ z = (x.1, ms ++ [n + 1]) := by
  obtain ⟨r, xs⟩ := x
  unfold kids
  rw [List.mem_cons]
  refine or_congr Iff.rfl ?_
  rcases last_cases xs with rfl | ⟨ms, n, rfl⟩
  · simp [sib]
  · rw [sib_snoc]
    constructor
    · intro h
      split at h
      · rename_i hn
        exact ⟨ms, n, rfl, hn, List.mem_singleton.mp h⟩
      · cases h
    · rintro ⟨ms', n', e, hn, rfl⟩
      obtain ⟨rfl, e2⟩ := List.append_inj' e rfl
      cases e2
      rw [if_pos hn]
      exact .head _
theorem kids_vn (ht : OkT t) {x z : NP} (hx : Vn M t rs x) (hz : z ∈ kids t x) : Vn M t rs z := by
  rcases mem_kids.mp hz with rfl | ⟨ms, n, e, hn, rfl⟩
  · refine ⟨hx.r, fun m hm => ?_⟩
    rcases List.mem_append.mp hm with h | h
    · exact hx.b m h
    · rw [List.mem_singleton.mp h]
      intro k e
      have := (ht k e).1
      omega
  · refine ⟨hx.r, fun m hm => ?_⟩
    rcases List.mem_append.mp hm with h | h
    · exact hx.b m (by rw [e]; exact List.mem_append_left _ h)
    · rw [List.mem_singleton.mp h]
      exact nxt_bel.mp hn
theorem kids_tm (hM : M.Ok) {x z : NP} (hz : z ∈ kids t x) : TmN M rs x < TmN M rs z := by
  have l0 := hM.letter0
  have g0 := hM.gap0
  rcases mem_kids.mp hz with rfl | ⟨ms, n, e, hn, rfl⟩
  · unfold TmN
    rw [TM_snoc]
    dsimp only
    omega
  · obtain ⟨r, xs⟩ := x
    dsimp only at e
    subst e
    unfold TmN
    rw [TM_snoc, TM_snoc]
    have : ((n + 1 : Nat) : Int) * M.gap = n * M.gap + M.gap := by
      rw [Int.natCast_add, Int.add_mul]
      omega
    dsimp only
    omega
section
variable (hM : M.Ok) (ht : OkT t) (hr : OkR rs)
include hM ht hr
theorem kids_pp {x z : NP} (hx : Vn M t rs x) (hz : z ∈ kids t x) : PP M t rs x < PP M t rs z :=
  PL_ord hM ht hr.mem hx (kids_vn ht hx hz) (.time (kids_tm hM hz))
theorem pp_inj {x y : NP} (hx : Vn M t rs x) (hy : Vn M t rs y) (e : PP M t rs x = PP M t rs y) : x = y := by
  obtain ⟨h1, h2⟩ := PL_inj hM ht hr.mem hx hy e
  exact Prod.ext h1 h2
theorem pp_tm {x y : NP} (hx : Vn M t rs x) (hy : Vn M t rs y) (h : PP M t rs x ≤ PP M t rs y) : TmN M rs x ≤ TmN M rs y := by
  rcases Int.lt_or_eq_of_le h with h | h
  · have := (PL_iff hM ht hr.mem hx hy).mp h
    unfold TmN
    cases this with
    | time h => omega
    | depth h _ => omega
    | tup h _ _ => omega
  · rw [pp_inj hM ht hr hx hy h]
    exact Int.le_refl _
omit hM ht hr in
/-- from whom a name comes -/
theorem pred_of {x : NP} (hx : Vn M t rs x) : x.2 = [] ∨ ∃ y, Vn M t rs y ∧ x ∈ kids t y := by
  obtain ⟨r, xs⟩ := x
  rcases last_cases xs with h | ⟨ms, n, rfl⟩
  · exact .inl h
  · refine .inr ?_
    have hm : ∀ m ∈ ms, Bel t m := fun m hm => hx.b m (List.mem_append_left _ hm)
    have hn : Bel t n := hx.b n (by simp)
    cases n with
    | zero => exact ⟨(r, ms), ⟨hx.r, hm⟩, mem_kids.mpr (.inl rfl)⟩
    | succ n =>
      refine ⟨(r, ms ++ [n]), ⟨hx.r, fun m h => ?_⟩, mem_kids.mpr (.inr ⟨ms, n, rfl, nxt_bel.mpr hn, rfl⟩)⟩
      rcases List.mem_append.mp h with h | h
      · exact hm m h
      · rw [List.mem_singleton.mp h]
        intro k e
        have := hn k e
        omega
omit hM ht hr in
theorem kids_one {x y z : NP} (hx : z ∈ kids t x) (hy : z ∈ kids t y) : x = y := by
  obtain ⟨r, xs⟩ := x
  obtain ⟨r', ys⟩ := y
  rcases mem_kids.mp hx with rfl | ⟨ms, n, e, hn, rfl⟩
  · rcases mem_kids.mp hy with e | ⟨ms', n', e', hn', e⟩
    · obtain ⟨e1, e2⟩ := Prod.mk.inj e
      exact Prod.ext e1 (List.append_inj' e2 rfl).1
    · obtain ⟨e1, e2⟩ := Prod.mk.inj e
      have := (List.append_inj' e2 rfl).2
      simp at this
  · rcases mem_kids.mp hy with e' | ⟨ms', n', e', hn', e''⟩
    · obtain ⟨e1, e2⟩ := Prod.mk.inj e'
      have := (List.append_inj' e2 rfl).2
      simp at this
    · obtain ⟨e1, e2⟩ := Prod.mk.inj e''
      obtain ⟨e3, e4⟩ := List.append_inj' e2 rfl
      simp at e4
      dsimp only at e e' e1 e3
      rw [e, e', e1, e3, e4]
structure St (M : Mc) (t : Option Nat) (rs : List Int) (i : Nat) (Y W : List NP) : Prop where
  hy : ∀ y ∈ Y, Vn M t rs y
  hw : ∀ w ∈ W, Vn M t rs w ∧ ∀ y ∈ Y, PP M t rs y < PP M t rs w
  rt : ∀ r, r < rs.length → (r, []) ∈ Y ∨ (r, []) ∈ W
  kd : ∀ y ∈ Y, ∀ z ∈ kids t y, z ∈ Y ∨ z ∈ W
  pr : ∀ w ∈ W, w.2 = [] ∨ ∃ y ∈ Y, w ∈ kids t y
  nd : W.Nodup
  ly : Y.length = i
  lw : W.length ≤ rs.length + i
  w0 : W ≠ []
  sm : ∀ w ∈ W, w.2.length ≤ i ∧ ∀ n ∈ w.2, n ≤ i
theorem St.cl {i : Nat} {Y W : List NP} (h : St M t rs i Y W) : ∀ (k : Nat) {x : NP}, PP M t rs x ≤ k → Vn M t rs x → x ∈ Y ∨ ∃ w ∈ W, PP M t rs w ≤ PP M t rs x
  | k, x, hk, hx => by
    rcases pred_of hx with e | ⟨y, hy, hxy⟩
    · have : x = (x.1, []) := Prod.ext rfl e
      rw [this]
      rcases h.rt x.1 hx.r with h1 | h1
      · exact .inl h1
      · exact .inr ⟨_, h1, Int.le_refl _⟩
    · have hp := kids_pp hM ht hr hy hxy
      have h0 : 0 ≤ PP M t rs y := PL_nonneg hM ..
      match k, hk with
      | 0, hk => omega
      | k + 1, hk =>
        rcases St.cl h k (x := y) (by omega) hy with h1 | ⟨w, hw, h2⟩
        · rcases h.kd y h1 x hxy with h3 | h3
          · exact .inl h3
          · exact .inr ⟨x, h3, Int.le_refl _⟩
        · exact .inr ⟨w, hw, by omega⟩
/-- the least of those that wait is the least of all that are left -/
theorem St.least {i : Nat} {Y W : List NP} (h : St M t rs i Y W) {m : NP} (hl : ∀ w ∈ W, PP M t rs m ≤ PP M t rs w) {x : NP} (hx : Vn M t rs x) (hn : x ∉ Y) : PP M t rs m ≤ PP M t rs x := by
  have h0 : 0 ≤ PP M t rs x := PL_nonneg hM ..
  rcases h.cl hM ht hr (PP M t rs x).toNat (by omega) hx with h1 | ⟨w, hw, h2⟩
  · exact absurd h1 hn
  · have := hl w hw
    omega
theorem St.step {i : Nat} {Y W : List NP} (h : St M t rs i Y W) {j : Nat} (hj : j < W.length) (hl : ∀ w ∈ W, PP M t rs W[j] ≤ PP M t rs w) : St M t rs (i + 1) (Y ++ [W[j]]) (W.eraseIdx j ++ kids t W[j]) := by
  have hm : W[j] ∈ W := List.getElem_mem hj
  obtain ⟨hv, hlt⟩ := h.hw _ hm
  have hdec : W = W.take j ++ W[j] :: W.drop (j + 1) := by rw [← List.drop_eq_getElem_cons hj, List.take_append_drop]
  have hn := h.nd
  rw [hdec] at hn
  have hn1 := List.nodup_append.mp hn
  have hn2 := List.nodup_cons.mp hn1.2.1
  have her : ∀ w ∈ W.eraseIdx j, w ∈ W ∧ w ≠ W[j] := fun w hw => by
    rw [List.eraseIdx_eq_take_drop_succ] at hw
    rcases List.mem_append.mp hw with hw | hw
    · exact ⟨List.mem_of_mem_take hw, fun e => hn1.2.2 w hw _ (List.mem_cons_self ..) e⟩
    · exact ⟨List.mem_of_mem_drop hw, fun e => hn2.1 (by rw [← e]; exact hw)⟩
  have hin : ∀ w ∈ W, w = W[j] ∨ w ∈ W.eraseIdx j := fun w hw => by
    rw [hdec] at hw
    rw [List.eraseIdx_eq_take_drop_succ]
    rcases List.mem_append.mp hw with hw | hw
    · exact .inr (List.mem_append_left _ hw)
    · rcases List.mem_cons.mp hw with e | hw
      · exact .inl e
      · exact .inr (List.mem_append_right _ hw)
  have hmn : W[j] ∉ Y := fun hy => Int.lt_irrefl _ (hlt _ hy)
  have hkw : ∀ z ∈ kids t W[j], z ∉ W := fun z hz hw => by
    rcases h.pr z hw with e | ⟨y, hy, hyz⟩
    · rcases mem_kids.mp hz with e2 | ⟨ms, n, _, _, e2⟩ <;> rw [e2] at e <;> simp at e
    · exact hmn (by rw [kids_one hz hyz]; exact hy)
  have hkl : (kids t W[j]).length ≤ 2 := by
    unfold kids sib
    split
    · simp
    · split <;> simp
  have hsm := h.sm _ hm
  have hel : (W.eraseIdx j).length = W.length - 1 := by rw [List.length_eraseIdx, if_pos hj]
  refine ⟨fun y hy => ?_, fun w hw => ?_, fun r hr' => ?_, fun y hy z hz => ?_, fun w hw => ?_, ?_, ?_, ?_, ?_, fun w hw => ?_⟩
  · rcases List.mem_append.mp hy with hy | hy
    · exact h.hy y hy
    · rw [List.mem_singleton.mp hy]
      exact hv
  · rcases List.mem_append.mp hw with hw | hw
    · obtain ⟨h1, h2⟩ := her w hw
      obtain ⟨h3, h4⟩ := h.hw w h1
      refine ⟨h3, fun y hy => ?_⟩
      rcases List.mem_append.mp hy with hy | hy
      · exact h4 y hy
      · rw [List.mem_singleton.mp hy]
        rcases Int.lt_or_eq_of_le (hl w h1) with h5 | h5
        · exact h5
        · exact absurd (pp_inj hM ht hr hv h3 h5).symm h2
    · refine ⟨kids_vn ht hv hw, fun y hy => ?_⟩
      have := kids_pp hM ht hr hv hw
      rcases List.mem_append.mp hy with hy | hy
      · have := hlt y hy
        omega
      · rw [List.mem_singleton.mp hy]
        exact this
  · rcases h.rt r hr' with h1 | h1
    · exact .inl (List.mem_append_left _ h1)
    · rcases hin _ h1 with e | h2
      · exact .inl (List.mem_append_right _ (by rw [e]; exact .head _))
      · exact .inr (List.mem_append_left _ h2)
  · rcases List.mem_append.mp hy with hy | hy
    · rcases h.kd y hy z hz with h1 | h1
      · exact .inl (List.mem_append_left _ h1)
      · rcases hin _ h1 with e | h2
        · exact .inl (List.mem_append_right _ (by rw [e]; exact .head _))
        · exact .inr (List.mem_append_left _ h2)
    · rw [List.mem_singleton.mp hy] at hz
      exact .inr (List.mem_append_right _ hz)
  · rcases List.mem_append.mp hw with hw | hw
    · rcases h.pr w (her w hw).1 with e | ⟨y, hy, hyw⟩
      · exact .inl e
      · exact .inr ⟨y, List.mem_append_left _ hy, hyw⟩
    · exact .inr ⟨_, List.mem_append_right _ (.head _), hw⟩
  · refine List.nodup_append.mpr ⟨h.nd.sublist (List.eraseIdx_sublist ..), ?_, fun a ha b hb e => hkw b hb (by rw [← e]; exact (her a ha).1)⟩
    unfold kids sib
    split
    · simp
    · split
      · rename_i n e _
        refine List.nodup_cons.mpr ⟨fun hz => ?_, by simp⟩
        have := (Prod.mk.inj (List.mem_singleton.mp hz)).2
        have := (List.append_inj' this rfl).2
        simp at this
      · simp
  · rw [List.length_append, h.ly]
    rfl
  · rw [List.length_append, hel]
    have := h.lw
    omega
  · intro e
    have := congrArg List.length e
    rw [List.length_append] at this
    unfold kids at this
    simp at this
  · rcases List.mem_append.mp hw with hw | hw
    · have := h.sm w (her w hw).1
      exact ⟨by omega, fun n hn => by have := this.2 n hn; omega⟩
    · rcases mem_kids.mp hw with rfl | ⟨ms, n, e, hnx, rfl⟩
      · refine ⟨by rw [List.length_append, List.length_singleton]; omega, fun n hn => ?_⟩
        rcases List.mem_append.mp hn with h1 | h1
        · have := hsm.2 n h1
          omega
        · rw [List.mem_singleton.mp h1]
          omega
      · have h1 := hsm.1
        rw [e, List.length_append, List.length_singleton] at h1
        refine ⟨by rw [List.length_append, List.length_singleton]; omega, fun m hm => ?_⟩
        rcases List.mem_append.mp hm with h2 | h2
        · have := hsm.2 m (by rw [e]; exact List.mem_append_left _ h2)
          omega
        · rw [List.mem_singleton.mp h2]
          have := hsm.2 n (by rw [e]; simp)
          omega
/-- those that wait at first -/
def rts (rs : List Int) : List NP := (List.range rs.length).map fun r => (r, [])
omit ht in
theorem St.zero : St M t rs 0 [] (rts rs) := by
  have hl0 := hr.l0
  refine ⟨fun y hy => (nomatch hy), fun w hw => ?_, fun r hr' => ?_, fun y hy => (nomatch hy), fun w hw => ?_, ?_, rfl, by simp [rts], ?_, fun w hw => ?_⟩
  · obtain ⟨r, h1, rfl⟩ := List.mem_map.mp hw
    exact ⟨⟨List.mem_range.mp h1, fun n hn => (nomatch hn)⟩, fun y hy => (nomatch hy)⟩
  · exact .inr (List.mem_map.mpr ⟨r, List.mem_range.mpr hr', rfl⟩)
  · obtain ⟨r, h1, rfl⟩ := List.mem_map.mp hw
    exact .inl rfl
  · unfold rts List.Nodup
    rw [List.pairwise_map]
    exact List.Pairwise.imp (fun {a b} h e => h (Prod.mk.inj e).1) List.nodup_range
  · intro e
    have h1 : (rts rs).length = rs.length := by simp [rts]
    rw [e] at h1
    have h1 : 0 = rs.length := h1
    omega
  · obtain ⟨r, h1, rfl⟩ := List.mem_map.mp hw
    exact ⟨Nat.le_refl _, fun n hn => (nomatch hn)⟩
end
end Pg

/-! for .. in a generator def, by an invariant -/
namespace SI
open PySem L2
abbrev nBs (P : Lc → S → Prop) : Bs := ⟨P, fun _ _ => False, fun _ _ => False, fun _ _ => False, fun _ _ _ _ _ => False⟩
theorem ws_nx {r : RS} {P : Lc → S → Prop} (h : @WS r (nBs P)) : ∃ L s, r = .nx L s ∧ P L s := by
  cases r with
  | nx L s => exact ⟨L, s, rfl, h⟩
  | rt d s => exact h.elim
  | bk L s => exact h.elim
  | ct L s => exact h.elim
  | ex C fs ds L s => exact h.elim
  | bad => exact h.elim
theorem gen_step {pre u v : FS} {fe : F D} {ph : Nat} {Lg : Lc} {s : S} {P : D → Lc → S → Prop} (h : @WS (if ph = 0 then pre Lg s else v Lg s) (nBs fun L1 s1 => @WS (u L1 s1) (nBs fun L2 s2 => @WR D (fe L2 s2) ⟨fun d s3 => P d L2 s3⟩ ⟨nE⟩))) :
    ∃ d Lg' s1, genA pre u fe v ph Lg s = some (d, 1, Lg', s1) ∧ P d Lg' s1 := by
  obtain ⟨L1, s1, e1, h1⟩ := ws_nx h
  obtain ⟨L2, s2, e2, h2⟩ := ws_nx h1
  obtain ⟨d, s3, e3, h3⟩ := ex_ok h2
  refine ⟨d, L2, s3, ?_, h3⟩
  unfold genA
  rw [e1]
  dsimp only
  unfold gLp
  rw [e2]
  dsimp only
  rw [e3]
theorem ws_gen {tn : GT} {q : Tg} {body : FS} {B : Bs} (N : Nat) (I : Nat → Nat → Lc → Lc → S → Prop)
    (hs : ∀ i ph Lg L s, i < N → I i ph Lg L s → ∃ d ph' Lg' s1 L1, tn ph Lg s = some (d, ph', Lg', s1) ∧ q d L = some L1 ∧ @WS (body L1 s1) ⟨fun L s => I (i + 1) ph' Lg' L s, B.rt, B.nx, fun L s => I (i + 1) ph' Lg' L s, B.ex⟩)
    (hN : ∀ ph Lg L s, ¬ I N ph Lg L s) : ∀ (n i : Nat) {ph : Nat} {Lg L : Lc} {s : S}, I i ph Lg L s → i ≤ N → N < i + n → @WS (forG tn q body n ph Lg L s) B
  | 0, i, ph, Lg, L, s, _, h1, h2 => absurd h2 (by omega)
  | n + 1, i, ph, Lg, L, s, h0, h1, h2 => by
    rcases Nat.lt_or_ge i N with hi | hi
    · obtain ⟨d, ph', Lg', s1, L1, e1, e2, h3⟩ := hs i ph Lg L s hi h0
      unfold forG
      rw [e1]
      dsimp only
      rw [e2]
      dsimp only
      have go : ∀ L2 s2, I (i + 1) ph' Lg' L2 s2 → @WS (forG tn q body n ph' Lg' L2 s2) B := fun L2 s2 h4 => ws_gen N I hs hN n (i + 1) h4 (by omega) (by omega)
      cases eb : body L1 s1 with
      | nx L2 s2 =>
        rw [eb] at h3
        exact go L2 s2 h3
      | ct L2 s2 =>
        rw [eb] at h3
        exact go L2 s2 h3
      | bk L2 s2 =>
        rw [eb] at h3
        exact h3
      | rt d s2 =>
        rw [eb] at h3
        exact h3
      | ex C fs ds L2 s2 =>
        rw [eb] at h3
        exact h3
      | bad =>
        rw [eb] at h3
        exact h3.elim
    · have : i = N := by omega
      subst this
      exact (hN _ _ _ _ h0).elim
theorem w_forG {N k n : Nat} {tn : GT} {fa : F (List D)} {q : Tg} {body : FS} {L : Lc} {s : S} {B : Bs} : @WS (sForG N k n tn fa q body L s) B = @WR _ (fa L s) ⟨fun ds s1 => ds.length = k ∧ @WS (forG tn q body n 0 (startD N ds) L s1) B⟩ ⟨fun C fs vs s => B.ex C fs vs L s⟩ := by
  unfold sForG
  rw [w_bindS]
  congr 1
  congr 1
  funext ds s1
  by_cases h : ds.length = k
  · simp [h]
  · simp [h, WS]
end SI
namespace Pg
open PySem L2 SI Mt
variable {c : Cl} {M : Mc} {t : Option Nat} {rs : List Int}
def nmJ (x : Nat) (ns : List Nat) : List Int := (x :: ns).map fun (n : Nat) => (n : Int)
def kD (M : Mc) (rs : List Int) (x : NP) : D := .tup [.int (TmN M rs x), .int x.2.length, nmD x.1 x.2]
def k3n (M : Mc) (rs : List Int) (x : NP) : K3 := (TmN M rs x, x.2.length, nmJ x.1 x.2)
theorem ints_nm : ∀ ns : List Nat, intsOf (ns.map nI) = some (ns.map fun (n : Nat) => (n : Int))
  | [] => rfl
  | n :: ns => by
    simp only [List.map_cons, nI, intsOf]
    have := ints_nm ns
    rw [this]
    rfl
theorem k3s_ok : ∀ W : List NP, k3s (W.map (kD M rs)) = some (W.map (k3n M rs))
  | [] => rfl
  | x :: W => by
    have e : k3Of (kD M rs x) = some (k3n M rs x) := by
      show (intsOf ((x.1 :: x.2).map nI)).map _ = _
      rw [ints_nm]
      rfl
    rw [List.map_cons, List.map_cons, k3s, e, k3s_ok W]
theorem lex_n : ∀ a b : List Nat, HT.lexLt (a.map fun (n : Nat) => (n : Int)) (b.map fun (n : Nat) => (n : Int)) = true ↔ ltN a b
  | [], [] => by simp [HT.lexLt, ltN]
  | [], _ :: _ => by simp [HT.lexLt, ltN]
  | _ :: _, [] => by simp [HT.lexLt, ltN]
  | x :: xs, y :: ys => by
    have ih := lex_n xs ys
    simp only [List.map_cons, HT.lexLt, ltN]
    by_cases h : x = y
    · subst h
      simp [ih]
    · have h' : ¬ (x : Int) = y := by omega
      simp [h, h']
theorem lt_n (x y : NP) : ltT (k3n M rs x) (k3n M rs y) = true ↔ Lt3 M rs x.1 x.2 y.1 y.2 := by
  unfold ltT k3n nmJ TmN
  dsimp only
  unfold ltK
  by_cases h1 : TM M rs x.1 x.2 = TM M rs y.1 y.2
  · rw [if_pos h1]
    by_cases h2 : x.2.length = y.2.length
    · rw [if_pos (by omega), lex_n]
      constructor
      · exact fun h => .tup h1 h2 h
      · intro h
        cases h with
        | time h => omega
        | depth _ h => omega
        | tup _ _ h => exact h
    · rw [if_neg (by omega), decide_eq_true_eq]
      constructor
      · exact fun h => .depth h1 (by omega)
      · intro h
        cases h with
        | time h => omega
        | depth _ h => omega
        | tup _ h _ => omega
  · rw [if_neg h1, decide_eq_true_eq]
    constructor
    · exact fun h => .time h
    · intro h
      cases h with
      | time h => exact h
      | depth h _ => exact absurd h h1
      | tup h _ _ => exact absurd h h1
theorem arg_ok {bt : Nat → Nat → Bool} {f : Nat → Int} {K : Nat} (h : ∀ i j, i ≤ K → j ≤ K → bt i j = decide (f i < f j)) : ∀ k, k ≤ K → argBest bt k ≤ k ∧ ∀ j, j ≤ k → f (argBest bt k) ≤ f j
  | 0, _ => ⟨Nat.le_refl _, fun j hj => by rw [show j = 0 by omega]; exact Int.le_refl _⟩
  | k + 1, hk => by
    obtain ⟨h1, h2⟩ := arg_ok h k (by omega)
    unfold argBest
    rw [h (k + 1) (argBest bt k) hk (by omega)]
    by_cases e : f (k + 1) < f (argBest bt k)
    · rw [if_pos (by simpa using e)]
      refine ⟨Nat.le_refl _, fun j hj => ?_⟩
      rcases Nat.lt_or_ge j (k + 1) with h3 | h3
      · have := h2 j (by omega)
        omega
      · rw [show j = k + 1 by omega]
        exact Int.le_refl _
    · rw [if_neg (by simpa using e)]
      refine ⟨by omega, fun j hj => ?_⟩
      rcases Nat.lt_or_ge j (k + 1) with h3 | h3
      · exact h2 j (by omega)
      · rw [show j = k + 1 by omega]
        omega
theorem min_lt (hM : M.Ok) (ht : OkT t) (hr : OkR rs) {W : List NP} (h0 : W ≠ []) (hv : ∀ w ∈ W, Vn M t rs w) : ∃ hj : minAt (W.map (k3n M rs)) < W.length, ∀ w ∈ W, PP M t rs W[minAt (W.map (k3n M rs))] ≤ PP M t rs w := by
  have hl : 0 < W.length := List.length_pos_iff.mpr h0
  have hp := arg_ok (bt := btT (W.map (k3n M rs))) (f := fun i => PP M t rs (W.getD i (0, []))) (K := W.length - 1) (fun i j hi hj => by
    have hi' : i < W.length := by omega
    have hj' : j < W.length := by omega
    unfold btT
    rw [List.getD_eq_getElem?_getD, List.getD_eq_getElem?_getD, List.getD_eq_getElem?_getD, List.getD_eq_getElem?_getD, List.getElem?_map, List.getElem?_map, List.getElem?_eq_getElem hi', List.getElem?_eq_getElem hj']
    have a1 := hv _ (List.getElem_mem hi')
    have a2 := hv _ (List.getElem_mem hj')
    have := PL_iff hM ht hr.mem a1 a2
    simp only [Option.map_some, Option.getD_some]
    rw [Bool.eq_iff_iff, lt_n, decide_eq_true_eq]
    exact this.symm) (W.length - 1) (Nat.le_refl _)
  have e : argBest (btT (W.map (k3n M rs))) (W.length - 1) = minAt (W.map (k3n M rs)) := by
    unfold minAt
    rw [List.length_map]
  rw [e] at hp
  have hj : minAt (W.map (k3n M rs)) < W.length := by omega
  refine ⟨hj, fun w hw => ?_⟩
  obtain ⟨i, hi, rfl⟩ := List.getElem_of_mem hw
  have := hp.2 i (by omega)
  simpa [List.getD_eq_getElem?_getD, hi, hj] using this
/-! remove -/
def kP (M : Mc) (rs : List Int) (x : NP) : PyData := .tuple [.int (TmN M rs x), .int x.2.length, .tuple ((x.1 :: x.2).map fun (n : Nat) => PyData.int (n : Int))]
theorem toPys_n (s : S) : ∀ ns : List Nat, toPys s (ns.map nI) = some (ns.map fun (n : Nat) => PyData.int (n : Int))
  | [] => rfl
  | n :: ns => by
    simp only [List.map_cons, toPys, nI, toPy]
    have := toPys_n s ns
    rw [this]
theorem toPy_k (s : S) (x : NP) : toPy s (kD M rs x) = some (kP M rs x) := by
  have := toPys_n s x.2
  have h1 : toPy s (nI x.1) = some (.int x.1) := rfl
  simp only [kD, nmD, toPy, toPys, this, h1, Option.map_some]
  rfl
theorem toPys_k (s : S) : ∀ W : List NP, toPys s (W.map (kD M rs)) = some (W.map (kP M rs))
  | [] => rfl
  | x :: W => by
    rw [List.map_cons, toPys, toPy_k, toPys_k s W]
    rfl
theorem eqv_n : ∀ a b : List Nat, PyData.eqvAll (a.map fun (n : Nat) => PyData.int (n : Int)) (b.map fun (n : Nat) => PyData.int (n : Int)) = decide (a = b)
  | [], [] => by simp [PyData.eqvAll]
  | [], _ :: _ => by simp [PyData.eqvAll]
  | _ :: _, [] => by simp [PyData.eqvAll]
  | x :: xs, y :: ys => by
    have ih := eqv_n xs ys
    simp only [List.map_cons, PyData.eqvAll, ih, eqv_int]
    by_cases h : x = y
    · subst h
      simp
    · have h' : ¬ (x : Int) = y := by omega
      simp [h, h']
theorem eqv_k (x y : NP) : PyData.eqv (kP M rs x) (kP M rs y) = decide (x = y) := by
  have h1 := eqv_n (x.1 :: x.2) (y.1 :: y.2)
  simp only [kP, PyData.eqv, PyData.eqvAll, h1, eqv_int, Bool.and_true]
  by_cases h : x = y
  · subst h
    simp
  · have : ¬ (x.1 :: x.2 = y.1 :: y.2) := fun e => h (by
      obtain ⟨e1, e2⟩ := List.cons.inj e
      exact Prod.ext e1 e2)
    simp [h, this]
theorem dOk_k (x : NP) : dOk 2 (kD M rs x) = true := by
  have : ((x.1 :: x.2).map nI).all (dOk 0) = true := by
    rw [List.all_eq_true]
    intro y hy
    obtain ⟨i, _, rfl⟩ := List.mem_map.mp hy
    rfl
  rw [List.map_cons] at this
  simp only [kD, nmD, dOk, List.all_cons, List.all_nil, this]
  rfl
theorem rem_ok {s : S} {k : Nat} {W : List NP} (e : s[k]? = some (.lst (W.map (kD M rs)))) (hn : W.Nodup) {j : Nat} (hj : j < W.length) : mRemD s (.ref k) [kD M rs W[j]] = some (.non, s.set k (.lst ((W.eraseIdx j).map (kD M rs)))) := by
  have s1 : SeqAt.shaped (.list (W.map (kP M rs))) = true := by
    obtain ⟨y, e1, e2, e3⟩ := toPy_ok s 3 (.lst (W.map (kD M rs))) (by
      rw [dOk, List.all_eq_true]
      intro z hz
      obtain ⟨i, _, rfl⟩ := List.mem_map.mp hz
      exact dOk_k i)
    simp only [toPy, toPys_k, Option.map_some, Option.some.injEq] at e1
    subst e1
    exact shaped_of e2 (by omega)
  have s2 : SeqAt.shaped (kP M rs W[j]) = true := by
    obtain ⟨y, e1, e2, e3⟩ := toPy_ok s 2 (kD M rs W[j]) (dOk_k _)
    rw [toPy_k] at e1
    cases e1
    exact shaped_of e2 (by omega)
  have hx : remAt (W.map (kP M rs)) (kP M rs W[j]) = some j := by
    unfold remAt
    rw [List.findIdx?_eq_some_iff_getElem]
    refine ⟨by simpa using hj, ?_, fun i hi => ?_⟩
    · rw [List.getElem_map, eqv_k]
      simp
    · rw [List.getElem_map, eqv_k]
      have : ¬ W[i] = W[j] := fun e => by
        have := (List.getElem_inj hn).mp e
        omega
      simp [this]
  unfold mRemD
  dsimp only
  rw [e]
  dsimp only
  rw [toPys_k, toPy_k]
  dsimp only
  rw [if_pos ⟨s1, s2⟩, hx, Option.map_some]
  congr 3
  congr 1
  rw [List.eraseIdx_eq_take_drop_succ, List.eraseIdx_eq_take_drop_succ, List.map_append, List.map_take, List.map_drop]
end Pg

/-! in_order, first_names -/
namespace Pg
open PySem L2 SI Mt
variable {c : Cl} {M : Mc} {t : Option Nat} {rs : List Int}
theorem enu_rts (rs : List Int) : enumI 0 (rs.map D.int) = (List.range rs.length).map fun (i : Nat) => D.tup [.int i, .int (rs.getD i 0)] := by
  apply List.ext_getElem?
  intro i
  rw [enum_get, List.getElem?_map, List.getElem?_map]
  by_cases hi : i < rs.length
  · rw [List.getElem?_eq_getElem hi, List.getElem?_range hi]
    simp only [Option.map_some, Nat.zero_add]
    rw [List.getD_eq_getElem?_getD, List.getElem?_eq_getElem hi]
    rfl
  · rw [List.getElem?_eq_none (by omega), List.getElem?_eq_none (by simp; omega)]
    rfl
def gL (c : Cl) (M : Mc) (t : Option Nat) (rs : List Int) (k : Nat) (m : D) (y5 y6 y7 : Option D) : Lc := [some (M.d c), some (tD t), some (.lst (rs.map D.int)), some (.ref k), some m, y5, y6, y7, none, none]
inductive InSt (c : Cl) (M : Mc) (t : Option Nat) (rs : List Int) (s : S) (o : O) (ph : Nat) (Lg : Lc) (s0 : S) (W : List NP) : Prop
  | new (h0 : ph = 0) (h1 : Lg = startD 10 [M.d c, tD t, .lst (rs.map D.int)]) (h2 : s0 = s ++ [o]) (h3 : W = rts rs)
  | old (W1 : List NP) (m : NP) (y5 y6 y7 : Option D) (h0 : ph = 1) (h1 : Lg = gL c M t rs (s.length + 1) (kD M rs m) y5 y6 y7) (h2 : s0 = s ++ [o, .lst (W1.map (kD M rs))]) (h3 : W = W1 ++ kids t m) (h4 : m.2.length ≤ 300) (h5 : W1.length ≤ 300)
theorem kD_kid (r : Nat) (ns : List Nat) : kD M rs (r, ns ++ [0]) = .tup [.int (TmN M rs (r, ns) + M.letter), .int ((ns.length : Int) + 1), nmD r (ns ++ [0])] := by
  unfold kD TmN
  rw [TM_snoc]
  simp
theorem kD_sib (r : Nat) (ms : List Nat) (n : Nat) : kD M rs (r, ms ++ [n + 1]) = .tup [.int (TmN M rs (r, ms ++ [n]) + M.gap), .int (((ms ++ [n]).length : Nat) : Int), nmD r (ms ++ [n + 1])] := by
  unfold kD TmN
  rw [TM_snoc, TM_snoc]
  have : ((n + 1 : Nat) : Int) * M.gap = n * M.gap + M.gap := by
    rw [Int.natCast_add, Int.add_mul]
    omega
  rw [this]
  simp [Int.add_assoc]
theorem io_step (hM : M.Ok) (ht : OkT t) (hr : OkR rs) {i : Nat} {Y W : List NP} (h : St M t rs i Y W) (hi : i ≤ 200) {s s0 : S} {o : O} {ph : Nat} {Lg : Lc} (hp : InSt c M t rs s o ph Lg s0 W) :
    ∃ (j : Nat) (hj : j < W.length), (∀ w ∈ W, PP M t rs W[j] ≤ PP M t rs w) ∧ ∃ y5 y6 y7, Gt_in_order c ph Lg s0 = some (kD M rs W[j], 1, gL c M t rs (s.length + 1) (kD M rs W[j]) y5 y6 y7, s ++ [o, .lst ((W.eraseIdx j).map (kD M rs))]) := by
  obtain ⟨hj, hmin⟩ := min_lt hM ht hr h.w0 fun w hw => (h.hw w hw).1
  generalize ej : minAt (W.map (k3n M rs)) = j at hj hmin
  refine ⟨j, hj, hmin, ?_⟩
  have hW : W.length ≤ 300 := by
    have := h.lw
    have := hr.l1
    omega
  have eM : bMinK (s ++ [o, .lst (W.map (kD M rs))]) [.ref (s.length + 1)] = some (kD M rs W[j]) := by
    show (lstOf _ _).bind _ = _
    rw [tw_lst1, Option.bind_some, k3s_ok, Option.bind_some, ej, List.getElem?_map, List.getElem?_eq_getElem hj]
    rfl
  have eR := rem_ok (M := M) (rs := rs) (s := s ++ [o, .lst (W.map (kD M rs))]) (k := s.length + 1) tw_get1 h.nd hj
  rw [tw_set1] at eR
  have hu : ∀ (y4 y5 y6 y7 : Option D), @WS ((sSeq (sAsg 4 (fCB bMinK (fCons (fVar 3) fNil))) (sExpr (fMth mRemD (fVar 3) (fCons (fVar 4) fNil)))) [some (M.d c), some (tD t), some (.lst (rs.map D.int)), some (.ref (s.length + 1)), y4, y5, y6, y7, none, none] (s ++ [o, .lst (W.map (kD M rs))]))
      (nBs fun L2 s2 => @WR D (fVar 4 L2 s2) ⟨fun d s3 => d = kD M rs W[j] ∧ (∃ y5 y6 y7, L2 = gL c M t rs (s.length + 1) (kD M rs W[j]) y5 y6 y7) ∧ s3 = s ++ [o, .lst ((W.eraseIdx j).map (kD M rs))]⟩ ⟨nE⟩) := fun y4 y5 y6 y7 => by
    simp (implicitDefEqProofs := false) only [eM, tw_lst1, eR, ↓w_srtT, ↓w_par2, ↓w_par3, ↓w_setd, ↓w_dict1, ↓w_maxDf, ↓w_slT, ↓w_addT, ↓w_dictT, ↓w_dictI, ↓w_get, ↓w_lrg1T, ↓w_lrg2T, ↓w_lrg1, ↓w_lrg2, ↓w_pop0, ↓w_lcT, ↓w_mth, ↓w_calm, ↓w_tryM, ↓w_tm0, ↓w_tmN, ↓w_tmS, ↓w_seq, ↓w_next, ↓w_break, ↓w_cont, ↓w_retN, ↓w_asg, ↓w_expr, ↓w_ret, ↓w_if, ↓w_asgG, ↓w_for, ↓w_put, ↓w_aug, ↓w_augS, ↓w_raise0, ↓w_raise1, ↓w_raise2, ↓w_try, ↓w_tryAs, ↓w_var, ↓w_c, ↓w_op, ↓w_chain, ↓w_notV, ↓w_andV, ↓w_orV, ↓w_ifE, ↓w_tst, ↓w_not, ↓w_and, ↓w_or, ↓w_yes, ↓w_nil, ↓w_cons, ↓w_tup, ↓w_lst, ↓w_lstT, ↓w_cb, ↓w_call, ↓w_callK, ↓w_neg, ↓w_no, ↓w_pt, ↓w_sl, ↓w_fld, ↓w_src, ↓w_rng, ↓w_enu, ↓w_listT, ↓w_app, ↓w_lc, ↓w_xf, ↓w_fldT, ↓w_make, ↓w_makeL, ↓w_run, ↓w_cut, ↓w_pure, ↓w_drop, nth2_eq, nth3_eq, w_ok, w_ex, w_nx, w_rt, w_bk, w_ct, w_exS, w_some, w_v, w_tr, w_fa, w_tb, w_ti, w_tn, w_L, w_L0, wb_not, cn_f, startD, arr, gN_eq, gTp, gTl, gCn, gNl, Option.bind_some, List.filterMap_cons, List.filterMap_nil, List.map_cons, List.map_nil, List.replicate_succ, List.replicate_zero, List.cons_append, List.nil_append, List.getElem?_cons_zero, List.getElem?_cons_succ, List.set_cons_zero, List.set_cons_succ, List.length_cons, List.length_nil, Nat.reduceAdd, Nat.reduceSub, Nat.reduceLeDiff, Nat.reduceEqDiff, Int.reducePow, Int.reduceToNat, Int.reduceNeg, Int.reduceAdd, Int.reduceMul, Int.reduceSub, Int.reduceLT, Int.reduceLE, Int.reduceEq, Nat.zero_add, Int.zero_add, big_eq, true_and, and_true, and_self, dSub_int, dAdd_int, dAddI_int, dLt_int, dLe_int, dGt_int, dGe_int, dEqD_int, bInt_int, bLen_lst, bLen_tup, bMin_int, bMax_int, bAbs_int, dIs_non, dIs_int, dIs_nn, Bool.not_true, Bool.not_false, decide_true, decide_false, reduceIte, Bool.false_eq_true, if_false, if_true, iSeq_lst, iSeq_tup, iSeq_rdl, iEnu_lst, iEnu_tup]
    exact ⟨rfl, ⟨y5, y6, y7, rfl⟩, rfl⟩
  suffices hg : ∃ d Lg' s1, Gt_in_order c ph Lg s0 = some (d, 1, Lg', s1) ∧ d = kD M rs W[j] ∧ (∃ y5 y6 y7, Lg' = gL c M t rs (s.length + 1) (kD M rs W[j]) y5 y6 y7) ∧ s1 = s ++ [o, .lst ((W.eraseIdx j).map (kD M rs))] by
    obtain ⟨d, Lg', s1, e, rfl, ⟨y5, y6, y7, rfl⟩, rfl⟩ := hg
    exact ⟨y5, y6, y7, e⟩
  refine gen_step ?_
  rcases hp with ⟨rfl, rfl, rfl, rfl⟩ | ⟨W1, m, y5, y6, y7, rfl, rfl, rfl, rfl, h4, h5⟩
  · rw [if_pos rfl]
    rw [show startD 10 [M.d c, tD t, .lst (rs.map D.int)] = [some (M.d c), some (tD t), some (.lst (rs.map D.int)), none, none, none, none, none, none, none] from rfl]
    simp (implicitDefEqProofs := false) only [↓w_srtT, ↓w_par2, ↓w_par3, ↓w_setd, ↓w_dict1, ↓w_maxDf, ↓w_slT, ↓w_addT, ↓w_dictT, ↓w_dictI, ↓w_get, ↓w_lrg1T, ↓w_lrg2T, ↓w_lrg1, ↓w_lrg2, ↓w_pop0, ↓w_lcT, ↓w_mth, ↓w_calm, ↓w_tryM, ↓w_tm0, ↓w_tmN, ↓w_tmS, ↓w_seq, ↓w_next, ↓w_break, ↓w_cont, ↓w_retN, ↓w_asg, ↓w_expr, ↓w_ret, ↓w_if, ↓w_asgG, ↓w_for, ↓w_put, ↓w_aug, ↓w_augS, ↓w_raise0, ↓w_raise1, ↓w_raise2, ↓w_try, ↓w_tryAs, ↓w_var, ↓w_c, ↓w_op, ↓w_chain, ↓w_notV, ↓w_andV, ↓w_orV, ↓w_ifE, ↓w_tst, ↓w_not, ↓w_and, ↓w_or, ↓w_yes, ↓w_nil, ↓w_cons, ↓w_tup, ↓w_lst, ↓w_lstT, ↓w_cb, ↓w_call, ↓w_callK, ↓w_neg, ↓w_no, ↓w_pt, ↓w_sl, ↓w_fld, ↓w_src, ↓w_rng, ↓w_enu, ↓w_listT, ↓w_app, ↓w_lc, ↓w_xf, ↓w_fldT, ↓w_make, ↓w_makeL, ↓w_run, ↓w_cut, ↓w_pure, ↓w_drop, nth2_eq, nth3_eq, w_ok, w_ex, w_nx, w_rt, w_bk, w_ct, w_exS, w_some, w_v, w_tr, w_fa, w_tb, w_ti, w_tn, w_L, w_L0, wb_not, cn_f, startD, arr, gN_eq, gTp, gTl, gCn, gNl, Option.bind_some, List.filterMap_cons, List.filterMap_nil, List.map_cons, List.map_nil, List.replicate_succ, List.replicate_zero, List.cons_append, List.nil_append, List.getElem?_cons_zero, List.getElem?_cons_succ, List.set_cons_zero, List.set_cons_succ, List.length_cons, List.length_nil, Nat.reduceAdd, Nat.reduceSub, Nat.reduceLeDiff, Nat.reduceEqDiff, Int.reducePow, Int.reduceToNat, Int.reduceNeg, Int.reduceAdd, Int.reduceMul, Int.reduceSub, Int.reduceLT, Int.reduceLE, Int.reduceEq, Nat.zero_add, Int.zero_add, big_eq, true_and, and_true, and_self, dSub_int, dAdd_int, dAddI_int, dLt_int, dLe_int, dGt_int, dGe_int, dEqD_int, bInt_int, bLen_lst, bLen_tup, bMin_int, bMax_int, bAbs_int, dIs_non, dIs_int, dIs_nn, Bool.not_true, Bool.not_false, decide_true, decide_false, reduceIte, Bool.false_eq_true, if_false, if_true, iSeq_lst, iSeq_tup, iSeq_rdl, iEnu_lst, iEnu_tup]
    rw [enu_rts]
    refine lcT_all (List.range rs.length) (fun i : Nat => D.tup [.int i, .int (rs.getD i 0)]) (fun i => kD M rs (i, [])) rfl (fun acc => rfl) (by have := hr.l1; simp; omega) (fun i hi acc => ?_) ?_
    · simp (implicitDefEqProofs := false) only [wipeD, ↓w_srtT, ↓w_par2, ↓w_par3, ↓w_setd, ↓w_dict1, ↓w_maxDf, ↓w_slT, ↓w_addT, ↓w_dictT, ↓w_dictI, ↓w_get, ↓w_lrg1T, ↓w_lrg2T, ↓w_lrg1, ↓w_lrg2, ↓w_pop0, ↓w_lcT, ↓w_mth, ↓w_calm, ↓w_tryM, ↓w_tm0, ↓w_tmN, ↓w_tmS, ↓w_seq, ↓w_next, ↓w_break, ↓w_cont, ↓w_retN, ↓w_asg, ↓w_expr, ↓w_ret, ↓w_if, ↓w_asgG, ↓w_for, ↓w_put, ↓w_aug, ↓w_augS, ↓w_raise0, ↓w_raise1, ↓w_raise2, ↓w_try, ↓w_tryAs, ↓w_var, ↓w_c, ↓w_op, ↓w_chain, ↓w_notV, ↓w_andV, ↓w_orV, ↓w_ifE, ↓w_tst, ↓w_not, ↓w_and, ↓w_or, ↓w_yes, ↓w_nil, ↓w_cons, ↓w_tup, ↓w_lst, ↓w_lstT, ↓w_cb, ↓w_call, ↓w_callK, ↓w_neg, ↓w_no, ↓w_pt, ↓w_sl, ↓w_fld, ↓w_src, ↓w_rng, ↓w_enu, ↓w_listT, ↓w_app, ↓w_lc, ↓w_xf, ↓w_fldT, ↓w_make, ↓w_makeL, ↓w_run, ↓w_cut, ↓w_pure, ↓w_drop, nth2_eq, nth3_eq, w_ok, w_ex, w_nx, w_rt, w_bk, w_ct, w_exS, w_some, w_v, w_tr, w_fa, w_tb, w_ti, w_tn, w_L, w_L0, wb_not, cn_f, startD, arr, gN_eq, gTp, gTl, gCn, gNl, Option.bind_some, List.filterMap_cons, List.filterMap_nil, List.map_cons, List.map_nil, List.replicate_succ, List.replicate_zero, List.cons_append, List.nil_append, List.getElem?_cons_zero, List.getElem?_cons_succ, List.set_cons_zero, List.set_cons_succ, List.length_cons, List.length_nil, Nat.reduceAdd, Nat.reduceSub, Nat.reduceLeDiff, Nat.reduceEqDiff, Int.reducePow, Int.reduceToNat, Int.reduceNeg, Int.reduceAdd, Int.reduceMul, Int.reduceSub, Int.reduceLT, Int.reduceLE, Int.reduceEq, Nat.zero_add, Int.zero_add, big_eq, true_and, and_true, and_self, dSub_int, dAdd_int, dAddI_int, dLt_int, dLe_int, dGt_int, dGe_int, dEqD_int, bInt_int, bLen_lst, bLen_tup, bMin_int, bMax_int, bAbs_int, dIs_non, dIs_int, dIs_nn, Bool.not_true, Bool.not_false, decide_true, decide_false, reduceIte, Bool.false_eq_true, if_false, if_true, iSeq_lst, iSeq_tup, iSeq_rdl, iEnu_lst, iEnu_tup]
      unfold kD TmN TM
      simp [smN, nmD, nI]
    · simp (implicitDefEqProofs := false) only [↓w_srtT, ↓w_par2, ↓w_par3, ↓w_setd, ↓w_dict1, ↓w_maxDf, ↓w_slT, ↓w_addT, ↓w_dictT, ↓w_dictI, ↓w_get, ↓w_lrg1T, ↓w_lrg2T, ↓w_lrg1, ↓w_lrg2, ↓w_pop0, ↓w_lcT, ↓w_mth, ↓w_calm, ↓w_tryM, ↓w_tm0, ↓w_tmN, ↓w_tmS, ↓w_seq, ↓w_next, ↓w_break, ↓w_cont, ↓w_retN, ↓w_asg, ↓w_expr, ↓w_ret, ↓w_if, ↓w_asgG, ↓w_for, ↓w_put, ↓w_aug, ↓w_augS, ↓w_raise0, ↓w_raise1, ↓w_raise2, ↓w_try, ↓w_tryAs, ↓w_var, ↓w_c, ↓w_op, ↓w_chain, ↓w_notV, ↓w_andV, ↓w_orV, ↓w_ifE, ↓w_tst, ↓w_not, ↓w_and, ↓w_or, ↓w_yes, ↓w_nil, ↓w_cons, ↓w_tup, ↓w_lst, ↓w_lstT, ↓w_cb, ↓w_call, ↓w_callK, ↓w_neg, ↓w_no, ↓w_pt, ↓w_sl, ↓w_fld, ↓w_src, ↓w_rng, ↓w_enu, ↓w_listT, ↓w_app, ↓w_lc, ↓w_xf, ↓w_fldT, ↓w_make, ↓w_makeL, ↓w_run, ↓w_cut, ↓w_pure, ↓w_drop, nth2_eq, nth3_eq, w_ok, w_ex, w_nx, w_rt, w_bk, w_ct, w_exS, w_some, w_v, w_tr, w_fa, w_tb, w_ti, w_tn, w_L, w_L0, wb_not, cn_f, startD, arr, gN_eq, gTp, gTl, gCn, gNl, Option.bind_some, List.filterMap_cons, List.filterMap_nil, List.map_cons, List.map_nil, List.replicate_succ, List.replicate_zero, List.cons_append, List.nil_append, List.getElem?_cons_zero, List.getElem?_cons_succ, List.set_cons_zero, List.set_cons_succ, List.length_cons, List.length_nil, Nat.reduceAdd, Nat.reduceSub, Nat.reduceLeDiff, Nat.reduceEqDiff, Int.reducePow, Int.reduceToNat, Int.reduceNeg, Int.reduceAdd, Int.reduceMul, Int.reduceSub, Int.reduceLT, Int.reduceLE, Int.reduceEq, Nat.zero_add, Int.zero_add, big_eq, true_and, and_true, and_self, dSub_int, dAdd_int, dAddI_int, dLt_int, dLe_int, dGt_int, dGe_int, dEqD_int, bInt_int, bLen_lst, bLen_tup, bMin_int, bMax_int, bAbs_int, dIs_non, dIs_int, dIs_nn, Bool.not_true, Bool.not_false, decide_true, decide_false, reduceIte, Bool.false_eq_true, if_false, if_true, iSeq_lst, iSeq_tup, iSeq_rdl, iEnu_lst, iEnu_tup]
      rw [show (List.range rs.length).map (fun i => kD M rs (i, [])) = (rts rs).map (kD M rs) by rw [rts, List.map_map]; rfl]
      rw [List.length_append, List.append_assoc]
      exact hu none none none none
  · rw [if_neg (by decide)]
    obtain ⟨r, ns⟩ := m
    have e1 : dAdd (s ++ [o, .lst (W1.map (kD M rs))]) (nmD r ns) (.tup [.int 0]) = some (nmD r (ns ++ [0])) := nm_add r ns 0 (by dsimp only at h4; omega) _
    have a1 : appOf (s.length + 1) (.tup [.int (TmN M rs (r, ns) + M.letter), .int ((ns.length : Int) + 1), nmD r (ns ++ [0])]) (s ++ [o, .lst (W1.map (kD M rs))]) = some (s ++ [o, .lst ((W1 ++ [(r, ns ++ [0])]).map (kD M rs))]) := by
      rw [tw_app1 _ (by rw [List.length_map]; omega), ← kD_kid, List.map_append]
      rfl
    unfold gL
    have g4 : kD M rs (r, ns) = .tup [.int (TmN M rs (r, ns)), .int (ns.length : Int), nmD r ns] := rfl
    simp (implicitDefEqProofs := false) only [g4, fld_letter, e1, tw_isl1, a1, ↓w_srtT, ↓w_par2, ↓w_par3, ↓w_setd, ↓w_dict1, ↓w_maxDf, ↓w_slT, ↓w_addT, ↓w_dictT, ↓w_dictI, ↓w_get, ↓w_lrg1T, ↓w_lrg2T, ↓w_lrg1, ↓w_lrg2, ↓w_pop0, ↓w_lcT, ↓w_mth, ↓w_calm, ↓w_tryM, ↓w_tm0, ↓w_tmN, ↓w_tmS, ↓w_next, ↓w_break, ↓w_cont, ↓w_retN, ↓w_asg, ↓w_expr, ↓w_ret, ↓w_if, ↓w_asgG, ↓w_for, ↓w_put, ↓w_aug, ↓w_augS, ↓w_raise0, ↓w_raise1, ↓w_raise2, ↓w_try, ↓w_tryAs, ↓w_var, ↓w_c, ↓w_op, ↓w_chain, ↓w_notV, ↓w_andV, ↓w_orV, ↓w_ifE, ↓w_tst, ↓w_not, ↓w_and, ↓w_or, ↓w_yes, ↓w_nil, ↓w_cons, ↓w_tup, ↓w_lst, ↓w_lstT, ↓w_cb, ↓w_call, ↓w_callK, ↓w_neg, ↓w_no, ↓w_pt, ↓w_sl, ↓w_fld, ↓w_src, ↓w_rng, ↓w_enu, ↓w_listT, ↓w_app, ↓w_lc, ↓w_xf, ↓w_fldT, ↓w_make, ↓w_makeL, ↓w_run, ↓w_cut, ↓w_pure, ↓w_drop, ↓wq_asg, ↓wq_asgG, ↓wq_expr, ↓wq_put, ↓wq_aug, ↓wq_augS, ↓wq_for, nth2_eq, nth3_eq, w_ok, w_ex, w_nx, w_rt, w_bk, w_ct, w_exS, w_some, w_v, w_tr, w_fa, w_tb, w_ti, w_tn, w_L, w_L0, wb_not, cn_f, startD, arr, gN_eq, gTp, gTl, gCn, gNl, Option.bind_some, List.filterMap_cons, List.filterMap_nil, List.map_cons, List.map_nil, List.replicate_succ, List.replicate_zero, List.cons_append, List.nil_append, List.getElem?_cons_zero, List.getElem?_cons_succ, List.set_cons_zero, List.set_cons_succ, List.length_cons, List.length_nil, Nat.reduceAdd, Nat.reduceSub, Nat.reduceLeDiff, Nat.reduceEqDiff, Int.reducePow, Int.reduceToNat, Int.reduceNeg, Int.reduceAdd, Int.reduceMul, Int.reduceSub, Int.reduceLT, Int.reduceLE, Int.reduceEq, Nat.zero_add, Int.zero_add, big_eq, true_and, and_true, and_self, dSub_int, dAdd_int, dAddI_int, dLt_int, dLe_int, dGt_int, dGe_int, dEqD_int, bInt_int, bLen_lst, bLen_tup, bMin_int, bMax_int, bAbs_int, dIs_non, dIs_int, dIs_nn, Bool.not_true, Bool.not_false, decide_true, decide_false, reduceIte, Bool.false_eq_true, if_false, if_true, iSeq_lst, iSeq_tup, iSeq_rdl, iEnu_lst, iEnu_tup]
    have fin : ∀ {W2 : List NP} {y5 y6 y7 : Option D}, W2 = W1 ++ kids t (r, ns) → @WS ((sSeq (sAsg 4 (fCB bMinK (fCons (fVar 3) fNil))) (sExpr (fMth mRemD (fVar 3) (fCons (fVar 4) fNil)))) [some (M.d c), some (tD t), some (.lst (rs.map D.int)), some (.ref (s.length + 1)), some (.tup [.int (TmN M rs (r, ns)), .int (ns.length : Int), nmD r ns]), y5, y6, y7, none, none] (s ++ [o, .lst (W2.map (kD M rs))])) (nBs fun L2 s2 => @WR D (fVar 4 L2 s2) ⟨fun d s3 => d = kD M rs (W1 ++ kids t (r, ns))[j] ∧ (∃ y5 y6 y7, L2 = gL c M t rs (s.length + 1) (kD M rs (W1 ++ kids t (r, ns))[j]) y5 y6 y7) ∧ s3 = s ++ [o, .lst (((W1 ++ kids t (r, ns)).eraseIdx j).map (kD M rs))]⟩ ⟨nE⟩) := fun {W2 y5 y6 y7} e => by
      rw [e]
      exact hu ..
    rcases last_cases ns with rfl | ⟨ms, n, rfl⟩
    · refine wb_dec (fun h0 => ?_) (fun h0 => ?_)
      · exact absurd h0 (by simp)
      · simp (implicitDefEqProofs := false) only [↓w_srtT, ↓w_par2, ↓w_par3, ↓w_setd, ↓w_dict1, ↓w_maxDf, ↓w_slT, ↓w_addT, ↓w_dictT, ↓w_dictI, ↓w_get, ↓w_lrg1T, ↓w_lrg2T, ↓w_lrg1, ↓w_lrg2, ↓w_pop0, ↓w_lcT, ↓w_mth, ↓w_calm, ↓w_tryM, ↓w_tm0, ↓w_tmN, ↓w_tmS, ↓w_seq, ↓w_next, ↓w_break, ↓w_cont, ↓w_retN, ↓w_asg, ↓w_expr, ↓w_ret, ↓w_if, ↓w_asgG, ↓w_for, ↓w_put, ↓w_aug, ↓w_augS, ↓w_raise0, ↓w_raise1, ↓w_raise2, ↓w_try, ↓w_tryAs, ↓w_var, ↓w_c, ↓w_op, ↓w_chain, ↓w_notV, ↓w_andV, ↓w_orV, ↓w_ifE, ↓w_tst, ↓w_not, ↓w_and, ↓w_or, ↓w_yes, ↓w_nil, ↓w_cons, ↓w_tup, ↓w_lst, ↓w_lstT, ↓w_cb, ↓w_call, ↓w_callK, ↓w_neg, ↓w_no, ↓w_pt, ↓w_sl, ↓w_fld, ↓w_src, ↓w_rng, ↓w_enu, ↓w_listT, ↓w_app, ↓w_lc, ↓w_xf, ↓w_fldT, ↓w_make, ↓w_makeL, ↓w_run, ↓w_cut, ↓w_pure, ↓w_drop, nth2_eq, nth3_eq, w_ok, w_ex, w_nx, w_rt, w_bk, w_ct, w_exS, w_some, w_v, w_tr, w_fa, w_tb, w_ti, w_tn, w_L, w_L0, wb_not, cn_f, startD, arr, gN_eq, gTp, gTl, gCn, gNl, Option.bind_some, List.filterMap_cons, List.filterMap_nil, List.map_cons, List.map_nil, List.replicate_succ, List.replicate_zero, List.cons_append, List.nil_append, List.getElem?_cons_zero, List.getElem?_cons_succ, List.set_cons_zero, List.set_cons_succ, List.length_cons, List.length_nil, Nat.reduceAdd, Nat.reduceSub, Nat.reduceLeDiff, Nat.reduceEqDiff, Int.reducePow, Int.reduceToNat, Int.reduceNeg, Int.reduceAdd, Int.reduceMul, Int.reduceSub, Int.reduceLT, Int.reduceLE, Int.reduceEq, Nat.zero_add, Int.zero_add, big_eq, true_and, and_true, and_self, dSub_int, dAdd_int, dAddI_int, dLt_int, dLe_int, dGt_int, dGe_int, dEqD_int, bInt_int, bLen_lst, bLen_tup, bMin_int, bMax_int, bAbs_int, dIs_non, dIs_int, dIs_nn, Bool.not_true, Bool.not_false, decide_true, decide_false, reduceIte, Bool.false_eq_true, if_false, if_true, iSeq_lst, iSeq_tup, iSeq_rdl, iEnu_lst, iEnu_tup]
        exact fin rfl
    · refine wb_dec (fun h0 => ?_) (fun h0 => ?_)
      · have hsn := sib_snoc (t := t) r ms n
        have l1 := nm_last r ms n
        have l2 := nm_cutl r ms n
        have hml : ms.length ≤ 299 := by
          dsimp only at h4
          rw [List.length_append, List.length_singleton] at h4
          omega
        have l3 : ∀ s, dAdd s (nmD r ms) (.tup [.int ((n : Int) + 1)]) = some (nmD r (ms ++ [n + 1])) := fun s => nm_add r ms (n + 1) (by omega) s
        have a2 : ∀ s', s' = s ++ [o, .lst ((W1 ++ [(r, ms ++ [n] ++ [0])]).map (kD M rs))] → appOf (s.length + 1) (.tup [.int (TmN M rs (r, ms ++ [n]) + M.gap), .int (((ms ++ [n]).length : Nat) : Int), nmD r (ms ++ [n + 1])]) s' = some (s ++ [o, .lst ((W1 ++ [(r, ms ++ [n] ++ [0]), (r, ms ++ [n + 1])]).map (kD M rs))]) := fun s' e => by
          rw [e, tw_app1 _ (by rw [List.length_map, List.length_append]; simp; omega), ← kD_sib]
          congr 3
          simp
        have i0 : ∀ s, dIs false s (tD none) .non = some (.bl true) := fun _ => rfl
        have i1 : ∀ k s, dIs false s (tD (some k)) .non = some (.bl false) := fun _ _ => rfl
        have i2 : ∀ k, tD (some k) = .int k := fun _ => rfl
        cases t with
        | none =>
          simp (implicitDefEqProofs := false) only [l1, l2, l3, a2 _ rfl, tw_isl1, fld_gap, i0, ↓w_srtT, ↓w_par2, ↓w_par3, ↓w_setd, ↓w_dict1, ↓w_maxDf, ↓w_slT, ↓w_addT, ↓w_dictT, ↓w_dictI, ↓w_get, ↓w_lrg1T, ↓w_lrg2T, ↓w_lrg1, ↓w_lrg2, ↓w_pop0, ↓w_lcT, ↓w_mth, ↓w_calm, ↓w_tryM, ↓w_tm0, ↓w_tmN, ↓w_tmS, ↓w_seq, ↓w_next, ↓w_break, ↓w_cont, ↓w_retN, ↓w_asg, ↓w_expr, ↓w_ret, ↓w_if, ↓w_asgG, ↓w_for, ↓w_put, ↓w_aug, ↓w_augS, ↓w_raise0, ↓w_raise1, ↓w_raise2, ↓w_try, ↓w_tryAs, ↓w_var, ↓w_c, ↓w_op, ↓w_chain, ↓w_notV, ↓w_andV, ↓w_orV, ↓w_ifE, ↓w_tst, ↓w_not, ↓w_and, ↓w_or, ↓w_yes, ↓w_nil, ↓w_cons, ↓w_tup, ↓w_lst, ↓w_lstT, ↓w_cb, ↓w_call, ↓w_callK, ↓w_neg, ↓w_no, ↓w_pt, ↓w_sl, ↓w_fld, ↓w_src, ↓w_rng, ↓w_enu, ↓w_listT, ↓w_app, ↓w_lc, ↓w_xf, ↓w_fldT, ↓w_make, ↓w_makeL, ↓w_run, ↓w_cut, ↓w_pure, ↓w_drop, nth2_eq, nth3_eq, w_ok, w_ex, w_nx, w_rt, w_bk, w_ct, w_exS, w_some, w_v, w_tr, w_fa, w_tb, w_ti, w_tn, w_L, w_L0, wb_not, cn_f, startD, arr, gN_eq, gTp, gTl, gCn, gNl, Option.bind_some, List.filterMap_cons, List.filterMap_nil, List.map_cons, List.map_nil, List.replicate_succ, List.replicate_zero, List.cons_append, List.nil_append, List.getElem?_cons_zero, List.getElem?_cons_succ, List.set_cons_zero, List.set_cons_succ, List.length_cons, List.length_nil, Nat.reduceAdd, Nat.reduceSub, Nat.reduceLeDiff, Nat.reduceEqDiff, Int.reducePow, Int.reduceToNat, Int.reduceNeg, Int.reduceAdd, Int.reduceMul, Int.reduceSub, Int.reduceLT, Int.reduceLE, Int.reduceEq, Nat.zero_add, Int.zero_add, big_eq, true_and, and_true, and_self, dSub_int, dAdd_int, dAddI_int, dLt_int, dLe_int, dGt_int, dGe_int, dEqD_int, bInt_int, bLen_lst, bLen_tup, bMin_int, bMax_int, bAbs_int, dIs_non, dIs_int, dIs_nn, Bool.not_true, Bool.not_false, decide_true, decide_false, reduceIte, Bool.false_eq_true, if_false, if_true, iSeq_lst, iSeq_tup, iSeq_rdl, iEnu_lst, iEnu_tup]
          exact fin (by unfold kids; rw [hsn]; rfl)
        | some k =>
          simp (implicitDefEqProofs := false) only [l1, l2, l3, a2 _ rfl, tw_isl1, fld_gap, i1, ↓w_srtT, ↓w_par2, ↓w_par3, ↓w_setd, ↓w_dict1, ↓w_maxDf, ↓w_slT, ↓w_addT, ↓w_dictT, ↓w_dictI, ↓w_get, ↓w_lrg1T, ↓w_lrg2T, ↓w_lrg1, ↓w_lrg2, ↓w_pop0, ↓w_lcT, ↓w_mth, ↓w_calm, ↓w_tryM, ↓w_tm0, ↓w_tmN, ↓w_tmS, ↓w_seq, ↓w_next, ↓w_break, ↓w_cont, ↓w_retN, ↓w_asg, ↓w_expr, ↓w_ret, ↓w_if, ↓w_asgG, ↓w_for, ↓w_put, ↓w_aug, ↓w_augS, ↓w_raise0, ↓w_raise1, ↓w_raise2, ↓w_try, ↓w_tryAs, ↓w_var, ↓w_c, ↓w_op, ↓w_chain, ↓w_notV, ↓w_andV, ↓w_orV, ↓w_ifE, ↓w_tst, ↓w_not, ↓w_and, ↓w_or, ↓w_yes, ↓w_nil, ↓w_cons, ↓w_tup, ↓w_lst, ↓w_lstT, ↓w_cb, ↓w_call, ↓w_callK, ↓w_neg, ↓w_no, ↓w_pt, ↓w_sl, ↓w_fld, ↓w_src, ↓w_rng, ↓w_enu, ↓w_listT, ↓w_app, ↓w_lc, ↓w_xf, ↓w_fldT, ↓w_make, ↓w_makeL, ↓w_run, ↓w_cut, ↓w_pure, ↓w_drop, nth2_eq, nth3_eq, w_ok, w_ex, w_nx, w_rt, w_bk, w_ct, w_exS, w_some, w_v, w_tr, w_fa, w_tb, w_ti, w_tn, w_L, w_L0, wb_not, cn_f, startD, arr, gN_eq, gTp, gTl, gCn, gNl, Option.bind_some, List.filterMap_cons, List.filterMap_nil, List.map_cons, List.map_nil, List.replicate_succ, List.replicate_zero, List.cons_append, List.nil_append, List.getElem?_cons_zero, List.getElem?_cons_succ, List.set_cons_zero, List.set_cons_succ, List.length_cons, List.length_nil, Nat.reduceAdd, Nat.reduceSub, Nat.reduceLeDiff, Nat.reduceEqDiff, Int.reducePow, Int.reduceToNat, Int.reduceNeg, Int.reduceAdd, Int.reduceMul, Int.reduceSub, Int.reduceLT, Int.reduceLE, Int.reduceEq, Nat.zero_add, Int.zero_add, big_eq, true_and, and_true, and_self, dSub_int, dAdd_int, dAddI_int, dLt_int, dLe_int, dGt_int, dGe_int, dEqD_int, bInt_int, bLen_lst, bLen_tup, bMin_int, bMax_int, bAbs_int, dIs_non, dIs_int, dIs_nn, Bool.not_true, Bool.not_false, decide_true, decide_false, reduceIte, Bool.false_eq_true, if_false, if_true, iSeq_lst, iSeq_tup, iSeq_rdl, iEnu_lst, iEnu_tup]
          rw [i2]
          simp (implicitDefEqProofs := false) only [↓w_srtT, ↓w_par2, ↓w_par3, ↓w_setd, ↓w_dict1, ↓w_maxDf, ↓w_slT, ↓w_addT, ↓w_dictT, ↓w_dictI, ↓w_get, ↓w_lrg1T, ↓w_lrg2T, ↓w_lrg1, ↓w_lrg2, ↓w_pop0, ↓w_lcT, ↓w_mth, ↓w_calm, ↓w_tryM, ↓w_tm0, ↓w_tmN, ↓w_tmS, ↓w_seq, ↓w_next, ↓w_break, ↓w_cont, ↓w_retN, ↓w_asg, ↓w_expr, ↓w_ret, ↓w_if, ↓w_asgG, ↓w_for, ↓w_put, ↓w_aug, ↓w_augS, ↓w_raise0, ↓w_raise1, ↓w_raise2, ↓w_try, ↓w_tryAs, ↓w_var, ↓w_c, ↓w_op, ↓w_chain, ↓w_notV, ↓w_andV, ↓w_orV, ↓w_ifE, ↓w_tst, ↓w_not, ↓w_and, ↓w_or, ↓w_yes, ↓w_nil, ↓w_cons, ↓w_tup, ↓w_lst, ↓w_lstT, ↓w_cb, ↓w_call, ↓w_callK, ↓w_neg, ↓w_no, ↓w_pt, ↓w_sl, ↓w_fld, ↓w_src, ↓w_rng, ↓w_enu, ↓w_listT, ↓w_app, ↓w_lc, ↓w_xf, ↓w_fldT, ↓w_make, ↓w_makeL, ↓w_run, ↓w_cut, ↓w_pure, ↓w_drop, nth2_eq, nth3_eq, w_ok, w_ex, w_nx, w_rt, w_bk, w_ct, w_exS, w_some, w_v, w_tr, w_fa, w_tb, w_ti, w_tn, w_L, w_L0, wb_not, cn_f, startD, arr, gN_eq, gTp, gTl, gCn, gNl, Option.bind_some, List.filterMap_cons, List.filterMap_nil, List.map_cons, List.map_nil, List.replicate_succ, List.replicate_zero, List.cons_append, List.nil_append, List.getElem?_cons_zero, List.getElem?_cons_succ, List.set_cons_zero, List.set_cons_succ, List.length_cons, List.length_nil, Nat.reduceAdd, Nat.reduceSub, Nat.reduceLeDiff, Nat.reduceEqDiff, Int.reducePow, Int.reduceToNat, Int.reduceNeg, Int.reduceAdd, Int.reduceMul, Int.reduceSub, Int.reduceLT, Int.reduceLE, Int.reduceEq, Nat.zero_add, Int.zero_add, big_eq, true_and, and_true, and_self, dSub_int, dAdd_int, dAddI_int, dLt_int, dLe_int, dGt_int, dGe_int, dEqD_int, bInt_int, bLen_lst, bLen_tup, bMin_int, bMax_int, bAbs_int, dIs_non, dIs_int, dIs_nn, Bool.not_true, Bool.not_false, decide_true, decide_false, reduceIte, Bool.false_eq_true, if_false, if_true, iSeq_lst, iSeq_tup, iSeq_rdl, iEnu_lst, iEnu_tup]
          refine wb_dec (fun h1 => ?_) (fun h1 => ?_)
          · simp (implicitDefEqProofs := false) only [l1, l2, l3, a2 _ rfl, tw_isl1, fld_gap, i1, ↓w_srtT, ↓w_par2, ↓w_par3, ↓w_setd, ↓w_dict1, ↓w_maxDf, ↓w_slT, ↓w_addT, ↓w_dictT, ↓w_dictI, ↓w_get, ↓w_lrg1T, ↓w_lrg2T, ↓w_lrg1, ↓w_lrg2, ↓w_pop0, ↓w_lcT, ↓w_mth, ↓w_calm, ↓w_tryM, ↓w_tm0, ↓w_tmN, ↓w_tmS, ↓w_seq, ↓w_next, ↓w_break, ↓w_cont, ↓w_retN, ↓w_asg, ↓w_expr, ↓w_ret, ↓w_if, ↓w_asgG, ↓w_for, ↓w_put, ↓w_aug, ↓w_augS, ↓w_raise0, ↓w_raise1, ↓w_raise2, ↓w_try, ↓w_tryAs, ↓w_var, ↓w_c, ↓w_op, ↓w_chain, ↓w_notV, ↓w_andV, ↓w_orV, ↓w_ifE, ↓w_tst, ↓w_not, ↓w_and, ↓w_or, ↓w_yes, ↓w_nil, ↓w_cons, ↓w_tup, ↓w_lst, ↓w_lstT, ↓w_cb, ↓w_call, ↓w_callK, ↓w_neg, ↓w_no, ↓w_pt, ↓w_sl, ↓w_fld, ↓w_src, ↓w_rng, ↓w_enu, ↓w_listT, ↓w_app, ↓w_lc, ↓w_xf, ↓w_fldT, ↓w_make, ↓w_makeL, ↓w_run, ↓w_cut, ↓w_pure, ↓w_drop, nth2_eq, nth3_eq, w_ok, w_ex, w_nx, w_rt, w_bk, w_ct, w_exS, w_some, w_v, w_tr, w_fa, w_tb, w_ti, w_tn, w_L, w_L0, wb_not, cn_f, startD, arr, gN_eq, gTp, gTl, gCn, gNl, Option.bind_some, List.filterMap_cons, List.filterMap_nil, List.map_cons, List.map_nil, List.replicate_succ, List.replicate_zero, List.cons_append, List.nil_append, List.getElem?_cons_zero, List.getElem?_cons_succ, List.set_cons_zero, List.set_cons_succ, List.length_cons, List.length_nil, Nat.reduceAdd, Nat.reduceSub, Nat.reduceLeDiff, Nat.reduceEqDiff, Int.reducePow, Int.reduceToNat, Int.reduceNeg, Int.reduceAdd, Int.reduceMul, Int.reduceSub, Int.reduceLT, Int.reduceLE, Int.reduceEq, Nat.zero_add, Int.zero_add, big_eq, true_and, and_true, and_self, dSub_int, dAdd_int, dAddI_int, dLt_int, dLe_int, dGt_int, dGe_int, dEqD_int, bInt_int, bLen_lst, bLen_tup, bMin_int, bMax_int, bAbs_int, dIs_non, dIs_int, dIs_nn, Bool.not_true, Bool.not_false, decide_true, decide_false, reduceIte, Bool.false_eq_true, if_false, if_true, iSeq_lst, iSeq_tup, iSeq_rdl, iEnu_lst, iEnu_tup]
            refine fin ?_
            unfold kids
            rw [hsn, if_pos (by unfold nxt; simp; omega)]
          · simp (implicitDefEqProofs := false) only [↓w_srtT, ↓w_par2, ↓w_par3, ↓w_setd, ↓w_dict1, ↓w_maxDf, ↓w_slT, ↓w_addT, ↓w_dictT, ↓w_dictI, ↓w_get, ↓w_lrg1T, ↓w_lrg2T, ↓w_lrg1, ↓w_lrg2, ↓w_pop0, ↓w_lcT, ↓w_mth, ↓w_calm, ↓w_tryM, ↓w_tm0, ↓w_tmN, ↓w_tmS, ↓w_seq, ↓w_next, ↓w_break, ↓w_cont, ↓w_retN, ↓w_asg, ↓w_expr, ↓w_ret, ↓w_if, ↓w_asgG, ↓w_for, ↓w_put, ↓w_aug, ↓w_augS, ↓w_raise0, ↓w_raise1, ↓w_raise2, ↓w_try, ↓w_tryAs, ↓w_var, ↓w_c, ↓w_op, ↓w_chain, ↓w_notV, ↓w_andV, ↓w_orV, ↓w_ifE, ↓w_tst, ↓w_not, ↓w_and, ↓w_or, ↓w_yes, ↓w_nil, ↓w_cons, ↓w_tup, ↓w_lst, ↓w_lstT, ↓w_cb, ↓w_call, ↓w_callK, ↓w_neg, ↓w_no, ↓w_pt, ↓w_sl, ↓w_fld, ↓w_src, ↓w_rng, ↓w_enu, ↓w_listT, ↓w_app, ↓w_lc, ↓w_xf, ↓w_fldT, ↓w_make, ↓w_makeL, ↓w_run, ↓w_cut, ↓w_pure, ↓w_drop, nth2_eq, nth3_eq, w_ok, w_ex, w_nx, w_rt, w_bk, w_ct, w_exS, w_some, w_v, w_tr, w_fa, w_tb, w_ti, w_tn, w_L, w_L0, wb_not, cn_f, startD, arr, gN_eq, gTp, gTl, gCn, gNl, Option.bind_some, List.filterMap_cons, List.filterMap_nil, List.map_cons, List.map_nil, List.replicate_succ, List.replicate_zero, List.cons_append, List.nil_append, List.getElem?_cons_zero, List.getElem?_cons_succ, List.set_cons_zero, List.set_cons_succ, List.length_cons, List.length_nil, Nat.reduceAdd, Nat.reduceSub, Nat.reduceLeDiff, Nat.reduceEqDiff, Int.reducePow, Int.reduceToNat, Int.reduceNeg, Int.reduceAdd, Int.reduceMul, Int.reduceSub, Int.reduceLT, Int.reduceLE, Int.reduceEq, Nat.zero_add, Int.zero_add, big_eq, true_and, and_true, and_self, dSub_int, dAdd_int, dAddI_int, dLt_int, dLe_int, dGt_int, dGe_int, dEqD_int, bInt_int, bLen_lst, bLen_tup, bMin_int, bMax_int, bAbs_int, dIs_non, dIs_int, dIs_nn, Bool.not_true, Bool.not_false, decide_true, decide_false, reduceIte, Bool.false_eq_true, if_false, if_true, iSeq_lst, iSeq_tup, iSeq_rdl, iEnu_lst, iEnu_tup]
            refine fin ?_
            unfold kids
            rw [hsn, if_neg (by unfold nxt; simp; omega)]
      · exact absurd h0 (by simp)
def nmP (y : NP) : D := nmD y.1 y.2
theorem nm_ex (hM : M.Ok) (ht : OkT t) (hr : OkR rs) {x : Int} (x0 : 0 ≤ x) (x1 : x < 1000000000000000000000000000000) (h : x + 1 ≤ FRs M t (hor M t) rs) : ∃ z : NP, NmAt M t rs x z.1 z.2 := by
  obtain ⟨r, ns, h1, _⟩ := nameat_ok (c := ⟨0, 0, 0, 0, 0, 0, 0, 0, 0, 0, 0, 0, 0, 0, 0, 0, []⟩) hM ht hr (.inl rfl) x0 x1 h []
  exact ⟨(r, ns), h1⟩
/-- the i-th name of those in order -/
theorem place_i (hM : M.Ok) (ht : OkT t) (hr : OkR rs) {i : Nat} (hi : i ≤ 199) {Y W : List NP} (h : St M t rs i Y W) (hY : ∀ (k : Nat) (hk : k < Y.length), NmAt M t rs k Y[k].1 Y[k].2) {m : NP} (hm : m ∈ W) (hl : ∀ w ∈ W, PP M t rs m ≤ PP M t rs w) :
    (TmN M rs m ≤ hor M t → NmAt M t rs i m.1 m.2) ∧ (hor M t < TmN M rs m → FRs M t (hor M t) rs ≤ i) := by
  obtain ⟨hv, hlt⟩ := h.hw m hm
  have hin : ∀ z : NP, NmAt M t rs i z.1 z.2 → Vn M t rs z ∧ z ∉ Y := fun z hz => by
    refine ⟨Pg.OkN.vn hz.ok, fun hy => ?_⟩
    obtain ⟨k, hk, e⟩ := List.getElem_of_mem hy
    have h1 := (hY k hk).pl
    rw [e, hz.pl] at h1
    have := h.ly
    omega
  constructor
  · intro hT
    refine ⟨⟨hv.r, by have := (h.sm m hm).1; omega, fun n hn => ?_⟩, hT, ?_⟩
    · have h1 := (h.sm m hm).2 n hn
      have h2 := hv.b n hn
      unfold lastN
      cases t with
      | none => simp; omega
      | some k =>
        have := h2 k rfl
        simp
        omega
    · have hge : (i : Int) ≤ PP M t rs m := by
        match i, h, hY with
        | 0, h, hY => exact PL_nonneg hM ..
        | i + 1, h, hY =>
          have hk : i < Y.length := by rw [h.ly]; omega
          have h1 := (hY i hk).pl
          have h2 := hlt _ (List.getElem_mem hk)
          unfold PP at h2 ⊢
          omega
      rcases Int.lt_or_eq_of_le hge with h3 | h3
      · have h4 := PL_lt hM ht hr.mem hv
        have h5 : FRs M t (TM M rs m.1 m.2) rs ≤ FRs M t (hor M t) rs := FRs_mono hM hT rs
        unfold PP at h3
        obtain ⟨z, hz⟩ := nm_ex hM ht hr (x := i) (by omega) (by omega) (by omega)
        obtain ⟨h6, h7⟩ := hin z hz
        have h8 := h.least hM ht hr hl h6 h7
        have h9 := hz.pl
        unfold PP at h8
        omega
      · exact h3.symm
  · intro hT
    rcases Int.lt_or_le (i : Int) (FRs M t (hor M t) rs) with h3 | h3
    · obtain ⟨z, hz⟩ := nm_ex hM ht hr (x := i) (by omega) (by omega) (by omega)
      obtain ⟨h6, h7⟩ := hin z hz
      have h8 := h.least hM ht hr hl h6 h7
      have h9 := pp_tm hM ht hr hv h6 h8
      have := hz.hor
      unfold TmN at h9 hT
      omega
    · exact h3
theorem first_wp (hM : M.Ok) (ht : OkT t) (hr : OkR rs) {rd : D} (hd : RtD rs rd) {n : Nat} (n0 : 1 ≤ n) (n1 : n ≤ 100) (s : S) : @WR _ (G_first_names c [M.d c, .int n, tD t, rd] s) ⟨fun d s' => s' = s ∧ ∃ Y : List NP, Y.length = n ∧ (∀ (k : Nat) (hk : k < Y.length), NmAt M t rs k Y[k].1 Y[k].2) ∧ d = .lst (Y.map nmP)⟩ ⟨fun C fs vs s' => C = c.LimitExceeded ∧ fs = (["limit"] : List Str) ∧ vs = [.str "time"] ∧ s' = s ∧ FRs M t (hor M t) rs < n⟩ := by
  unfold G_first_names
  simp (implicitDefEqProofs := false) only [turns_ok ht, roots_run hr rd hd, count_ok (show (1 : Int) ≤ n by omega) (show (n : Int) ≤ 100 by omega), ↓w_forG, ↓w_srtT, ↓w_par2, ↓w_par3, ↓w_setd, ↓w_dict1, ↓w_maxDf, ↓w_slT, ↓w_addT, ↓w_dictT, ↓w_dictI, ↓w_get, ↓w_lrg1T, ↓w_lrg2T, ↓w_lrg1, ↓w_lrg2, ↓w_pop0, ↓w_lcT, ↓w_mth, ↓w_calm, ↓w_tryM, ↓w_tm0, ↓w_tmN, ↓w_tmS, ↓w_seq, ↓w_next, ↓w_break, ↓w_cont, ↓w_retN, ↓w_asg, ↓w_expr, ↓w_ret, ↓w_if, ↓w_asgG, ↓w_for, ↓w_put, ↓w_aug, ↓w_augS, ↓w_raise0, ↓w_raise1, ↓w_raise2, ↓w_try, ↓w_tryAs, ↓w_var, ↓w_c, ↓w_op, ↓w_chain, ↓w_notV, ↓w_andV, ↓w_orV, ↓w_ifE, ↓w_tst, ↓w_not, ↓w_and, ↓w_or, ↓w_yes, ↓w_nil, ↓w_cons, ↓w_tup, ↓w_lst, ↓w_lstT, ↓w_cb, ↓w_call, ↓w_callK, ↓w_neg, ↓w_no, ↓w_pt, ↓w_sl, ↓w_fld, ↓w_src, ↓w_rng, ↓w_enu, ↓w_listT, ↓w_app, ↓w_lc, ↓w_xf, ↓w_fldT, ↓w_make, ↓w_makeL, ↓w_run, ↓w_cut, ↓w_pure, ↓w_drop, nth2_eq, nth3_eq, w_ok, w_ex, w_nx, w_rt, w_bk, w_ct, w_exS, w_some, w_v, w_tr, w_fa, w_tb, w_ti, w_tn, w_L, w_L0, wb_not, cn_f, startD, arr, gN_eq, gTp, gTl, gCn, gNl, Option.bind_some, List.filterMap_cons, List.filterMap_nil, List.map_cons, List.map_nil, List.replicate_succ, List.replicate_zero, List.cons_append, List.nil_append, List.getElem?_cons_zero, List.getElem?_cons_succ, List.set_cons_zero, List.set_cons_succ, List.length_cons, List.length_nil, Nat.reduceAdd, Nat.reduceSub, Nat.reduceLeDiff, Nat.reduceEqDiff, Int.reducePow, Int.reduceToNat, Int.reduceNeg, Int.reduceAdd, Int.reduceMul, Int.reduceSub, Int.reduceLT, Int.reduceLE, Int.reduceEq, Nat.zero_add, Int.zero_add, big_eq, true_and, and_true, and_self, dSub_int, dAdd_int, dAddI_int, dLt_int, dLe_int, dGt_int, dGe_int, dEqD_int, bInt_int, bLen_lst, bLen_tup, bMin_int, bMax_int, bAbs_int, dIs_non, dIs_int, dIs_nn, Bool.not_true, Bool.not_false, decide_true, decide_false, reduceIte, Bool.false_eq_true, if_false, if_true, iSeq_lst, iSeq_tup, iSeq_rdl, iEnu_lst, iEnu_tup]
  refine ws_gen n (fun i ph Lg L s' => ∃ (Y W : List NP) (y6 y7 y8 : Option D), St M t rs i Y W ∧ (∀ (k : Nat) (hk : k < Y.length), NmAt M t rs k Y[k].1 Y[k].2) ∧ i < n ∧ InSt c M t rs s (.lst (Y.map nmP)) ph Lg s' W ∧ L = [some (M.d c), some (.int n), some (tD t), some rd, some (.lst (rs.map D.int)), some (.ref s.length), y6, y7, y8]) ?_ ?_ 1001 0 ⟨[], rts rs, none, none, none, St.zero hM hr, fun k hk => absurd hk (Nat.not_lt_zero _), n0, .new rfl rfl rfl rfl, rfl⟩ (by omega) (by omega)
  · rintro i ph Lg L s' hi ⟨Y, W, y6, y7, y8, hS, hY, hin, hI, rfl⟩
    obtain ⟨j, hj, hmin, z5, z6, z7, e⟩ := io_step hM ht hr hS (by omega) hI
    obtain ⟨p1, p2⟩ := place_i hM ht hr (by omega) hS hY (List.getElem_mem hj) hmin
    have hst := hS.step hM ht hr hj hmin
    have hlm := (hS.sm _ (List.getElem_mem hj)).1
    have hle : (W.eraseIdx j).length ≤ 300 := by
      have := hS.lw
      have := hr.l1
      rw [List.length_eraseIdx, if_pos hj]
      omega
    have hly := hS.ly
    generalize em : W[j] = m at *
    generalize W.eraseIdx j = W1 at *
    refine ⟨_, _, _, _, [some (M.d c), some (.int n), some (tD t), some rd, some (.lst (rs.map D.int)), some (.ref s.length), some (.int (TmN M rs m)), some (.int m.2.length), some (nmD m.1 m.2)], e, rfl, ?_⟩
    simp (implicitDefEqProofs := false) only [horizon_ok hM, ↓w_srtT, ↓w_par2, ↓w_par3, ↓w_setd, ↓w_dict1, ↓w_maxDf, ↓w_slT, ↓w_addT, ↓w_dictT, ↓w_dictI, ↓w_get, ↓w_lrg1T, ↓w_lrg2T, ↓w_lrg1, ↓w_lrg2, ↓w_pop0, ↓w_lcT, ↓w_mth, ↓w_calm, ↓w_tryM, ↓w_tm0, ↓w_tmN, ↓w_tmS, ↓w_seq, ↓w_next, ↓w_break, ↓w_cont, ↓w_retN, ↓w_asg, ↓w_expr, ↓w_ret, ↓w_if, ↓w_asgG, ↓w_for, ↓w_put, ↓w_aug, ↓w_augS, ↓w_raise0, ↓w_raise1, ↓w_raise2, ↓w_try, ↓w_tryAs, ↓w_var, ↓w_c, ↓w_op, ↓w_chain, ↓w_notV, ↓w_andV, ↓w_orV, ↓w_ifE, ↓w_tst, ↓w_not, ↓w_and, ↓w_or, ↓w_yes, ↓w_nil, ↓w_cons, ↓w_tup, ↓w_lst, ↓w_lstT, ↓w_cb, ↓w_call, ↓w_callK, ↓w_neg, ↓w_no, ↓w_pt, ↓w_sl, ↓w_fld, ↓w_src, ↓w_rng, ↓w_enu, ↓w_listT, ↓w_app, ↓w_lc, ↓w_xf, ↓w_fldT, ↓w_make, ↓w_makeL, ↓w_run, ↓w_cut, ↓w_pure, ↓w_drop, nth2_eq, nth3_eq, w_ok, w_ex, w_nx, w_rt, w_bk, w_ct, w_exS, w_some, w_v, w_tr, w_fa, w_tb, w_ti, w_tn, w_L, w_L0, wb_not, cn_f, startD, arr, gN_eq, gTp, gTl, gCn, gNl, Option.bind_some, List.filterMap_cons, List.filterMap_nil, List.map_cons, List.map_nil, List.replicate_succ, List.replicate_zero, List.cons_append, List.nil_append, List.getElem?_cons_zero, List.getElem?_cons_succ, List.set_cons_zero, List.set_cons_succ, List.length_cons, List.length_nil, Nat.reduceAdd, Nat.reduceSub, Nat.reduceLeDiff, Nat.reduceEqDiff, Int.reducePow, Int.reduceToNat, Int.reduceNeg, Int.reduceAdd, Int.reduceMul, Int.reduceSub, Int.reduceLT, Int.reduceLE, Int.reduceEq, Nat.zero_add, Int.zero_add, big_eq, true_and, and_true, and_self, dSub_int, dAdd_int, dAddI_int, dLt_int, dLe_int, dGt_int, dGe_int, dEqD_int, bInt_int, bLen_lst, bLen_tup, bMin_int, bMax_int, bAbs_int, dIs_non, dIs_int, dIs_nn, Bool.not_true, Bool.not_false, decide_true, decide_false, reduceIte, Bool.false_eq_true, if_false, if_true, iSeq_lst, iSeq_tup, iSeq_rdl, iEnu_lst, iEnu_tup]
    refine wb_dec (fun h1 => ?_) (fun h1 => ?_)
    · simp (implicitDefEqProofs := false) only [↓w_srtT, ↓w_par2, ↓w_par3, ↓w_setd, ↓w_dict1, ↓w_maxDf, ↓w_slT, ↓w_addT, ↓w_dictT, ↓w_dictI, ↓w_get, ↓w_lrg1T, ↓w_lrg2T, ↓w_lrg1, ↓w_lrg2, ↓w_pop0, ↓w_lcT, ↓w_mth, ↓w_calm, ↓w_tryM, ↓w_tm0, ↓w_tmN, ↓w_tmS, ↓w_seq, ↓w_next, ↓w_break, ↓w_cont, ↓w_retN, ↓w_asg, ↓w_expr, ↓w_ret, ↓w_if, ↓w_asgG, ↓w_for, ↓w_put, ↓w_aug, ↓w_augS, ↓w_raise0, ↓w_raise1, ↓w_raise2, ↓w_try, ↓w_tryAs, ↓w_var, ↓w_c, ↓w_op, ↓w_chain, ↓w_notV, ↓w_andV, ↓w_orV, ↓w_ifE, ↓w_tst, ↓w_not, ↓w_and, ↓w_or, ↓w_yes, ↓w_nil, ↓w_cons, ↓w_tup, ↓w_lst, ↓w_lstT, ↓w_cb, ↓w_call, ↓w_callK, ↓w_neg, ↓w_no, ↓w_pt, ↓w_sl, ↓w_fld, ↓w_src, ↓w_rng, ↓w_enu, ↓w_listT, ↓w_app, ↓w_lc, ↓w_xf, ↓w_fldT, ↓w_make, ↓w_makeL, ↓w_run, ↓w_cut, ↓w_pure, ↓w_drop, nth2_eq, nth3_eq, w_ok, w_ex, w_nx, w_rt, w_bk, w_ct, w_exS, w_some, w_v, w_tr, w_fa, w_tb, w_ti, w_tn, w_L, w_L0, wb_not, cn_f, startD, arr, gN_eq, gTp, gTl, gCn, gNl, Option.bind_some, List.filterMap_cons, List.filterMap_nil, List.map_cons, List.map_nil, List.replicate_succ, List.replicate_zero, List.cons_append, List.nil_append, List.getElem?_cons_zero, List.getElem?_cons_succ, List.set_cons_zero, List.set_cons_succ, List.length_cons, List.length_nil, Nat.reduceAdd, Nat.reduceSub, Nat.reduceLeDiff, Nat.reduceEqDiff, Int.reducePow, Int.reduceToNat, Int.reduceNeg, Int.reduceAdd, Int.reduceMul, Int.reduceSub, Int.reduceLT, Int.reduceLE, Int.reduceEq, Nat.zero_add, Int.zero_add, big_eq, true_and, and_true, and_self, dSub_int, dAdd_int, dAddI_int, dLt_int, dLe_int, dGt_int, dGe_int, dEqD_int, bInt_int, bLen_lst, bLen_tup, bMin_int, bMax_int, bAbs_int, dIs_non, dIs_int, dIs_nn, Bool.not_true, Bool.not_false, decide_true, decide_false, reduceIte, Bool.false_eq_true, if_false, if_true, iSeq_lst, iSeq_tup, iSeq_rdl, iEnu_lst, iEnu_tup]
      refine ⟨⟨by simp, rfl⟩, ?_⟩
      have := p2 h1
      omega
    · have hY' : ∀ (k : Nat) (hk : k < (Y ++ [m]).length), NmAt M t rs k (Y ++ [m])[k].1 (Y ++ [m])[k].2 := fun k hk => by
        rw [List.length_append, List.length_singleton] at hk
        rcases Nat.lt_or_ge k Y.length with h2 | h2
        · rw [List.getElem_append_left h2]
          exact hY k h2
        · have h3 : k = i := by omega
          subst h3
          rw [List.getElem_append_right h2]
          simp only [hly, Nat.sub_self, List.getElem_cons_zero]
          exact p1 (by omega)
      have a1 : appOf s.length (nmD m.1 m.2) (s ++ [.lst (Y.map nmP), .lst (W1.map (kD M rs))]) = some (s ++ [.lst ((Y ++ [m]).map nmP), .lst (W1.map (kD M rs))]) := by
        rw [tw_app0 _ (by rw [List.length_map]; omega), List.map_append]
        rfl
      have a2 : bLen (s ++ [.lst ((Y ++ [m]).map nmP), .lst (W1.map (kD M rs))]) [.ref s.length] = some (.int ((i : Int) + 1)) := by
        rw [tw_len0, List.length_map, List.length_append, hly]
        rfl
      simp (implicitDefEqProofs := false) only [tw_isl0, a1, a2, ↓w_srtT, ↓w_par2, ↓w_par3, ↓w_setd, ↓w_dict1, ↓w_maxDf, ↓w_slT, ↓w_addT, ↓w_dictT, ↓w_dictI, ↓w_get, ↓w_lrg1T, ↓w_lrg2T, ↓w_lrg1, ↓w_lrg2, ↓w_pop0, ↓w_lcT, ↓w_mth, ↓w_calm, ↓w_tryM, ↓w_tm0, ↓w_tmN, ↓w_tmS, ↓w_seq, ↓w_next, ↓w_break, ↓w_cont, ↓w_retN, ↓w_asg, ↓w_expr, ↓w_ret, ↓w_if, ↓w_asgG, ↓w_for, ↓w_put, ↓w_aug, ↓w_augS, ↓w_raise0, ↓w_raise1, ↓w_raise2, ↓w_try, ↓w_tryAs, ↓w_var, ↓w_c, ↓w_op, ↓w_chain, ↓w_notV, ↓w_andV, ↓w_orV, ↓w_ifE, ↓w_tst, ↓w_not, ↓w_and, ↓w_or, ↓w_yes, ↓w_nil, ↓w_cons, ↓w_tup, ↓w_lst, ↓w_lstT, ↓w_cb, ↓w_call, ↓w_callK, ↓w_neg, ↓w_no, ↓w_pt, ↓w_sl, ↓w_fld, ↓w_src, ↓w_rng, ↓w_enu, ↓w_listT, ↓w_app, ↓w_lc, ↓w_xf, ↓w_fldT, ↓w_make, ↓w_makeL, ↓w_run, ↓w_cut, ↓w_pure, ↓w_drop, nth2_eq, nth3_eq, w_ok, w_ex, w_nx, w_rt, w_bk, w_ct, w_exS, w_some, w_v, w_tr, w_fa, w_tb, w_ti, w_tn, w_L, w_L0, wb_not, cn_f, startD, arr, gN_eq, gTp, gTl, gCn, gNl, Option.bind_some, List.filterMap_cons, List.filterMap_nil, List.map_cons, List.map_nil, List.replicate_succ, List.replicate_zero, List.cons_append, List.nil_append, List.getElem?_cons_zero, List.getElem?_cons_succ, List.set_cons_zero, List.set_cons_succ, List.length_cons, List.length_nil, Nat.reduceAdd, Nat.reduceSub, Nat.reduceLeDiff, Nat.reduceEqDiff, Int.reducePow, Int.reduceToNat, Int.reduceNeg, Int.reduceAdd, Int.reduceMul, Int.reduceSub, Int.reduceLT, Int.reduceLE, Int.reduceEq, Nat.zero_add, Int.zero_add, big_eq, true_and, and_true, and_self, dSub_int, dAdd_int, dAddI_int, dLt_int, dLe_int, dGt_int, dGe_int, dEqD_int, bInt_int, bLen_lst, bLen_tup, bMin_int, bMax_int, bAbs_int, dIs_non, dIs_int, dIs_nn, Bool.not_true, Bool.not_false, decide_true, decide_false, reduceIte, Bool.false_eq_true, if_false, if_true, iSeq_lst, iSeq_tup, iSeq_rdl, iEnu_lst, iEnu_tup]
      refine wb_dec (fun h2 => ?_) (fun h2 => ?_)
      · simp (implicitDefEqProofs := false) only [↓w_srtT, ↓w_par2, ↓w_par3, ↓w_setd, ↓w_dict1, ↓w_maxDf, ↓w_slT, ↓w_addT, ↓w_dictT, ↓w_dictI, ↓w_get, ↓w_lrg1T, ↓w_lrg2T, ↓w_lrg1, ↓w_lrg2, ↓w_pop0, ↓w_lcT, ↓w_mth, ↓w_calm, ↓w_tryM, ↓w_tm0, ↓w_tmN, ↓w_tmS, ↓w_seq, ↓w_next, ↓w_break, ↓w_cont, ↓w_retN, ↓w_asg, ↓w_expr, ↓w_ret, ↓w_if, ↓w_asgG, ↓w_for, ↓w_put, ↓w_aug, ↓w_augS, ↓w_raise0, ↓w_raise1, ↓w_raise2, ↓w_try, ↓w_tryAs, ↓w_var, ↓w_c, ↓w_op, ↓w_chain, ↓w_notV, ↓w_andV, ↓w_orV, ↓w_ifE, ↓w_tst, ↓w_not, ↓w_and, ↓w_or, ↓w_yes, ↓w_nil, ↓w_cons, ↓w_tup, ↓w_lst, ↓w_lstT, ↓w_cb, ↓w_call, ↓w_callK, ↓w_neg, ↓w_no, ↓w_pt, ↓w_sl, ↓w_fld, ↓w_src, ↓w_rng, ↓w_enu, ↓w_listT, ↓w_app, ↓w_lc, ↓w_xf, ↓w_fldT, ↓w_make, ↓w_makeL, ↓w_run, ↓w_cut, ↓w_pure, ↓w_drop, nth2_eq, nth3_eq, w_ok, w_ex, w_nx, w_rt, w_bk, w_ct, w_exS, w_some, w_v, w_tr, w_fa, w_tb, w_ti, w_tn, w_L, w_L0, wb_not, cn_f, startD, arr, gN_eq, gTp, gTl, gCn, gNl, Option.bind_some, List.filterMap_cons, List.filterMap_nil, List.map_cons, List.map_nil, List.replicate_succ, List.replicate_zero, List.cons_append, List.nil_append, List.getElem?_cons_zero, List.getElem?_cons_succ, List.set_cons_zero, List.set_cons_succ, List.length_cons, List.length_nil, Nat.reduceAdd, Nat.reduceSub, Nat.reduceLeDiff, Nat.reduceEqDiff, Int.reducePow, Int.reduceToNat, Int.reduceNeg, Int.reduceAdd, Int.reduceMul, Int.reduceSub, Int.reduceLT, Int.reduceLE, Int.reduceEq, Nat.zero_add, Int.zero_add, big_eq, true_and, and_true, and_self, dSub_int, dAdd_int, dAddI_int, dLt_int, dLe_int, dGt_int, dGe_int, dEqD_int, bInt_int, bLen_lst, bLen_tup, bMin_int, bMax_int, bAbs_int, dIs_non, dIs_int, dIs_nn, Bool.not_true, Bool.not_false, decide_true, decide_false, reduceIte, Bool.false_eq_true, if_false, if_true, iSeq_lst, iSeq_tup, iSeq_rdl, iEnu_lst, iEnu_tup]
        refine ⟨by simp, ?_⟩
        have hp : ∀ x ∈ (Y ++ [m]).map nmP, Pur x := fun x hx => by
          obtain ⟨y, _, rfl⟩ := List.mem_map.mp hx
          unfold nmP nmD
          exact pur_tup fun z hz => by
            rcases List.mem_cons.mp hz with e | hz
            · rw [e]
              exact pur_int _
            · obtain ⟨q, _, rfl⟩ := List.mem_map.mp hz
              exact pur_int _
        rw [fin2_ref (Nat.le_refl _) tw_get0 hp]
        exact ⟨by simp, Y ++ [m], by rw [List.length_append, List.length_singleton]; omega, hY', rfl⟩
      · simp (implicitDefEqProofs := false) only [↓w_srtT, ↓w_par2, ↓w_par3, ↓w_setd, ↓w_dict1, ↓w_maxDf, ↓w_slT, ↓w_addT, ↓w_dictT, ↓w_dictI, ↓w_get, ↓w_lrg1T, ↓w_lrg2T, ↓w_lrg1, ↓w_lrg2, ↓w_pop0, ↓w_lcT, ↓w_mth, ↓w_calm, ↓w_tryM, ↓w_tm0, ↓w_tmN, ↓w_tmS, ↓w_seq, ↓w_next, ↓w_break, ↓w_cont, ↓w_retN, ↓w_asg, ↓w_expr, ↓w_ret, ↓w_if, ↓w_asgG, ↓w_for, ↓w_put, ↓w_aug, ↓w_augS, ↓w_raise0, ↓w_raise1, ↓w_raise2, ↓w_try, ↓w_tryAs, ↓w_var, ↓w_c, ↓w_op, ↓w_chain, ↓w_notV, ↓w_andV, ↓w_orV, ↓w_ifE, ↓w_tst, ↓w_not, ↓w_and, ↓w_or, ↓w_yes, ↓w_nil, ↓w_cons, ↓w_tup, ↓w_lst, ↓w_lstT, ↓w_cb, ↓w_call, ↓w_callK, ↓w_neg, ↓w_no, ↓w_pt, ↓w_sl, ↓w_fld, ↓w_src, ↓w_rng, ↓w_enu, ↓w_listT, ↓w_app, ↓w_lc, ↓w_xf, ↓w_fldT, ↓w_make, ↓w_makeL, ↓w_run, ↓w_cut, ↓w_pure, ↓w_drop, nth2_eq, nth3_eq, w_ok, w_ex, w_nx, w_rt, w_bk, w_ct, w_exS, w_some, w_v, w_tr, w_fa, w_tb, w_ti, w_tn, w_L, w_L0, wb_not, cn_f, startD, arr, gN_eq, gTp, gTl, gCn, gNl, Option.bind_some, List.filterMap_cons, List.filterMap_nil, List.map_cons, List.map_nil, List.replicate_succ, List.replicate_zero, List.cons_append, List.nil_append, List.getElem?_cons_zero, List.getElem?_cons_succ, List.set_cons_zero, List.set_cons_succ, List.length_cons, List.length_nil, Nat.reduceAdd, Nat.reduceSub, Nat.reduceLeDiff, Nat.reduceEqDiff, Int.reducePow, Int.reduceToNat, Int.reduceNeg, Int.reduceAdd, Int.reduceMul, Int.reduceSub, Int.reduceLT, Int.reduceLE, Int.reduceEq, Nat.zero_add, Int.zero_add, big_eq, true_and, and_true, and_self, dSub_int, dAdd_int, dAddI_int, dLt_int, dLe_int, dGt_int, dGe_int, dEqD_int, bInt_int, bLen_lst, bLen_tup, bMin_int, bMax_int, bAbs_int, dIs_non, dIs_int, dIs_nn, Bool.not_true, Bool.not_false, decide_true, decide_false, reduceIte, Bool.false_eq_true, if_false, if_true, iSeq_lst, iSeq_tup, iSeq_rdl, iEnu_lst, iEnu_tup]
        exact ⟨Y ++ [m], W1 ++ kids t m, _, _, _, hst, hY', by omega, .old W1 m _ _ _ rfl rfl rfl rfl (by omega) hle, rfl⟩
  · rintro ph Lg L s' ⟨_, _, _, _, _, _, _, h, _⟩
    omega
/-- the first n names -/
theorem names_ok (hM : M.Ok) (ht : OkT t) (hr : OkR rs) {rd : D} (hd : RtD rs rd) {n : Nat} (n0 : 1 ≤ n) (n1 : n ≤ 100) (h : (n : Int) ≤ FRs M t (hor M t) rs) (s : S) : ∃ Y : List NP, Y.length = n ∧ (∀ (k : Nat) (hk : k < Y.length), NmAt M t rs k Y[k].1 Y[k].2) ∧ G_first_names c [M.d c, .int n, tD t, rd] s = .ok (.lst (Y.map nmP)) s := by
  have hw := first_wp (c := c) hM ht hr hd n0 n1 s
  revert hw
  cases G_first_names c [M.d c, .int n, tD t, rd] s with
  | ok d s' =>
    rintro ⟨rfl, Y, h1, h2, rfl⟩
    exact ⟨Y, h1, h2, rfl⟩
  | ex C fs vs s' =>
    rintro ⟨_, _, _, _, h2⟩
    omega
  | bad => exact fun h => h.elim
end Pg

/-! plans and gathers drawn row by row, and hands under new names -/
namespace Pg
open PySem L2 SI Mt
variable {M : Mc}
/-- hands under new names -/
structure Rel (n : Nat) (f : Int → Int) : Prop where
  rg : ∀ x : Int, 0 ≤ x → x < n → 0 ≤ f x ∧ f x < n
  inj : ∀ x y : Int, 0 ≤ x → x < n → 0 ≤ y → y < n → f x = f y → x = y
  sur : ∀ h : Int, 0 ≤ h → h < n → ∃ x : Int, 0 ≤ x ∧ x < n ∧ f x = h
  z0 : f 0 = 0
variable {l g : Int} {n : Nat} {zs : List Rw} {f : Int → Int}
theorem Rel.pos (r : Rel n f) {x : Int} (h0 : 0 < x) (h1 : x < n) : 0 < f x := by
  have a := r.rg x (by omega) h1
  have : f x ≠ 0 := fun e => by
    have := r.inj x 0 (by omega) h1 (by omega) (by omega) (by rw [e, r.z0])
    omega
  omega
/-! a gather in the making: the places from k on have sent -/
def at0 (xs : List Int) (i : Nat) : Int := xs.getD i 0
structure GaI (M : Mc) (n k b : Nat) (rd fr : List Int) (zs : List Rw) : Prop where
  lr : rd.length = n
  lf : fr.length = n
  lz : zs.length = b
  sm : ∀ h : Int, h ∈ sds zs ↔ (k : Int) ≤ h ∧ h < n
  nd : (sds zs).Nodup
  row : ∀ z ∈ zs, 0 ≤ z.2.1 ∧ z.2.1 < z.1 ∧ (k : Int) ≤ z.1 ∧ z.1 < n ∧ 0 ≤ z.2.2 ∧ z.2.2 ≤ b * stp M ∧ z.2.2 + M.letter ≤ at0 rd z.2.1.toNat ∧ z.2.2 + M.gap ≤ at0 fr z.2.1.toNat
  ear : ∀ z ∈ zs, ∀ y ∈ zs, y.2.1 = z.1 → y.2.2 + M.letter ≤ z.2.2
  gap : Gp M.gap zs fun a => a.2.1
  bd : ∀ j, 0 ≤ at0 rd j ∧ at0 rd j ≤ b * stp M ∧ 0 ≤ at0 fr j ∧ at0 fr j ≤ b * stp M
/-! a plan in the making: the places below k know -/
structure PnI (M : Mc) (k b : Nat) (kn fr : List Int) (zs : List Rw) : Prop where
  lr : kn.length = k
  lf : fr.length = k
  lz : zs.length = b
  rm : ∀ h : Int, h ∈ rcs zs ↔ 0 < h ∧ h < k
  nd : (rcs zs).Nodup
  row : ∀ z ∈ zs, 0 ≤ z.1 ∧ z.1 < z.2.1 ∧ z.2.1 < k ∧ 0 ≤ z.2.2 ∧ z.2.2 ≤ b * stp M ∧ z.2.2 + M.letter ≤ at0 kn z.2.1.toNat ∧ z.2.2 + M.gap ≤ at0 fr z.1.toNat
  ear : ∀ z ∈ zs, ∀ y ∈ zs, y.2.1 = z.1 → y.2.2 + M.letter ≤ z.2.2
  gap : Gp M.gap zs fun a => a.1
  bd : ∀ j, 0 ≤ at0 kn j ∧ at0 kn j ≤ b * stp M ∧ 0 ≤ at0 fr j ∧ at0 fr j ≤ b * stp M
end Pg

/-! the plans that the laws draw: the walk -/
namespace Pg
open PySem L2 SI Mt
variable {c : Cl} {M : Mc}
theorem rwT_pur (z : Rw) : Pur (rwT z) := pur_tup fun y hy => by
  simp only [List.mem_cons, List.not_mem_nil, or_false] at hy
  rcases hy with rfl | rfl | rfl <;> exact fun _ => rfl
variable {v : SrcV} {k : Nat} {r : S} {Q : Cn (D → S → Prop)} {E : Cn (Addr → List Str → List D → S → Prop)}
end Pg

/-! what a drawn plan tells -/
namespace Pg
open PySem L2 SI Mt
variable {c : Cl} {M : Mc} {t : Option Nat}
theorem MinT.le (hM : M.Ok) {n x y : Int} (h : MinT M t n x) (hy : n ≤ FR M t y) : x ≤ y := by
  by_cases hxy : x ≤ y
  · exact hxy
  · have := FR_mono (t := t) hM (show y ≤ x - 1 by omega)
    have := h.1
    omega
end Pg

/-! gather_fault, checked_gather, gather_ends, turned -/
namespace Pg
open PySem L2 SI Mt
variable {c : Cl} {M : Mc}
section
variable {n : Int} {zs : List Rw} {s : S} {sq : D} {rr : Option (Nat × List D)}
end
end Pg

/-! draws of the laws from k40 on -/
namespace SI
open PySem L2 Pg
section
variable {v : SrcV} {n : Nat} {lim : Int} {r : S} {Q : Cn (D → S → Prop)} {E : Cn (Addr → List Str → List D → S → Prop)}
end
end SI

/-! a law's _law_shuffled -/
namespace Pg
open PySem L2 SI Mt
theorem bel_pur {n : Nat} {s : S} (h : ∀ o ∈ s, PurO o) : s.all (O.bel n) = true := all_pur h
variable {v : SrcV} {k : Nat} {r : S} {Q : Cn (D → S → Prop)} {E : Cn (Addr → List Str → List D → S → Prop)}
end Pg

/-! a law's drawn gathers and plans -/
namespace Pg
open PySem L2 SI Mt
--TAKE
--END TAKE
variable {M : Mc} {v : SrcV} {k : Nat} {r : S} {Q : Cn (D → S → Prop)} {E : Cn (Addr → List Str → List D → S → Prop)}
section
variable {o : O} {rd fr : List Int} {zs : List Rw}
theorem app_get {s : S} {m : Nat} {xs : List D} (e : s[m]? = some (.lst xs)) (hl : xs.length < 1000000) (x : D) : appOf m x s = some (s.set m (.lst (xs ++ [x]))) := by
  unfold appOf
  simp only [e]
  rw [if_pos (by unfold big; omega)]
theorem isl_get {s : S} {m : Nat} {xs : List D} (e : s[m]? = some (.lst xs)) : isLst m s = true := by
  unfold isLst
  simp only [e]
end
end Pg

/-! checked_names, plan_of, best_plan -/
namespace Pg
open PySem L2 SI Mt
variable {c : Cl} {M : Mc} {t : Option Nat}
def nmK (y : NP) : List Int := nmJ y.1 y.2
theorem nmK_inj {x y : NP} (h : nmK x = nmK y) : x = y := by
  unfold nmK nmJ at h
  rw [List.map_cons, List.map_cons] at h
  obtain ⟨h1, h2⟩ := List.cons.inj h
  refine Prod.ext (by omega) ?_
  have : ∀ {a b : List Nat}, a.map (fun n : Nat => (n : Int)) = b.map (fun n : Nat => (n : Int)) → a = b := by
    intro a
    induction a with
    | nil =>
      intro b h
      cases b with
      | nil => rfl
      | cons y ys => simp at h
    | cons x xs ih =>
      intro b h
      cases b with
      | nil => simp at h
      | cons y ys =>
        rw [List.map_cons, List.map_cons] at h
        obtain ⟨h1, h2⟩ := List.cons.inj h
        rw [ih h2, show x = y by omega]
  exact this h2
def pos : List NP → NP → Nat
  | [], _ => 0
  | y :: ys, x => if y = x then 0 else pos ys x + 1
theorem pos_lt {x : NP} : ∀ {Y : List NP}, x ∈ Y → pos Y x < Y.length
  | [], h => by cases h
  | y :: ys, h => by
    unfold pos
    split
    · simp
    · rename_i hne
      have := pos_lt (Y := ys) ((List.mem_cons.mp h).resolve_left fun e => hne e.symm)
      simp
      omega
theorem pos_at {x : NP} : ∀ {Y : List NP} (h : x ∈ Y), Y[pos Y x]'(pos_lt h) = x
  | [], h => by cases h
  | y :: ys, h => by
    by_cases e : y = x
    · have : pos (y :: ys) x = 0 := by unfold pos; rw [if_pos e]
      simp only [this, List.getElem_cons_zero]
      exact e
    · have h2 := (List.mem_cons.mp h).resolve_left fun e2 => e e2.symm
      have : pos (y :: ys) x = pos ys x + 1 := by
        show (if y = x then 0 else pos ys x + 1) = _
        rw [if_neg e]
      simp only [this, List.getElem_cons_succ]
      exact pos_at h2
theorem lk_pos (x : NP) (f : Nat → D) : ∀ (Y : List NP) (o : Nat), lkL (Y.map nmK) ((List.range' o Y.length).map f) (nmK x) = if x ∈ Y then some (f (o + pos Y x)) else none
  | [], o => rfl
  | y :: ys, o => by
    have ih := lk_pos x f ys (o + 1)
    rw [List.map_cons, List.length_cons, List.range'_succ, List.map_cons, lkL]
    by_cases e : y = x
    · subst e
      rw [if_pos rfl, if_pos (List.mem_cons_self ..)]
      simp [pos]
    · rw [if_neg (fun h => e (nmK_inj h)), ih]
      by_cases h : x ∈ ys
      · rw [if_pos h, if_pos (List.mem_cons_of_mem _ h)]
        have : pos (y :: ys) x = pos ys x + 1 := by
          show (if y = x then 0 else pos ys x + 1) = _
          rw [if_neg e]
        rw [this, show o + 1 + pos ys x = o + (pos ys x + 1) by omega]
      · rw [if_neg h, if_neg (fun h2 => h ((List.mem_cons.mp h2).resolve_left fun e2 => e e2.symm))]
theorem ptL_new {α : Type} (k : List Int) (x : α) : ∀ {ks : List (List Int)} {xs : List α}, ks.length = xs.length → k ∉ ks → ptL ks xs k x = xs ++ [x]
  | [], [], _, _ => rfl
  | [], _ :: _, h, _ => by simp at h
  | _ :: _, [], h, _ => by simp at h
  | k1 :: ks, y :: ys, h, hk => by
    have ih := ptL_new k x (ks := ks) (xs := ys) (by simpa using h) (fun z => hk (.tail _ z))
    rw [ptL, if_neg (fun e => hk (by rw [e]; exact .head _)), ih]
    rfl
/-- a tree of names -/
structure TrG (Y : List NP) : Prop where
  ok : ∀ y ∈ Y, OkN none 1 y.1 y.2
  nd : Y.Nodup
  l0 : 0 < Y.length
  l1 : Y.length ≤ 100
  rt : ∀ i (hi : i < Y.length), i = 0 → Y[i] = (0, [])
  up : ∀ i (hi : i < Y.length), 0 < i → ∃ ms a, Y[i] = (0, ms ++ [a]) ∧ (0, ms) ∈ Y ∧ ∀ a', a = a' + 1 → (0, ms ++ [a']) ∈ Y
def yAt (Y : List NP) (i : Nat) : NP := Y.getD i (0, [])
theorem yAt_eq {Y : List NP} {i : Nat} (hi : i < Y.length) : yAt Y i = Y[i] := by
  unfold yAt
  rw [List.getD_eq_getElem?_getD, List.getElem?_eq_getElem hi]
  rfl
theorem enu_nms (Y : List NP) : enumI 0 (Y.map nmP) = (List.range Y.length).map fun (i : Nat) => D.tup [.int i, nmP (yAt Y i)] := by
  apply List.ext_getElem?
  intro i
  rw [enum_get, List.getElem?_map, List.getElem?_map]
  by_cases hi : i < Y.length
  · rw [List.getElem?_eq_getElem hi, List.getElem?_range hi]
    simp only [Option.map_some, Nat.zero_add]
    rw [yAt_eq hi]
  · rw [List.getElem?_eq_none (by omega), List.getElem?_eq_none (by simp; omega)]
    rfl
theorem keyT_nm (y : NP) : keyT (nmP y) = some (nmK y) := ints_nm (y.1 :: y.2)
def ixD (i : Nat) : List D := (List.range' 0 i).map fun (j : Nat) => D.int j
theorem ixD_s (i : Nat) : ixD (i + 1) = ixD i ++ [.int i] := by
  unfold ixD
  rw [List.range'_concat]
  simp
def dtS (Y : List NP) : O := .dt (Y.map nmK) (ixD Y.length)
theorem in_dt {s : S} {d : D} {Y : List NP} (h : dtOf s d = some (Y.map nmK, ixD Y.length)) (neg : Bool) (x : NP) : dInT neg s (nmP x) d = some (.bl (if neg = true then !decide (x ∈ Y) else decide (x ∈ Y))) := by
  unfold dInT
  rw [keyT_nm, h]
  dsimp only
  have := lk_pos x (fun j => D.int j) Y 0
  unfold ixD
  rw [this]
  by_cases hx : x ∈ Y
  · rw [if_pos hx]
    simp [hx]
  · rw [if_neg hx]
    simp [hx]
theorem ix_dt {s : S} {d : D} {Y : List NP} (h : dtOf s d = some (Y.map nmK, ixD Y.length)) {x : NP} (hx : x ∈ Y) : dIxT s d (nmP x) = some (.int (pos Y x)) := by
  unfold dIxT
  rw [keyT_nm, h]
  dsimp only
  have := lk_pos x (fun j => D.int j) Y 0
  unfold ixD
  rw [this, if_pos hx, Nat.zero_add]
theorem dt_get {s : S} {Y : List NP} : dtOf (s ++ [dtS Y]) (.ref s.length) = some (Y.map nmK, ixD Y.length) := by
  show (match (s ++ [dtS Y])[s.length]? with
    | some (.dt ks vs) => some (ks, vs)
    | _ => none) = _
  rw [show (s ++ [dtS Y])[s.length]? = some (dtS Y) by simp]
  rfl
theorem put_dt {s : S} {Y : List NP} {x : NP} (hl : Y.length < 100000) (hx : x ∉ Y) : dPutT (s ++ [dtS Y]) (.ref s.length) (nmP x) (.int Y.length) = some (s ++ [dtS (Y ++ [x])]) := by
  unfold dPutT
  rw [keyT_nm]
  dsimp only
  rw [show (s ++ [dtS Y])[s.length]? = some (dtS Y) by simp]
  dsimp only [dtS]
  have hk : nmK x ∉ Y.map nmK := fun h => by
    obtain ⟨y, hy, e⟩ := List.mem_map.mp h
    exact hx (by rw [← nmK_inj e]; exact hy)
  have hb : big = 1000000 := rfl
  rw [if_pos (by rw [List.length_map, hb]; omega), ptK_eq, if_neg hk, ptL_new _ _ (by simp [ixD]) hk]
  simp [ixD_s]
theorem w_dictU {L : Lc} {s : S} {Q : Cn (D → S → Prop)} {E : Cn (Addr → List Str → List D → S → Prop)} : @WR _ (fDictU L s) Q E = Q (.ref s.length) (s ++ [.dt [] []]) := rfl
theorem cnames_ok {Y : List NP} (h : TrG Y) (s : S) : G_checked_names c [.lst (Y.map nmP)] s = .ok (.dt (Y.map nmK) (ixD Y.length)) s := by
  have l0 := h.l0
  have l1 := h.l1
  have len : ∀ s, bLen s [.lst (Y.map nmP)] = some (.int Y.length) := fun s => by
    show some (D.int _) = _
    rw [List.length_map]
  have isl : ∀ s, bIsiT c.cs s [.lst (Y.map nmP), .tup [.ty "list", .ty "tuple"]] = some (.bl true) := fun s => rfl
  apply eq_ok
  unfold G_checked_names
  have wr : ∀ y ∈ Y, ∀ s, G_wrong_at c [nmP y, .non, .int 1] s = .ok .non s := fun y hy s => by
    have e := wrong_ok (c := c) (t := none) (nm_nmc y.1 y.2) (many := (1 : Nat)) s
    rw [nmD_ok (h.ok y hy)] at e
    exact e
  simp (implicitDefEqProofs := false) only [isl, len, show (1 : Int) ≤ (Y.length : Int) by omega, show (Y.length : Int) ≤ 100 by omega, iEnu_lst, ↓w_dictU, ↓w_srtT, ↓w_par2, ↓w_par3, ↓w_setd, ↓w_dict1, ↓w_maxDf, ↓w_slT, ↓w_addT, ↓w_dictT, ↓w_dictI, ↓w_get, ↓w_lrg1T, ↓w_lrg2T, ↓w_lrg1, ↓w_lrg2, ↓w_pop0, ↓w_lcT, ↓w_mth, ↓w_calm, ↓w_tryM, ↓w_tm0, ↓w_tmN, ↓w_tmS, ↓w_seq, ↓w_next, ↓w_break, ↓w_cont, ↓w_retN, ↓w_asg, ↓w_expr, ↓w_ret, ↓w_if, ↓w_asgG, ↓w_for, ↓w_put, ↓w_aug, ↓w_augS, ↓w_raise0, ↓w_raise1, ↓w_raise2, ↓w_try, ↓w_tryAs, ↓w_var, ↓w_c, ↓w_op, ↓w_chain, ↓w_notV, ↓w_andV, ↓w_orV, ↓w_ifE, ↓w_tst, ↓w_not, ↓w_and, ↓w_or, ↓w_yes, ↓w_nil, ↓w_cons, ↓w_tup, ↓w_lst, ↓w_lstT, ↓w_cb, ↓w_call, ↓w_callK, ↓w_neg, ↓w_no, ↓w_pt, ↓w_sl, ↓w_fld, ↓w_src, ↓w_rng, ↓w_enu, ↓w_listT, ↓w_app, ↓w_lc, ↓w_xf, ↓w_fldT, ↓w_make, ↓w_makeL, ↓w_run, ↓w_cut, ↓w_pure, ↓w_drop, nth2_eq, nth3_eq, w_ok, w_ex, w_nx, w_rt, w_bk, w_ct, w_exS, w_some, w_v, w_tr, w_fa, w_tb, w_ti, w_tn, w_L, w_L0, wb_not, cn_f, startD, arr, gN_eq, gTp, gTl, gCn, gNl, Option.bind_some, List.filterMap_cons, List.filterMap_nil, List.map_cons, List.map_nil, List.replicate_succ, List.replicate_zero, List.cons_append, List.nil_append, List.getElem?_cons_zero, List.getElem?_cons_succ, List.set_cons_zero, List.set_cons_succ, List.length_cons, List.length_nil, Nat.reduceAdd, Nat.reduceSub, Nat.reduceLeDiff, Nat.reduceEqDiff, Int.reducePow, Int.reduceToNat, Int.reduceNeg, Int.reduceAdd, Int.reduceMul, Int.reduceSub, Int.reduceLT, Int.reduceLE, Int.reduceEq, Nat.zero_add, Int.zero_add, big_eq, true_and, and_true, and_self, dSub_int, dAdd_int, dAddI_int, dLt_int, dLe_int, dGt_int, dGe_int, dEqD_int, bInt_int, bLen_lst, bLen_tup, bMin_int, bMax_int, bAbs_int, dIs_non, dIs_int, dIs_nn, Bool.not_true, Bool.not_false, decide_true, decide_false, reduceIte, Bool.false_eq_true, if_false, if_true, iSeq_lst, iSeq_tup, iSeq_rdl, iEnu_lst, iEnu_tup]
  rw [enu_nms]
  refine ws_lst (fun i L s' => ∃ y2 y3, L = [some (.lst (Y.map nmP)), some (.ref s.length), y2, y3] ∧ s' = s ++ [dtS (Y.take i)]) ⟨_, _, rfl, rfl⟩ ?_ ?_
  · rintro i hi L s' ⟨y2, y3, rfl, rfl⟩
    have hi' : i < Y.length := by simpa using hi
    rw [List.getElem_range, yAt_eq hi']
    have hm : Y[i] ∈ Y := List.getElem_mem hi'
    have hnew : Y[i] ∉ Y.take i := fun hx => by
      obtain ⟨j, hj, e⟩ := List.getElem_of_mem hx
      rw [List.length_take] at hj
      rw [List.getElem_take] at e
      have := (List.getElem_inj h.nd).mp e
      omega
    have e1 := in_dt (s := s ++ [dtS (Y.take i)]) (d := .ref s.length) dt_get false Y[i]
    have e2 := put_dt (s := s) (Y := Y.take i) (x := Y[i]) (by rw [List.length_take]; omega) hnew
    rw [show (Y.take i).length = i by rw [List.length_take]; omega, ← List.take_succ_eq_append_getElem hi'] at e2
    have e3 : i = 0 → ∀ s, bLen s [nmP Y[i]] = some (.int 1) := fun e s => by
      rw [h.rt i hi' e]
      rfl
    simp (implicitDefEqProofs := false) only [wr _ hm, isn_nn, e1, hnew, ↓w_srtT, ↓w_par2, ↓w_par3, ↓w_setd, ↓w_dict1, ↓w_maxDf, ↓w_slT, ↓w_addT, ↓w_dictT, ↓w_dictI, ↓w_get, ↓w_lrg1T, ↓w_lrg2T, ↓w_lrg1, ↓w_lrg2, ↓w_pop0, ↓w_lcT, ↓w_mth, ↓w_calm, ↓w_tryM, ↓w_tm0, ↓w_tmN, ↓w_tmS, ↓w_seq, ↓w_next, ↓w_break, ↓w_cont, ↓w_retN, ↓w_asg, ↓w_expr, ↓w_ret, ↓w_if, ↓w_asgG, ↓w_for, ↓w_put, ↓w_aug, ↓w_augS, ↓w_raise0, ↓w_raise1, ↓w_raise2, ↓w_try, ↓w_tryAs, ↓w_var, ↓w_c, ↓w_op, ↓w_chain, ↓w_notV, ↓w_andV, ↓w_orV, ↓w_ifE, ↓w_tst, ↓w_not, ↓w_and, ↓w_or, ↓w_yes, ↓w_nil, ↓w_cons, ↓w_tup, ↓w_lst, ↓w_lstT, ↓w_cb, ↓w_call, ↓w_callK, ↓w_neg, ↓w_no, ↓w_pt, ↓w_sl, ↓w_fld, ↓w_src, ↓w_rng, ↓w_enu, ↓w_listT, ↓w_app, ↓w_lc, ↓w_xf, ↓w_fldT, ↓w_make, ↓w_makeL, ↓w_run, ↓w_cut, ↓w_pure, ↓w_drop, nth2_eq, nth3_eq, w_ok, w_ex, w_nx, w_rt, w_bk, w_ct, w_exS, w_some, w_v, w_tr, w_fa, w_tb, w_ti, w_tn, w_L, w_L0, wb_not, cn_f, startD, arr, gN_eq, gTp, gTl, gCn, gNl, Option.bind_some, List.filterMap_cons, List.filterMap_nil, List.map_cons, List.map_nil, List.replicate_succ, List.replicate_zero, List.cons_append, List.nil_append, List.getElem?_cons_zero, List.getElem?_cons_succ, List.set_cons_zero, List.set_cons_succ, List.length_cons, List.length_nil, Nat.reduceAdd, Nat.reduceSub, Nat.reduceLeDiff, Nat.reduceEqDiff, Int.reducePow, Int.reduceToNat, Int.reduceNeg, Int.reduceAdd, Int.reduceMul, Int.reduceSub, Int.reduceLT, Int.reduceLE, Int.reduceEq, Nat.zero_add, Int.zero_add, big_eq, true_and, and_true, and_self, dSub_int, dAdd_int, dAddI_int, dLt_int, dLe_int, dGt_int, dGe_int, dEqD_int, bInt_int, bLen_lst, bLen_tup, bMin_int, bMax_int, bAbs_int, dIs_non, dIs_int, dIs_nn, Bool.not_true, Bool.not_false, decide_true, decide_false, reduceIte, Bool.false_eq_true, if_false, if_true, iSeq_lst, iSeq_tup, iSeq_rdl, iEnu_lst, iEnu_tup]
    refine wb_dec (fun h1 => ?_) (fun h1 => ?_)
    · simp (implicitDefEqProofs := false) only [e3 (by omega), e2, ↓w_srtT, ↓w_par2, ↓w_par3, ↓w_setd, ↓w_dict1, ↓w_maxDf, ↓w_slT, ↓w_addT, ↓w_dictT, ↓w_dictI, ↓w_get, ↓w_lrg1T, ↓w_lrg2T, ↓w_lrg1, ↓w_lrg2, ↓w_pop0, ↓w_lcT, ↓w_mth, ↓w_calm, ↓w_tryM, ↓w_tm0, ↓w_tmN, ↓w_tmS, ↓w_seq, ↓w_next, ↓w_break, ↓w_cont, ↓w_retN, ↓w_asg, ↓w_expr, ↓w_ret, ↓w_if, ↓w_asgG, ↓w_for, ↓w_put, ↓w_aug, ↓w_augS, ↓w_raise0, ↓w_raise1, ↓w_raise2, ↓w_try, ↓w_tryAs, ↓w_var, ↓w_c, ↓w_op, ↓w_chain, ↓w_notV, ↓w_andV, ↓w_orV, ↓w_ifE, ↓w_tst, ↓w_not, ↓w_and, ↓w_or, ↓w_yes, ↓w_nil, ↓w_cons, ↓w_tup, ↓w_lst, ↓w_lstT, ↓w_cb, ↓w_call, ↓w_callK, ↓w_neg, ↓w_no, ↓w_pt, ↓w_sl, ↓w_fld, ↓w_src, ↓w_rng, ↓w_enu, ↓w_listT, ↓w_app, ↓w_lc, ↓w_xf, ↓w_fldT, ↓w_make, ↓w_makeL, ↓w_run, ↓w_cut, ↓w_pure, ↓w_drop, nth2_eq, nth3_eq, w_ok, w_ex, w_nx, w_rt, w_bk, w_ct, w_exS, w_some, w_v, w_tr, w_fa, w_tb, w_ti, w_tn, w_L, w_L0, wb_not, cn_f, startD, arr, gN_eq, gTp, gTl, gCn, gNl, Option.bind_some, List.filterMap_cons, List.filterMap_nil, List.map_cons, List.map_nil, List.replicate_succ, List.replicate_zero, List.cons_append, List.nil_append, List.getElem?_cons_zero, List.getElem?_cons_succ, List.set_cons_zero, List.set_cons_succ, List.length_cons, List.length_nil, Nat.reduceAdd, Nat.reduceSub, Nat.reduceLeDiff, Nat.reduceEqDiff, Int.reducePow, Int.reduceToNat, Int.reduceNeg, Int.reduceAdd, Int.reduceMul, Int.reduceSub, Int.reduceLT, Int.reduceLE, Int.reduceEq, Nat.zero_add, Int.zero_add, big_eq, true_and, and_true, and_self, dSub_int, dAdd_int, dAddI_int, dLt_int, dLe_int, dGt_int, dGe_int, dEqD_int, bInt_int, bLen_lst, bLen_tup, bMin_int, bMax_int, bAbs_int, dIs_non, dIs_int, dIs_nn, Bool.not_true, Bool.not_false, decide_true, decide_false, reduceIte, Bool.false_eq_true, if_false, if_true, iSeq_lst, iSeq_tup, iSeq_rdl, iEnu_lst, iEnu_tup]
      exact ⟨_, _, rfl⟩
    · simp (implicitDefEqProofs := false) only [e2, ↓w_srtT, ↓w_par2, ↓w_par3, ↓w_setd, ↓w_dict1, ↓w_maxDf, ↓w_slT, ↓w_addT, ↓w_dictT, ↓w_dictI, ↓w_get, ↓w_lrg1T, ↓w_lrg2T, ↓w_lrg1, ↓w_lrg2, ↓w_pop0, ↓w_lcT, ↓w_mth, ↓w_calm, ↓w_tryM, ↓w_tm0, ↓w_tmN, ↓w_tmS, ↓w_seq, ↓w_next, ↓w_break, ↓w_cont, ↓w_retN, ↓w_asg, ↓w_expr, ↓w_ret, ↓w_if, ↓w_asgG, ↓w_for, ↓w_put, ↓w_aug, ↓w_augS, ↓w_raise0, ↓w_raise1, ↓w_raise2, ↓w_try, ↓w_tryAs, ↓w_var, ↓w_c, ↓w_op, ↓w_chain, ↓w_notV, ↓w_andV, ↓w_orV, ↓w_ifE, ↓w_tst, ↓w_not, ↓w_and, ↓w_or, ↓w_yes, ↓w_nil, ↓w_cons, ↓w_tup, ↓w_lst, ↓w_lstT, ↓w_cb, ↓w_call, ↓w_callK, ↓w_neg, ↓w_no, ↓w_pt, ↓w_sl, ↓w_fld, ↓w_src, ↓w_rng, ↓w_enu, ↓w_listT, ↓w_app, ↓w_lc, ↓w_xf, ↓w_fldT, ↓w_make, ↓w_makeL, ↓w_run, ↓w_cut, ↓w_pure, ↓w_drop, nth2_eq, nth3_eq, w_ok, w_ex, w_nx, w_rt, w_bk, w_ct, w_exS, w_some, w_v, w_tr, w_fa, w_tb, w_ti, w_tn, w_L, w_L0, wb_not, cn_f, startD, arr, gN_eq, gTp, gTl, gCn, gNl, Option.bind_some, List.filterMap_cons, List.filterMap_nil, List.map_cons, List.map_nil, List.replicate_succ, List.replicate_zero, List.cons_append, List.nil_append, List.getElem?_cons_zero, List.getElem?_cons_succ, List.set_cons_zero, List.set_cons_succ, List.length_cons, List.length_nil, Nat.reduceAdd, Nat.reduceSub, Nat.reduceLeDiff, Nat.reduceEqDiff, Int.reducePow, Int.reduceToNat, Int.reduceNeg, Int.reduceAdd, Int.reduceMul, Int.reduceSub, Int.reduceLT, Int.reduceLE, Int.reduceEq, Nat.zero_add, Int.zero_add, big_eq, true_and, and_true, and_self, dSub_int, dAdd_int, dAddI_int, dLt_int, dLe_int, dGt_int, dGe_int, dEqD_int, bInt_int, bLen_lst, bLen_tup, bMin_int, bMax_int, bAbs_int, dIs_non, dIs_int, dIs_nn, Bool.not_true, Bool.not_false, decide_true, decide_false, reduceIte, Bool.false_eq_true, if_false, if_true, iSeq_lst, iSeq_tup, iSeq_rdl, iEnu_lst, iEnu_tup]
      exact ⟨_, _, rfl⟩
  · rintro L s' ⟨y2, y3, rfl, rfl⟩
    rw [List.length_range, List.take_length]
    simp (implicitDefEqProofs := false) only [iEnu_lst, ↓w_srtT, ↓w_par2, ↓w_par3, ↓w_setd, ↓w_dict1, ↓w_maxDf, ↓w_slT, ↓w_addT, ↓w_dictT, ↓w_dictI, ↓w_get, ↓w_lrg1T, ↓w_lrg2T, ↓w_lrg1, ↓w_lrg2, ↓w_pop0, ↓w_lcT, ↓w_mth, ↓w_calm, ↓w_tryM, ↓w_tm0, ↓w_tmN, ↓w_tmS, ↓w_seq, ↓w_next, ↓w_break, ↓w_cont, ↓w_retN, ↓w_asg, ↓w_expr, ↓w_ret, ↓w_if, ↓w_asgG, ↓w_for, ↓w_put, ↓w_aug, ↓w_augS, ↓w_raise0, ↓w_raise1, ↓w_raise2, ↓w_try, ↓w_tryAs, ↓w_var, ↓w_c, ↓w_op, ↓w_chain, ↓w_notV, ↓w_andV, ↓w_orV, ↓w_ifE, ↓w_tst, ↓w_not, ↓w_and, ↓w_or, ↓w_yes, ↓w_nil, ↓w_cons, ↓w_tup, ↓w_lst, ↓w_lstT, ↓w_cb, ↓w_call, ↓w_callK, ↓w_neg, ↓w_no, ↓w_pt, ↓w_sl, ↓w_fld, ↓w_src, ↓w_rng, ↓w_enu, ↓w_listT, ↓w_app, ↓w_lc, ↓w_xf, ↓w_fldT, ↓w_make, ↓w_makeL, ↓w_run, ↓w_cut, ↓w_pure, ↓w_drop, nth2_eq, nth3_eq, w_ok, w_ex, w_nx, w_rt, w_bk, w_ct, w_exS, w_some, w_v, w_tr, w_fa, w_tb, w_ti, w_tn, w_L, w_L0, wb_not, cn_f, startD, arr, gN_eq, gTp, gTl, gCn, gNl, Option.bind_some, List.filterMap_cons, List.filterMap_nil, List.map_cons, List.map_nil, List.replicate_succ, List.replicate_zero, List.cons_append, List.nil_append, List.getElem?_cons_zero, List.getElem?_cons_succ, List.set_cons_zero, List.set_cons_succ, List.length_cons, List.length_nil, Nat.reduceAdd, Nat.reduceSub, Nat.reduceLeDiff, Nat.reduceEqDiff, Int.reducePow, Int.reduceToNat, Int.reduceNeg, Int.reduceAdd, Int.reduceMul, Int.reduceSub, Int.reduceLT, Int.reduceLE, Int.reduceEq, Nat.zero_add, Int.zero_add, big_eq, true_and, and_true, and_self, dSub_int, dAdd_int, dAddI_int, dLt_int, dLe_int, dGt_int, dGe_int, dEqD_int, bInt_int, bLen_lst, bLen_tup, bMin_int, bMax_int, bAbs_int, dIs_non, dIs_int, dIs_nn, Bool.not_true, Bool.not_false, decide_true, decide_false, reduceIte, Bool.false_eq_true, if_false, if_true, iSeq_lst, iSeq_tup, iSeq_rdl, iEnu_lst, iEnu_tup]
    rw [enu_nms]
    refine ws_lst (fun i L s' => ∃ y2 y3, L = [some (.lst (Y.map nmP)), some (.ref s.length), y2, y3] ∧ s' = s ++ [dtS Y]) ⟨_, _, rfl, rfl⟩ ?_ ?_
    · rintro i hi L s' ⟨y2, y3, rfl, rfl⟩
      have hi' : i < Y.length := by simpa using hi
      rw [List.getElem_range, yAt_eq hi']
      simp (implicitDefEqProofs := false) only [↓w_srtT, ↓w_par2, ↓w_par3, ↓w_setd, ↓w_dict1, ↓w_maxDf, ↓w_slT, ↓w_addT, ↓w_dictT, ↓w_dictI, ↓w_get, ↓w_lrg1T, ↓w_lrg2T, ↓w_lrg1, ↓w_lrg2, ↓w_pop0, ↓w_lcT, ↓w_mth, ↓w_calm, ↓w_tryM, ↓w_tm0, ↓w_tmN, ↓w_tmS, ↓w_seq, ↓w_next, ↓w_break, ↓w_cont, ↓w_retN, ↓w_asg, ↓w_expr, ↓w_ret, ↓w_if, ↓w_asgG, ↓w_for, ↓w_put, ↓w_aug, ↓w_augS, ↓w_raise0, ↓w_raise1, ↓w_raise2, ↓w_try, ↓w_tryAs, ↓w_var, ↓w_c, ↓w_op, ↓w_chain, ↓w_notV, ↓w_andV, ↓w_orV, ↓w_ifE, ↓w_tst, ↓w_not, ↓w_and, ↓w_or, ↓w_yes, ↓w_nil, ↓w_cons, ↓w_tup, ↓w_lst, ↓w_lstT, ↓w_cb, ↓w_call, ↓w_callK, ↓w_neg, ↓w_no, ↓w_pt, ↓w_sl, ↓w_fld, ↓w_src, ↓w_rng, ↓w_enu, ↓w_listT, ↓w_app, ↓w_lc, ↓w_xf, ↓w_fldT, ↓w_make, ↓w_makeL, ↓w_run, ↓w_cut, ↓w_pure, ↓w_drop, nth2_eq, nth3_eq, w_ok, w_ex, w_nx, w_rt, w_bk, w_ct, w_exS, w_some, w_v, w_tr, w_fa, w_tb, w_ti, w_tn, w_L, w_L0, wb_not, cn_f, startD, arr, gN_eq, gTp, gTl, gCn, gNl, Option.bind_some, List.filterMap_cons, List.filterMap_nil, List.map_cons, List.map_nil, List.replicate_succ, List.replicate_zero, List.cons_append, List.nil_append, List.getElem?_cons_zero, List.getElem?_cons_succ, List.set_cons_zero, List.set_cons_succ, List.length_cons, List.length_nil, Nat.reduceAdd, Nat.reduceSub, Nat.reduceLeDiff, Nat.reduceEqDiff, Int.reducePow, Int.reduceToNat, Int.reduceNeg, Int.reduceAdd, Int.reduceMul, Int.reduceSub, Int.reduceLT, Int.reduceLE, Int.reduceEq, Nat.zero_add, Int.zero_add, big_eq, true_and, and_true, and_self, dSub_int, dAdd_int, dAddI_int, dLt_int, dLe_int, dGt_int, dGe_int, dEqD_int, bInt_int, bLen_lst, bLen_tup, bMin_int, bMax_int, bAbs_int, dIs_non, dIs_int, dIs_nn, Bool.not_true, Bool.not_false, decide_true, decide_false, reduceIte, Bool.false_eq_true, if_false, if_true, iSeq_lst, iSeq_tup, iSeq_rdl, iEnu_lst, iEnu_tup]
      refine wb_dec (fun h1 => ?_) (fun h1 => ?_)
      · obtain ⟨ms, a, e, hm, hs⟩ := h.up i hi' (by omega)
        have l1 : ∀ s, dIx s (nmP (0, ms ++ [a])) (.int (-1)) = some (.int a) := nm_last 0 ms a
        have l2 : ∀ s, dSl s (nmP (0, ms ++ [a])) none (some (-1)) = some (nmP (0, ms)) := nm_cutl 0 ms a
        have e1 := in_dt (s := s ++ [dtS Y]) (d := .ref s.length) dt_get true (0, ms)
        rw [e]
        simp (implicitDefEqProofs := false) only [l1, l2, e1, hm, h1, ↓w_srtT, ↓w_par2, ↓w_par3, ↓w_setd, ↓w_dict1, ↓w_maxDf, ↓w_slT, ↓w_addT, ↓w_dictT, ↓w_dictI, ↓w_get, ↓w_lrg1T, ↓w_lrg2T, ↓w_lrg1, ↓w_lrg2, ↓w_pop0, ↓w_lcT, ↓w_mth, ↓w_calm, ↓w_tryM, ↓w_tm0, ↓w_tmN, ↓w_tmS, ↓w_seq, ↓w_next, ↓w_break, ↓w_cont, ↓w_retN, ↓w_asg, ↓w_expr, ↓w_ret, ↓w_if, ↓w_asgG, ↓w_for, ↓w_put, ↓w_aug, ↓w_augS, ↓w_raise0, ↓w_raise1, ↓w_raise2, ↓w_try, ↓w_tryAs, ↓w_var, ↓w_c, ↓w_op, ↓w_chain, ↓w_notV, ↓w_andV, ↓w_orV, ↓w_ifE, ↓w_tst, ↓w_not, ↓w_and, ↓w_or, ↓w_yes, ↓w_nil, ↓w_cons, ↓w_tup, ↓w_lst, ↓w_lstT, ↓w_cb, ↓w_call, ↓w_callK, ↓w_neg, ↓w_no, ↓w_pt, ↓w_sl, ↓w_fld, ↓w_src, ↓w_rng, ↓w_enu, ↓w_listT, ↓w_app, ↓w_lc, ↓w_xf, ↓w_fldT, ↓w_make, ↓w_makeL, ↓w_run, ↓w_cut, ↓w_pure, ↓w_drop, nth2_eq, nth3_eq, w_ok, w_ex, w_nx, w_rt, w_bk, w_ct, w_exS, w_some, w_v, w_tr, w_fa, w_tb, w_ti, w_tn, w_L, w_L0, wb_not, cn_f, startD, arr, gN_eq, gTp, gTl, gCn, gNl, Option.bind_some, List.filterMap_cons, List.filterMap_nil, List.map_cons, List.map_nil, List.replicate_succ, List.replicate_zero, List.cons_append, List.nil_append, List.getElem?_cons_zero, List.getElem?_cons_succ, List.set_cons_zero, List.set_cons_succ, List.length_cons, List.length_nil, Nat.reduceAdd, Nat.reduceSub, Nat.reduceLeDiff, Nat.reduceEqDiff, Int.reducePow, Int.reduceToNat, Int.reduceNeg, Int.reduceAdd, Int.reduceMul, Int.reduceSub, Int.reduceLT, Int.reduceLE, Int.reduceEq, Nat.zero_add, Int.zero_add, big_eq, true_and, and_true, and_self, dSub_int, dAdd_int, dAddI_int, dLt_int, dLe_int, dGt_int, dGe_int, dEqD_int, bInt_int, bLen_lst, bLen_tup, bMin_int, bMax_int, bAbs_int, dIs_non, dIs_int, dIs_nn, Bool.not_true, Bool.not_false, decide_true, decide_false, reduceIte, Bool.false_eq_true, if_false, if_true, iSeq_lst, iSeq_tup, iSeq_rdl, iEnu_lst, iEnu_tup]
        refine wb_dec (fun h2 => ?_) (fun h2 => ?_)
        · obtain ⟨a', ea⟩ : ∃ a', a = a' + 1 := ⟨a - 1, by omega⟩
          have hm' := hs a' ea
          subst ea
          have ml : ms.length ≤ 199 := by
            have := (h.ok _ hm).l
            exact this
          have l3 : ∀ s, dAdd s (nmP (0, ms)) (.tup [.int (((a' + 1 : Nat) : Int) - 1)]) = some (nmP (0, ms ++ [a'])) := fun s => by
            have := nm_add 0 ms a' (by omega) s
            rw [show (((a' + 1 : Nat) : Int) - 1) = (a' : Int) by omega]
            exact this
          have e2 := in_dt (s := s ++ [dtS Y]) (d := .ref s.length) dt_get true (0, ms ++ [a'])
          simp (implicitDefEqProofs := false) only [l1, l2, l3, e2, hm', ↓w_srtT, ↓w_par2, ↓w_par3, ↓w_setd, ↓w_dict1, ↓w_maxDf, ↓w_slT, ↓w_addT, ↓w_dictT, ↓w_dictI, ↓w_get, ↓w_lrg1T, ↓w_lrg2T, ↓w_lrg1, ↓w_lrg2, ↓w_pop0, ↓w_lcT, ↓w_mth, ↓w_calm, ↓w_tryM, ↓w_tm0, ↓w_tmN, ↓w_tmS, ↓w_seq, ↓w_next, ↓w_break, ↓w_cont, ↓w_retN, ↓w_asg, ↓w_expr, ↓w_ret, ↓w_if, ↓w_asgG, ↓w_for, ↓w_put, ↓w_aug, ↓w_augS, ↓w_raise0, ↓w_raise1, ↓w_raise2, ↓w_try, ↓w_tryAs, ↓w_var, ↓w_c, ↓w_op, ↓w_chain, ↓w_notV, ↓w_andV, ↓w_orV, ↓w_ifE, ↓w_tst, ↓w_not, ↓w_and, ↓w_or, ↓w_yes, ↓w_nil, ↓w_cons, ↓w_tup, ↓w_lst, ↓w_lstT, ↓w_cb, ↓w_call, ↓w_callK, ↓w_neg, ↓w_no, ↓w_pt, ↓w_sl, ↓w_fld, ↓w_src, ↓w_rng, ↓w_enu, ↓w_listT, ↓w_app, ↓w_lc, ↓w_xf, ↓w_fldT, ↓w_make, ↓w_makeL, ↓w_run, ↓w_cut, ↓w_pure, ↓w_drop, nth2_eq, nth3_eq, w_ok, w_ex, w_nx, w_rt, w_bk, w_ct, w_exS, w_some, w_v, w_tr, w_fa, w_tb, w_ti, w_tn, w_L, w_L0, wb_not, cn_f, startD, arr, gN_eq, gTp, gTl, gCn, gNl, Option.bind_some, List.filterMap_cons, List.filterMap_nil, List.map_cons, List.map_nil, List.replicate_succ, List.replicate_zero, List.cons_append, List.nil_append, List.getElem?_cons_zero, List.getElem?_cons_succ, List.set_cons_zero, List.set_cons_succ, List.length_cons, List.length_nil, Nat.reduceAdd, Nat.reduceSub, Nat.reduceLeDiff, Nat.reduceEqDiff, Int.reducePow, Int.reduceToNat, Int.reduceNeg, Int.reduceAdd, Int.reduceMul, Int.reduceSub, Int.reduceLT, Int.reduceLE, Int.reduceEq, Nat.zero_add, Int.zero_add, big_eq, true_and, and_true, and_self, dSub_int, dAdd_int, dAddI_int, dLt_int, dLe_int, dGt_int, dGe_int, dEqD_int, bInt_int, bLen_lst, bLen_tup, bMin_int, bMax_int, bAbs_int, dIs_non, dIs_int, dIs_nn, Bool.not_true, Bool.not_false, decide_true, decide_false, reduceIte, Bool.false_eq_true, if_false, if_true, iSeq_lst, iSeq_tup, iSeq_rdl, iEnu_lst, iEnu_tup]
          exact ⟨_, _, rfl⟩
        · simp (implicitDefEqProofs := false) only [↓w_srtT, ↓w_par2, ↓w_par3, ↓w_setd, ↓w_dict1, ↓w_maxDf, ↓w_slT, ↓w_addT, ↓w_dictT, ↓w_dictI, ↓w_get, ↓w_lrg1T, ↓w_lrg2T, ↓w_lrg1, ↓w_lrg2, ↓w_pop0, ↓w_lcT, ↓w_mth, ↓w_calm, ↓w_tryM, ↓w_tm0, ↓w_tmN, ↓w_tmS, ↓w_seq, ↓w_next, ↓w_break, ↓w_cont, ↓w_retN, ↓w_asg, ↓w_expr, ↓w_ret, ↓w_if, ↓w_asgG, ↓w_for, ↓w_put, ↓w_aug, ↓w_augS, ↓w_raise0, ↓w_raise1, ↓w_raise2, ↓w_try, ↓w_tryAs, ↓w_var, ↓w_c, ↓w_op, ↓w_chain, ↓w_notV, ↓w_andV, ↓w_orV, ↓w_ifE, ↓w_tst, ↓w_not, ↓w_and, ↓w_or, ↓w_yes, ↓w_nil, ↓w_cons, ↓w_tup, ↓w_lst, ↓w_lstT, ↓w_cb, ↓w_call, ↓w_callK, ↓w_neg, ↓w_no, ↓w_pt, ↓w_sl, ↓w_fld, ↓w_src, ↓w_rng, ↓w_enu, ↓w_listT, ↓w_app, ↓w_lc, ↓w_xf, ↓w_fldT, ↓w_make, ↓w_makeL, ↓w_run, ↓w_cut, ↓w_pure, ↓w_drop, nth2_eq, nth3_eq, w_ok, w_ex, w_nx, w_rt, w_bk, w_ct, w_exS, w_some, w_v, w_tr, w_fa, w_tb, w_ti, w_tn, w_L, w_L0, wb_not, cn_f, startD, arr, gN_eq, gTp, gTl, gCn, gNl, Option.bind_some, List.filterMap_cons, List.filterMap_nil, List.map_cons, List.map_nil, List.replicate_succ, List.replicate_zero, List.cons_append, List.nil_append, List.getElem?_cons_zero, List.getElem?_cons_succ, List.set_cons_zero, List.set_cons_succ, List.length_cons, List.length_nil, Nat.reduceAdd, Nat.reduceSub, Nat.reduceLeDiff, Nat.reduceEqDiff, Int.reducePow, Int.reduceToNat, Int.reduceNeg, Int.reduceAdd, Int.reduceMul, Int.reduceSub, Int.reduceLT, Int.reduceLE, Int.reduceEq, Nat.zero_add, Int.zero_add, big_eq, true_and, and_true, and_self, dSub_int, dAdd_int, dAddI_int, dLt_int, dLe_int, dGt_int, dGe_int, dEqD_int, bInt_int, bLen_lst, bLen_tup, bMin_int, bMax_int, bAbs_int, dIs_non, dIs_int, dIs_nn, Bool.not_true, Bool.not_false, decide_true, decide_false, reduceIte, Bool.false_eq_true, if_false, if_true, iSeq_lst, iSeq_tup, iSeq_rdl, iEnu_lst, iEnu_tup]
          exact ⟨_, _, rfl⟩
      · simp (implicitDefEqProofs := false) only [h1, ↓w_srtT, ↓w_par2, ↓w_par3, ↓w_setd, ↓w_dict1, ↓w_maxDf, ↓w_slT, ↓w_addT, ↓w_dictT, ↓w_dictI, ↓w_get, ↓w_lrg1T, ↓w_lrg2T, ↓w_lrg1, ↓w_lrg2, ↓w_pop0, ↓w_lcT, ↓w_mth, ↓w_calm, ↓w_tryM, ↓w_tm0, ↓w_tmN, ↓w_tmS, ↓w_seq, ↓w_next, ↓w_break, ↓w_cont, ↓w_retN, ↓w_asg, ↓w_expr, ↓w_ret, ↓w_if, ↓w_asgG, ↓w_for, ↓w_put, ↓w_aug, ↓w_augS, ↓w_raise0, ↓w_raise1, ↓w_raise2, ↓w_try, ↓w_tryAs, ↓w_var, ↓w_c, ↓w_op, ↓w_chain, ↓w_notV, ↓w_andV, ↓w_orV, ↓w_ifE, ↓w_tst, ↓w_not, ↓w_and, ↓w_or, ↓w_yes, ↓w_nil, ↓w_cons, ↓w_tup, ↓w_lst, ↓w_lstT, ↓w_cb, ↓w_call, ↓w_callK, ↓w_neg, ↓w_no, ↓w_pt, ↓w_sl, ↓w_fld, ↓w_src, ↓w_rng, ↓w_enu, ↓w_listT, ↓w_app, ↓w_lc, ↓w_xf, ↓w_fldT, ↓w_make, ↓w_makeL, ↓w_run, ↓w_cut, ↓w_pure, ↓w_drop, nth2_eq, nth3_eq, w_ok, w_ex, w_nx, w_rt, w_bk, w_ct, w_exS, w_some, w_v, w_tr, w_fa, w_tb, w_ti, w_tn, w_L, w_L0, wb_not, cn_f, startD, arr, gN_eq, gTp, gTl, gCn, gNl, Option.bind_some, List.filterMap_cons, List.filterMap_nil, List.map_cons, List.map_nil, List.replicate_succ, List.replicate_zero, List.cons_append, List.nil_append, List.getElem?_cons_zero, List.getElem?_cons_succ, List.set_cons_zero, List.set_cons_succ, List.length_cons, List.length_nil, Nat.reduceAdd, Nat.reduceSub, Nat.reduceLeDiff, Nat.reduceEqDiff, Int.reducePow, Int.reduceToNat, Int.reduceNeg, Int.reduceAdd, Int.reduceMul, Int.reduceSub, Int.reduceLT, Int.reduceLE, Int.reduceEq, Nat.zero_add, Int.zero_add, big_eq, true_and, and_true, and_self, dSub_int, dAdd_int, dAddI_int, dLt_int, dLe_int, dGt_int, dGe_int, dEqD_int, bInt_int, bLen_lst, bLen_tup, bMin_int, bMax_int, bAbs_int, dIs_non, dIs_int, dIs_nn, Bool.not_true, Bool.not_false, decide_true, decide_false, reduceIte, Bool.false_eq_true, if_false, if_true, iSeq_lst, iSeq_tup, iSeq_rdl, iEnu_lst, iEnu_tup]
        exact ⟨_, _, rfl⟩
    · rintro L s' ⟨y2, y3, rfl, rfl⟩
      simp (implicitDefEqProofs := false) only [↓w_srtT, ↓w_par2, ↓w_par3, ↓w_setd, ↓w_dict1, ↓w_maxDf, ↓w_slT, ↓w_addT, ↓w_dictT, ↓w_dictI, ↓w_get, ↓w_lrg1T, ↓w_lrg2T, ↓w_lrg1, ↓w_lrg2, ↓w_pop0, ↓w_lcT, ↓w_mth, ↓w_calm, ↓w_tryM, ↓w_tm0, ↓w_tmN, ↓w_tmS, ↓w_seq, ↓w_next, ↓w_break, ↓w_cont, ↓w_retN, ↓w_asg, ↓w_expr, ↓w_ret, ↓w_if, ↓w_asgG, ↓w_for, ↓w_put, ↓w_aug, ↓w_augS, ↓w_raise0, ↓w_raise1, ↓w_raise2, ↓w_try, ↓w_tryAs, ↓w_var, ↓w_c, ↓w_op, ↓w_chain, ↓w_notV, ↓w_andV, ↓w_orV, ↓w_ifE, ↓w_tst, ↓w_not, ↓w_and, ↓w_or, ↓w_yes, ↓w_nil, ↓w_cons, ↓w_tup, ↓w_lst, ↓w_lstT, ↓w_cb, ↓w_call, ↓w_callK, ↓w_neg, ↓w_no, ↓w_pt, ↓w_sl, ↓w_fld, ↓w_src, ↓w_rng, ↓w_enu, ↓w_listT, ↓w_app, ↓w_lc, ↓w_xf, ↓w_fldT, ↓w_make, ↓w_makeL, ↓w_run, ↓w_cut, ↓w_pure, ↓w_drop, nth2_eq, nth3_eq, w_ok, w_ex, w_nx, w_rt, w_bk, w_ct, w_exS, w_some, w_v, w_tr, w_fa, w_tb, w_ti, w_tn, w_L, w_L0, wb_not, cn_f, startD, arr, gN_eq, gTp, gTl, gCn, gNl, Option.bind_some, List.filterMap_cons, List.filterMap_nil, List.map_cons, List.map_nil, List.replicate_succ, List.replicate_zero, List.cons_append, List.nil_append, List.getElem?_cons_zero, List.getElem?_cons_succ, List.set_cons_zero, List.set_cons_succ, List.length_cons, List.length_nil, Nat.reduceAdd, Nat.reduceSub, Nat.reduceLeDiff, Nat.reduceEqDiff, Int.reducePow, Int.reduceToNat, Int.reduceNeg, Int.reduceAdd, Int.reduceMul, Int.reduceSub, Int.reduceLT, Int.reduceLE, Int.reduceEq, Nat.zero_add, Int.zero_add, big_eq, true_and, and_true, and_self, dSub_int, dAdd_int, dAddI_int, dLt_int, dLe_int, dGt_int, dGe_int, dEqD_int, bInt_int, bLen_lst, bLen_tup, bMin_int, bMax_int, bAbs_int, dIs_non, dIs_int, dIs_nn, Bool.not_true, Bool.not_false, decide_true, decide_false, reduceIte, Bool.false_eq_true, if_false, if_true, iSeq_lst, iSeq_tup, iSeq_rdl, iEnu_lst, iEnu_tup]
      refine ⟨by simp, ?_⟩
      have hg : (s ++ [dtS Y])[s.length]? = some (dtS Y) := by simp
      have hb : D.bels s.length (ixD Y.length) = true := bels_pur fun x hx => by
        obtain ⟨k, _, rfl⟩ := List.mem_map.mp hx
        exact pur_int _
      have : fin2 s.length (s ++ [dtS Y]) (.ref s.length) = some (.dt (Y.map nmK) (ixD Y.length)) := by
        unfold fin2
        dsimp only
        rw [if_neg (Nat.lt_irrefl _), hg]
        dsimp only [dtS]
        unfold finS
        dsimp only
        rw [if_neg (Nat.lt_irrefl _)]
        have hg' : (s ++ [O.dt (Y.map nmK) (ixD Y.length)])[s.length]? = some (O.dt (Y.map nmK) (ixD Y.length)) := by simp
        rw [hg']
        dsimp only
        rw [if_pos hb]
      rw [this]
      exact ⟨rfl, rfl⟩
/-- the row of the hand i -/
def plRow (M : Mc) (Y : List NP) (i : Nat) : Rw := (((pos Y ((yAt Y i).1, (yAt Y i).2.dropLast) : Nat) : Int), ((i : Nat) : Int), TmN M [0] (yAt Y i) - M.letter)
def plO (M : Mc) (Y : List NP) : List Rw := (List.range (Y.length - 1)).map fun k => plRow M Y (k + 1)
theorem plO_mem {Y : List NP} {z : Rw} : z ∈ plO M Y ↔ ∃ i, 0 < i ∧ i < Y.length ∧ z = plRow M Y i := by
  unfold plO
  rw [List.mem_map]
  constructor
  · rintro ⟨k, hk, rfl⟩
    have := List.mem_range.mp hk
    exact ⟨k + 1, by omega, by omega, rfl⟩
  · rintro ⟨i, h0, h1, rfl⟩
    exact ⟨i - 1, List.mem_range.mpr (by omega), by rw [show i - 1 + 1 = i by omega]⟩
theorem TrG.row {Y : List NP} (h : TrG Y) {i : Nat} (h0 : 0 < i) (hi : i < Y.length) : ∃ ms a, Y[i] = (0, ms ++ [a]) ∧ (0, ms) ∈ Y ∧ plRow M Y i = (((pos Y (0, ms) : Nat) : Int), ((i : Nat) : Int), TM M [0] 0 ms + a * M.gap) := by
  obtain ⟨ms, a, e, hm, _⟩ := h.up i hi h0
  refine ⟨ms, a, e, hm, ?_⟩
  unfold plRow
  rw [yAt_eq hi, e]
  unfold TmN
  dsimp only
  rw [List.dropLast_concat, TM_snoc, show TM M [0] 0 ms + M.letter + a * M.gap - M.letter = TM M [0] 0 ms + a * M.gap by omega]
theorem plO_right (hM : M.Ok) {Y : List NP} (h : TrG Y) (ht : ∀ y ∈ Y, TmN M [0] y ≤ 1000000000000000) : PlR M.letter M.gap Y.length (plO M Y) where
  frm z hz := by
    obtain ⟨i, h0, hi, rfl⟩ := plO_mem.mp hz
    obtain ⟨ms, a, e, hm, er⟩ := h.row (M := M) h0 hi
    have g0 := hM.gap0
    have l0 := hM.letter0
    have h1 : 0 ≤ TM M [0] 0 ms := (TM_nonneg hM okR0.mem (by decide) ms).1
    have h2 := ht _ (List.getElem_mem hi)
    have h3 : 0 ≤ (a : Int) * M.gap := Int.mul_nonneg (by omega) (by omega)
    rw [e] at h2
    unfold TmN at h2
    dsimp only at h2
    rw [TM_snoc] at h2
    rw [er]
    unfold Tm
    dsimp only
    omega
  hnd z hz := by
    obtain ⟨i, h0, hi, rfl⟩ := plO_mem.mp hz
    obtain ⟨ms, a, e, hm, er⟩ := h.row (M := M) h0 hi
    have hp := pos_lt hm
    have hpa := pos_at hm
    rw [er]
    refine ⟨by dsimp only; omega, by dsimp only; omega, by dsimp only; omega, by dsimp only; omega, fun h1 => ?_⟩
    have h1 : pos Y (0, ms) = i := by
      dsimp only at h1
      omega
    simp only [h1, e] at hpa
    have := congrArg List.length (Prod.mk.inj hpa).2
    simp at this
  nd := by
    unfold rcs plO List.Nodup
    rw [List.map_map, List.pairwise_map]
    refine List.Pairwise.imp (fun {a b} hab e => ?_) List.pairwise_lt_range
    have e : ((a + 1 : Nat) : Int) = ((b + 1 : Nat) : Int) := e
    omega
  cov x h0 h1 := by
    refine List.mem_map.mpr ⟨plRow M Y x.toNat, plO_mem.mpr ⟨x.toNat, by omega, by omega, rfl⟩, ?_⟩
    show ((x.toNat : Nat) : Int) = x
    omega
  ear z hz y hy e := by
    obtain ⟨i, h0, hi, rfl⟩ := plO_mem.mp hz
    obtain ⟨j, h0', hj, rfl⟩ := plO_mem.mp hy
    obtain ⟨ms, a, ei, hm, er⟩ := h.row (M := M) h0 hi
    have g0 := hM.gap0
    have h3 : 0 ≤ (a : Int) * M.gap := Int.mul_nonneg (by omega) (by omega)
    rw [er] at e ⊢
    have e : ((j : Nat) : Int) = ((pos Y (0, ms) : Nat) : Int) := e
    have ej : j = pos Y (0, ms) := by omega
    have hyj : yAt Y j = (0, ms) := by
      rw [yAt_eq hj]
      simp only [ej]
      exact pos_at hm
    show TmN M [0] (yAt Y j) - M.letter + M.letter ≤ _
    rw [hyj]
    unfold TmN
    dsimp only
    omega
  gap := by
    unfold Gp plO
    rw [List.pairwise_map]
    refine List.Pairwise.imp_of_mem (fun {x y} hx hy hxy e => ?_) List.pairwise_lt_range
    have hx := List.mem_range.mp hx
    have hy := List.mem_range.mp hy
    obtain ⟨ms, a, ei, hm, er⟩ := h.row (M := M) (i := x + 1) (by omega) (by omega)
    obtain ⟨ms', a', ei', hm', er'⟩ := h.row (M := M) (i := y + 1) (by omega) (by omega)
    rw [er, er'] at e ⊢
    have e : ((pos Y (0, ms) : Nat) : Int) = ((pos Y (0, ms') : Nat) : Int) := e
    have e2 : pos Y (0, ms) = pos Y (0, ms') := by omega
    have e3 : ms = ms' := by
      have p1 := pos_at hm
      have p2 := pos_at hm'
      simp only [e2] at p1
      rw [p1] at p2
      exact (Prod.mk.inj p2).2
    subst e3
    have hne : a ≠ a' := fun e4 => by
      subst e4
      have := (List.getElem_inj h.nd).mp (ei.trans ei'.symm)
      omega
    have g0 := hM.gap0
    dsimp only
    rcases Nat.lt_or_ge a a' with h4 | h4
    · have : ((a : Int) + 1) * M.gap ≤ a' * M.gap := Int.mul_le_mul_of_nonneg_right (by omega) (by omega)
      rw [Int.add_mul] at this
      omega
    · have : ((a' : Int) + 1) * M.gap ≤ a * M.gap := Int.mul_le_mul_of_nonneg_right (by omega) (by omega)
      rw [Int.add_mul] at this
      omega
/-- the first names are a tree -/
theorem first_in (hM : M.Ok) (ht : OkT t) {Y : List NP} (hY : ∀ (k : Nat) (hk : k < Y.length), NmAt M t [0] k Y[k].1 Y[k].2) {i : Nat} (hi : i < Y.length) {z : NP} (hz : OkN t 1 z.1 z.2) (hl : TmN M [0] z < TmN M [0] Y[i]) : z ∈ Y := by
  have h1 := hY i hi
  have vz : VN M t [0] z.1 z.2 := Pg.OkN.vn hz
  have vi : VN M t [0] Y[i].1 Y[i].2 := Pg.OkN.vn h1.ok
  have h2 := PL_ord hM ht okR0.mem vz vi (.time hl)
  rw [h1.pl] at h2
  have h3 := PL_nonneg (t := t) hM [0] z.1 z.2
  obtain ⟨k, hk⟩ : ∃ k : Nat, PL M t [0] z.1 z.2 = k := ⟨(PL M t [0] z.1 z.2).toNat, by omega⟩
  have hk' : k < Y.length := by omega
  have h4 := hY k hk'
  obtain ⟨e1, e2⟩ := NmAt.uniq hM ht okR0 (x := k) ⟨hz, Int.le_trans (Int.le_of_lt hl) h1.hor, hk⟩ h4
  rw [show z = Y[k] from Prod.ext e1 e2]
  exact List.getElem_mem hk'
theorem first_tr (hM : M.Ok) (ht : OkT t) {Y : List NP} (l0 : 0 < Y.length) (l1 : Y.length ≤ 100) (hY : ∀ (k : Nat) (hk : k < Y.length), NmAt M t [0] k Y[k].1 Y[k].2) : TrG Y := by
  have nd : Y.Nodup := by
    unfold List.Nodup
    rw [List.pairwise_iff_getElem]
    intro i j hi hj hij e
    have h1 := (hY i hi).pl
    have h2 := (hY j hj).pl
    rw [e, h2] at h1
    omega
  have r0 : ∀ i (hi : i < Y.length), Y[i].1 = 0 := fun i hi => by
    have := (hY i hi).ok.r
    simp at this
    exact this
  have y0 : ∀ i (hi : i < Y.length), i = 0 → Y[i] = (0, []) := fun i hi e => by
    subst e
    refine Prod.ext (r0 0 hi) ?_
    have hv : Vn M t [0] Y[0] := Pg.OkN.vn (hY 0 hi).ok
    rcases pred_of hv with h | ⟨y, hy, hk⟩
    · exact h
    · have h1 := kids_pp hM ht okR0 hy hk
      have h2 : 0 ≤ PP M t [0] y := PL_nonneg hM ..
      have h3 := (hY 0 hi).pl
      unfold PP at h1 h2
      omega
  refine ⟨fun y hy => ?_, nd, l0, l1, y0, fun i hi h0 => ?_⟩
  · obtain ⟨i, hi, rfl⟩ := List.getElem_of_mem hy
    have h1 := (hY i hi).ok
    exact ⟨h1.r, h1.l, fun n hn => Int.le_trans (h1.m n hn) (lastN_le t)⟩
  · rcases last_cases Y[i].2 with h | ⟨ms, a, h⟩
    · have e : Y[i] = Y[0] := by
        rw [y0 0 l0 rfl]
        exact Prod.ext (r0 i hi) h
      have := (List.getElem_inj nd).mp e
      omega
    · have e : Y[i] = (0, ms ++ [a]) := Prod.ext (r0 i hi) h
      have hok := (hY i hi).ok
      rw [e] at hok
      have l0 := hM.letter0
      have g0 := hM.gap0
      have h3 : 0 ≤ (a : Int) * M.gap := Int.mul_nonneg (by omega) (by omega)
      have ho := okn_snoc hok
      refine ⟨ms, a, e, first_in hM ht hY hi ho.1 ?_, fun a' ea => first_in hM ht hY hi (z := (0, ms ++ [a'])) ?_ ?_⟩
      · rw [e]
        unfold TmN
        dsimp only
        rw [TM_snoc]
        omega
      · refine okn_mk ho.1 ?_ ?_
        · have := hok.l
          rw [List.length_append, List.length_singleton] at this
          omega
        · have := ho.2
          omega
      · rw [e, ea]
        unfold TmN
        dsimp only
        rw [TM_snoc, TM_snoc, Int.natCast_add, Int.add_mul]
        omega
theorem plan_of_ok (hM : M.Ok) {Y : List NP} (h : TrG Y) (s : S) : G_plan_of c [M.d c, .lst (Y.map nmP)] s = .ok (.lst ((plO M Y).map rwT)) s := by
  have l0 := h.l0
  have l1 := h.l1
  have len : ∀ s, bLen s [.lst (Y.map nmP)] = some (.int Y.length) := fun s => by
    show some (D.int _) = _
    rw [List.length_map]
  have ix : ∀ (i : Nat) (hi : i < Y.length) s, dIx s (.lst (Y.map nmP)) (.int i) = some (nmP Y[i]) := fun i hi s => by
    show L2.atI (Y.map nmP) i = _
    exact atI_map (List.getElem?_eq_getElem hi)
  have st : ∀ y ∈ Y, ∀ s, G_start_of c [M.d c, nmP y] s = .ok (.int (TmN M [0] y - M.letter)) s := fun y hy s => by
    have e := timeof_ok (c := c) hM (rs := [0]) (h.ok y hy) rtd0 s
    apply eq_ok
    unfold G_start_of
    have e' : G_time_of c [M.d c, nmP y, .tup [.int 0]] s = .ok (.int (TM M [0] y.1 y.2)) s := e
    simp (implicitDefEqProofs := false) only [e', fld_letter, ↓w_srtT, ↓w_par2, ↓w_par3, ↓w_setd, ↓w_dict1, ↓w_maxDf, ↓w_slT, ↓w_addT, ↓w_dictT, ↓w_dictI, ↓w_get, ↓w_lrg1T, ↓w_lrg2T, ↓w_lrg1, ↓w_lrg2, ↓w_pop0, ↓w_lcT, ↓w_mth, ↓w_calm, ↓w_tryM, ↓w_tm0, ↓w_tmN, ↓w_tmS, ↓w_seq, ↓w_next, ↓w_break, ↓w_cont, ↓w_retN, ↓w_asg, ↓w_expr, ↓w_ret, ↓w_if, ↓w_asgG, ↓w_for, ↓w_put, ↓w_aug, ↓w_augS, ↓w_raise0, ↓w_raise1, ↓w_raise2, ↓w_try, ↓w_tryAs, ↓w_var, ↓w_c, ↓w_op, ↓w_chain, ↓w_notV, ↓w_andV, ↓w_orV, ↓w_ifE, ↓w_tst, ↓w_not, ↓w_and, ↓w_or, ↓w_yes, ↓w_nil, ↓w_cons, ↓w_tup, ↓w_lst, ↓w_lstT, ↓w_cb, ↓w_call, ↓w_callK, ↓w_neg, ↓w_no, ↓w_pt, ↓w_sl, ↓w_fld, ↓w_src, ↓w_rng, ↓w_enu, ↓w_listT, ↓w_app, ↓w_lc, ↓w_xf, ↓w_fldT, ↓w_make, ↓w_makeL, ↓w_run, ↓w_cut, ↓w_pure, ↓w_drop, nth2_eq, nth3_eq, w_ok, w_ex, w_nx, w_rt, w_bk, w_ct, w_exS, w_some, w_v, w_tr, w_fa, w_tb, w_ti, w_tn, w_L, w_L0, wb_not, cn_f, startD, arr, gN_eq, gTp, gTl, gCn, gNl, Option.bind_some, List.filterMap_cons, List.filterMap_nil, List.map_cons, List.map_nil, List.replicate_succ, List.replicate_zero, List.cons_append, List.nil_append, List.getElem?_cons_zero, List.getElem?_cons_succ, List.set_cons_zero, List.set_cons_succ, List.length_cons, List.length_nil, Nat.reduceAdd, Nat.reduceSub, Nat.reduceLeDiff, Nat.reduceEqDiff, Int.reducePow, Int.reduceToNat, Int.reduceNeg, Int.reduceAdd, Int.reduceMul, Int.reduceSub, Int.reduceLT, Int.reduceLE, Int.reduceEq, Nat.zero_add, Int.zero_add, big_eq, true_and, and_true, and_self, dSub_int, dAdd_int, dAddI_int, dLt_int, dLe_int, dGt_int, dGe_int, dEqD_int, bInt_int, bLen_lst, bLen_tup, bMin_int, bMax_int, bAbs_int, dIs_non, dIs_int, dIs_nn, Bool.not_true, Bool.not_false, decide_true, decide_false, reduceIte, Bool.false_eq_true, if_false, if_true, iSeq_lst, iSeq_tup, iSeq_rdl, iEnu_lst, iEnu_tup]
    rfl
  apply eq_ok
  unfold G_plan_of
  simp (implicitDefEqProofs := false) only [cnames_ok h, len, ↓w_srtT, ↓w_par2, ↓w_par3, ↓w_setd, ↓w_dict1, ↓w_maxDf, ↓w_slT, ↓w_addT, ↓w_dictT, ↓w_dictI, ↓w_get, ↓w_lrg1T, ↓w_lrg2T, ↓w_lrg1, ↓w_lrg2, ↓w_pop0, ↓w_lcT, ↓w_mth, ↓w_calm, ↓w_tryM, ↓w_tm0, ↓w_tmN, ↓w_tmS, ↓w_seq, ↓w_next, ↓w_break, ↓w_cont, ↓w_retN, ↓w_asg, ↓w_expr, ↓w_ret, ↓w_if, ↓w_asgG, ↓w_for, ↓w_put, ↓w_aug, ↓w_augS, ↓w_raise0, ↓w_raise1, ↓w_raise2, ↓w_try, ↓w_tryAs, ↓w_var, ↓w_c, ↓w_op, ↓w_chain, ↓w_notV, ↓w_andV, ↓w_orV, ↓w_ifE, ↓w_tst, ↓w_not, ↓w_and, ↓w_or, ↓w_yes, ↓w_nil, ↓w_cons, ↓w_tup, ↓w_lst, ↓w_lstT, ↓w_cb, ↓w_call, ↓w_callK, ↓w_neg, ↓w_no, ↓w_pt, ↓w_sl, ↓w_fld, ↓w_src, ↓w_rng, ↓w_enu, ↓w_listT, ↓w_app, ↓w_lc, ↓w_xf, ↓w_fldT, ↓w_make, ↓w_makeL, ↓w_run, ↓w_cut, ↓w_pure, ↓w_drop, nth2_eq, nth3_eq, w_ok, w_ex, w_nx, w_rt, w_bk, w_ct, w_exS, w_some, w_v, w_tr, w_fa, w_tb, w_ti, w_tn, w_L, w_L0, wb_not, cn_f, startD, arr, gN_eq, gTp, gTl, gCn, gNl, Option.bind_some, List.filterMap_cons, List.filterMap_nil, List.map_cons, List.map_nil, List.replicate_succ, List.replicate_zero, List.cons_append, List.nil_append, List.getElem?_cons_zero, List.getElem?_cons_succ, List.set_cons_zero, List.set_cons_succ, List.length_cons, List.length_nil, Nat.reduceAdd, Nat.reduceSub, Nat.reduceLeDiff, Nat.reduceEqDiff, Int.reducePow, Int.reduceToNat, Int.reduceNeg, Int.reduceAdd, Int.reduceMul, Int.reduceSub, Int.reduceLT, Int.reduceLE, Int.reduceEq, Nat.zero_add, Int.zero_add, big_eq, true_and, and_true, and_self, dSub_int, dAdd_int, dAddI_int, dLt_int, dLe_int, dGt_int, dGe_int, dEqD_int, bInt_int, bLen_lst, bLen_tup, bMin_int, bMax_int, bAbs_int, dIs_non, dIs_int, dIs_nn, Bool.not_true, Bool.not_false, decide_true, decide_false, reduceIte, Bool.false_eq_true, if_false, if_true, iSeq_lst, iSeq_tup, iSeq_rdl, iEnu_lst, iEnu_tup]
  rw [rng2 (by omega) (by omega) (by omega) (by omega), w_some]
  refine ws_rng (fun k L s' => ∃ y4, L = [some (M.d c), some (.lst (Y.map nmP)), some (.dt (Y.map nmK) (ixD Y.length)), some (.ref s.length), y4] ∧ s' = s ++ [.lst (((List.range k).map fun j => plRow M Y (j + 1)).map rwT)]) ⟨_, rfl, rfl⟩ ?_ ?_
  · rintro k L s' hk ⟨y4, rfl, rfl⟩
    have hi : k + 1 < Y.length := by omega
    obtain ⟨ms, a, e, hm, er⟩ := h.row (M := M) (Nat.succ_pos k) hi
    have hmi : Y[k + 1] ∈ Y := List.getElem_mem hi
    rw [show (1 : Int) + (k : Int) = ((k + 1 : Nat) : Int) by omega]
    have l2 : ∀ s, dSl s (nmP (0, ms ++ [a])) none (some (-1)) = some (nmP (0, ms)) := nm_cutl 0 ms a
    have e1 : ∀ s, dIxT s (.dt (Y.map nmK) (ixD Y.length)) (nmP (0, ms)) = some (.int (pos Y (0, ms))) := fun s => ix_dt rfl hm
    have e2 := ix (k + 1) hi
    have e3 := st _ hmi
    have er' : rwT (plRow M Y (k + 1)) = .tup [.int (pos Y (0, ms)), .int ((k + 1 : Nat) : Int), .int (TmN M [0] Y[k + 1] - M.letter)] := by
      have h1 : (plRow M Y (k + 1)).2.2 = TmN M [0] Y[k + 1] - M.letter := by
        unfold plRow
        rw [yAt_eq hi]
      have h2 : (plRow M Y (k + 1)).1 = (pos Y (0, ms) : Nat) := by rw [er]
      have h3 : (plRow M Y (k + 1)).2.1 = ((k + 1 : Nat) : Int) := by rw [er]
      unfold rwT
      rw [h1, h2, h3]
    rw [e] at e2 e3 er'
    have ap : appOf s.length (rwT (plRow M Y (k + 1))) (s ++ [.lst (((List.range k).map fun j => plRow M Y (j + 1)).map rwT)]) = some (s ++ [.lst (((List.range (k + 1)).map fun j => plRow M Y (j + 1)).map rwT)]) := by
      rw [app_get (m := s.length) (xs := ((List.range k).map fun j => plRow M Y (j + 1)).map rwT) (by simp) (by simp; omega), List.range_succ]
      simp
    rw [er'] at ap
    have hl : isLst s.length (s ++ [.lst (((List.range k).map fun j => plRow M Y (j + 1)).map rwT)]) = true := isl_get (xs := ((List.range k).map fun j => plRow M Y (j + 1)).map rwT) (by simp)
    simp (implicitDefEqProofs := false) only [e2, l2, e1, e3, hl, ap, ↓w_srtT, ↓w_par2, ↓w_par3, ↓w_setd, ↓w_dict1, ↓w_maxDf, ↓w_slT, ↓w_addT, ↓w_dictT, ↓w_dictI, ↓w_get, ↓w_lrg1T, ↓w_lrg2T, ↓w_lrg1, ↓w_lrg2, ↓w_pop0, ↓w_lcT, ↓w_mth, ↓w_calm, ↓w_tryM, ↓w_tm0, ↓w_tmN, ↓w_tmS, ↓w_seq, ↓w_next, ↓w_break, ↓w_cont, ↓w_retN, ↓w_asg, ↓w_expr, ↓w_ret, ↓w_if, ↓w_asgG, ↓w_for, ↓w_put, ↓w_aug, ↓w_augS, ↓w_raise0, ↓w_raise1, ↓w_raise2, ↓w_try, ↓w_tryAs, ↓w_var, ↓w_c, ↓w_op, ↓w_chain, ↓w_notV, ↓w_andV, ↓w_orV, ↓w_ifE, ↓w_tst, ↓w_not, ↓w_and, ↓w_or, ↓w_yes, ↓w_nil, ↓w_cons, ↓w_tup, ↓w_lst, ↓w_lstT, ↓w_cb, ↓w_call, ↓w_callK, ↓w_neg, ↓w_no, ↓w_pt, ↓w_sl, ↓w_fld, ↓w_src, ↓w_rng, ↓w_enu, ↓w_listT, ↓w_app, ↓w_lc, ↓w_xf, ↓w_fldT, ↓w_make, ↓w_makeL, ↓w_run, ↓w_cut, ↓w_pure, ↓w_drop, nth2_eq, nth3_eq, w_ok, w_ex, w_nx, w_rt, w_bk, w_ct, w_exS, w_some, w_v, w_tr, w_fa, w_tb, w_ti, w_tn, w_L, w_L0, wb_not, cn_f, startD, arr, gN_eq, gTp, gTl, gCn, gNl, Option.bind_some, List.filterMap_cons, List.filterMap_nil, List.map_cons, List.map_nil, List.replicate_succ, List.replicate_zero, List.cons_append, List.nil_append, List.getElem?_cons_zero, List.getElem?_cons_succ, List.set_cons_zero, List.set_cons_succ, List.length_cons, List.length_nil, Nat.reduceAdd, Nat.reduceSub, Nat.reduceLeDiff, Nat.reduceEqDiff, Int.reducePow, Int.reduceToNat, Int.reduceNeg, Int.reduceAdd, Int.reduceMul, Int.reduceSub, Int.reduceLT, Int.reduceLE, Int.reduceEq, Nat.zero_add, Int.zero_add, big_eq, true_and, and_true, and_self, dSub_int, dAdd_int, dAddI_int, dLt_int, dLe_int, dGt_int, dGe_int, dEqD_int, bInt_int, bLen_lst, bLen_tup, bMin_int, bMax_int, bAbs_int, dIs_non, dIs_int, dIs_nn, Bool.not_true, Bool.not_false, decide_true, decide_false, reduceIte, Bool.false_eq_true, if_false, if_true, iSeq_lst, iSeq_tup, iSeq_rdl, iEnu_lst, iEnu_tup]
    exact ⟨_, rfl⟩
  · rintro L s' ⟨y4, rfl, rfl⟩
    simp (implicitDefEqProofs := false) only [↓w_srtT, ↓w_par2, ↓w_par3, ↓w_setd, ↓w_dict1, ↓w_maxDf, ↓w_slT, ↓w_addT, ↓w_dictT, ↓w_dictI, ↓w_get, ↓w_lrg1T, ↓w_lrg2T, ↓w_lrg1, ↓w_lrg2, ↓w_pop0, ↓w_lcT, ↓w_mth, ↓w_calm, ↓w_tryM, ↓w_tm0, ↓w_tmN, ↓w_tmS, ↓w_seq, ↓w_next, ↓w_break, ↓w_cont, ↓w_retN, ↓w_asg, ↓w_expr, ↓w_ret, ↓w_if, ↓w_asgG, ↓w_for, ↓w_put, ↓w_aug, ↓w_augS, ↓w_raise0, ↓w_raise1, ↓w_raise2, ↓w_try, ↓w_tryAs, ↓w_var, ↓w_c, ↓w_op, ↓w_chain, ↓w_notV, ↓w_andV, ↓w_orV, ↓w_ifE, ↓w_tst, ↓w_not, ↓w_and, ↓w_or, ↓w_yes, ↓w_nil, ↓w_cons, ↓w_tup, ↓w_lst, ↓w_lstT, ↓w_cb, ↓w_call, ↓w_callK, ↓w_neg, ↓w_no, ↓w_pt, ↓w_sl, ↓w_fld, ↓w_src, ↓w_rng, ↓w_enu, ↓w_listT, ↓w_app, ↓w_lc, ↓w_xf, ↓w_fldT, ↓w_make, ↓w_makeL, ↓w_run, ↓w_cut, ↓w_pure, ↓w_drop, nth2_eq, nth3_eq, w_ok, w_ex, w_nx, w_rt, w_bk, w_ct, w_exS, w_some, w_v, w_tr, w_fa, w_tb, w_ti, w_tn, w_L, w_L0, wb_not, cn_f, startD, arr, gN_eq, gTp, gTl, gCn, gNl, Option.bind_some, List.filterMap_cons, List.filterMap_nil, List.map_cons, List.map_nil, List.replicate_succ, List.replicate_zero, List.cons_append, List.nil_append, List.getElem?_cons_zero, List.getElem?_cons_succ, List.set_cons_zero, List.set_cons_succ, List.length_cons, List.length_nil, Nat.reduceAdd, Nat.reduceSub, Nat.reduceLeDiff, Nat.reduceEqDiff, Int.reducePow, Int.reduceToNat, Int.reduceNeg, Int.reduceAdd, Int.reduceMul, Int.reduceSub, Int.reduceLT, Int.reduceLE, Int.reduceEq, Nat.zero_add, Int.zero_add, big_eq, true_and, and_true, and_self, dSub_int, dAdd_int, dAddI_int, dLt_int, dLe_int, dGt_int, dGe_int, dEqD_int, bInt_int, bLen_lst, bLen_tup, bMin_int, bMax_int, bAbs_int, dIs_non, dIs_int, dIs_nn, Bool.not_true, Bool.not_false, decide_true, decide_false, reduceIte, Bool.false_eq_true, if_false, if_true, iSeq_lst, iSeq_tup, iSeq_rdl, iEnu_lst, iEnu_tup]
    refine ⟨by simp, ?_⟩
    rw [fin2_ref (Nat.le_refl _) (xs := (plO M Y).map rwT) (by simp [plO, show ((Y.length : Int) - 1).toNat = Y.length - 1 by omega]) (fun x hx => by
      obtain ⟨z, _, rfl⟩ := List.mem_map.mp hx
      exact rwT_pur z)]
    exact ⟨rfl, rfl⟩
/-- the best plan -/
theorem best_ok (hM : M.Ok) (ht : OkT t) {n : Nat} (n0 : 1 ≤ n) (n1 : n ≤ 100) (h : (n : Int) ≤ FRs M t (hor M t) [0]) (s : S) : ∃ Y : List NP, Y.length = n ∧ (∀ (k : Nat) (hk : k < Y.length), NmAt M t [0] k Y[k].1 Y[k].2) ∧ TrG Y ∧ PlR M.letter M.gap n (plO M Y) ∧ G_best_plan c [M.d c, .int n, tD t] s = .ok (.lst ((plO M Y).map rwT)) s := by
  obtain ⟨Y, h1, h2, e⟩ := names_ok (c := c) hM ht okR0 rtd0 n0 n1 h s
  have hT := first_tr hM ht (by omega) (by omega) h2
  have hh := hor_le hM t
  have l1 := hM.letter1
  have hP := plO_right hM hT fun y hy => by
    obtain ⟨i, hi, rfl⟩ := List.getElem_of_mem hy
    have := (h2 i hi).hor
    unfold TmN
    omega
  rw [h1] at hP
  refine ⟨Y, h1, h2, hT, hP, ?_⟩
  apply eq_ok
  unfold G_best_plan
  simp (implicitDefEqProofs := false) only [turns_ok ht, count_ok (show (1 : Int) ≤ n by omega) (show (n : Int) ≤ 100 by omega), arr, e, plan_of_ok hM hT, ↓w_srtT, ↓w_par2, ↓w_par3, ↓w_setd, ↓w_dict1, ↓w_maxDf, ↓w_slT, ↓w_addT, ↓w_dictT, ↓w_dictI, ↓w_get, ↓w_lrg1T, ↓w_lrg2T, ↓w_lrg1, ↓w_lrg2, ↓w_pop0, ↓w_lcT, ↓w_mth, ↓w_calm, ↓w_tryM, ↓w_tm0, ↓w_tmN, ↓w_tmS, ↓w_seq, ↓w_next, ↓w_break, ↓w_cont, ↓w_retN, ↓w_asg, ↓w_expr, ↓w_ret, ↓w_if, ↓w_asgG, ↓w_for, ↓w_put, ↓w_aug, ↓w_augS, ↓w_raise0, ↓w_raise1, ↓w_raise2, ↓w_try, ↓w_tryAs, ↓w_var, ↓w_c, ↓w_op, ↓w_chain, ↓w_notV, ↓w_andV, ↓w_orV, ↓w_ifE, ↓w_tst, ↓w_not, ↓w_and, ↓w_or, ↓w_yes, ↓w_nil, ↓w_cons, ↓w_tup, ↓w_lst, ↓w_lstT, ↓w_cb, ↓w_call, ↓w_callK, ↓w_neg, ↓w_no, ↓w_pt, ↓w_sl, ↓w_fld, ↓w_src, ↓w_rng, ↓w_enu, ↓w_listT, ↓w_app, ↓w_lc, ↓w_xf, ↓w_fldT, ↓w_make, ↓w_makeL, ↓w_run, ↓w_cut, ↓w_pure, ↓w_drop, nth2_eq, nth3_eq, w_ok, w_ex, w_nx, w_rt, w_bk, w_ct, w_exS, w_some, w_v, w_tr, w_fa, w_tb, w_ti, w_tn, w_L, w_L0, wb_not, cn_f, startD, arr, gN_eq, gTp, gTl, gCn, gNl, Option.bind_some, List.filterMap_cons, List.filterMap_nil, List.map_cons, List.map_nil, List.replicate_succ, List.replicate_zero, List.cons_append, List.nil_append, List.getElem?_cons_zero, List.getElem?_cons_succ, List.set_cons_zero, List.set_cons_succ, List.length_cons, List.length_nil, Nat.reduceAdd, Nat.reduceSub, Nat.reduceLeDiff, Nat.reduceEqDiff, Int.reducePow, Int.reduceToNat, Int.reduceNeg, Int.reduceAdd, Int.reduceMul, Int.reduceSub, Int.reduceLT, Int.reduceLE, Int.reduceEq, Nat.zero_add, Int.zero_add, big_eq, true_and, and_true, and_self, dSub_int, dAdd_int, dAddI_int, dLt_int, dLe_int, dGt_int, dGe_int, dEqD_int, bInt_int, bLen_lst, bLen_tup, bMin_int, bMax_int, bAbs_int, dIs_non, dIs_int, dIs_nn, Bool.not_true, Bool.not_false, decide_true, decide_false, reduceIte, Bool.false_eq_true, if_false, if_true, iSeq_lst, iSeq_tup, iSeq_rdl, iEnu_lst, iEnu_tup]
end Pg

/-! a law's own clauses of plans and gathers: nothing is found in a right one -/
namespace Pg
open PySem L2 SI Mt
--TAKE
--END TAKE
variable {c : Cl} {M : Mc} {zs : List Rw} {s : S} {sq : D} {rr : Option (Nat × List D)}
--DUE
end Pg

/-! mirrors: when they begin and end; the same rows, tracked -/
namespace Pg
open PySem L2 SI Mt
variable {c : Cl} {M : Mc} {zs : List Rw} {l L m : Int}
def sts (zs : List Rw) : List Int := zs.map fun z => z.2.2
/-- the least start, or the end where there is none -/
structure Lo (l : Int) (zs : List Rw) (m : Int) : Prop where
  eq : lsI ((l + endP 0 zs) :: sts zs) = some m
  le : ∀ z ∈ zs, m ≤ z.2.2
  mem : zs ≠ [] → ∃ z ∈ zs, z.2.2 = m
  m0 : 0 ≤ m
end Pg

/-! a law's own times at which the hands of the growing tree know -/
namespace Pg
open PySem L2 SI Mt
variable {c : Cl} {M : Mc}
theorem ixI_mem {k : Int} : ∀ {ns : List Int}, k ∈ ns → ∃ j, ixI k ns = some j
  | [], h => by cases h
  | n :: ns, h => by
    unfold ixI
    by_cases e : n = k
    · exact ⟨0, by rw [if_pos e]⟩
    · obtain ⟨j, hj⟩ := ixI_mem ((List.mem_cons.mp h).resolve_left fun e2 => e e2.symm)
      exact ⟨j + 1, by rw [if_neg e, hj]; rfl⟩
section
variable {n : Int} {zs : List Rw} {s : S} {sq : D} {rr : Option (Nat × List D)}
end
end Pg

/-! letters_plan -/
namespace Pg
open PySem L2 SI Mt
variable {c : Cl} {M : Mc}
abbrev Lw4 := Int × Int × Int × Int
end Pg

/-! faults of letters plans: form, numbers, telling -/
namespace Pg
open PySem L2 SI Mt
variable {c : Cl} {M : Mc}
def r4 (zs : List Lw4) (i : Nat) : Lw4 := zs.getD i (0, 0, 0, 0)
end Pg

/-! faults of letters plans: telling -/
namespace Pg
open PySem L2 SI Mt
variable {c : Cl} {M : Mc}
theorem key2 (a b : Int) : keyT (.tup [.int a, .int b]) = some [a, b] := rfl
section
variable {s : S} {d : D} {ks : List (List Int)} {vs : List D}
end
end Pg

/-! law k80: the search, with its table -/
namespace Lw
open PySem L2 SI Pg Mt
variable {c : Cl} {M : Mc} {n : Nat} {T : Int}
theorem eDraw : G__law_draw c = drawG := rfl
theorem eSrc : G__law_source c = srcG := rfl
theorem eIs : G__law_is c = isG c := rfl
def mD (M : Mc) : D := .tup [.int M.o, .int M.l, .int M.g]
/-- the machines that the law draws -/
structure SmM (M : Mc) : Prop where
  ok : M.Ok
  o3 : M.o ≤ 3
  l4 : M.l ≤ 4
  g6 : M.g ≤ 6
theorem small_wp {v : SrcV} {n : Nat} {r : S} {Q : Cn (D → S → Prop)} {E : Cn (Addr → List Str → List D → S → Prop)} (ok : v.Ok n) (hn : n + 3 < 2 ^ 60) (h : ∀ (M : Mc) (v' : SrcV), SmM M → v'.Ok (n + 3) → Q (mD M) (v'.o :: r)) : @WR _ (G__law_small c [.ref 0] (v.o :: r)) Q E := by
  unfold G__law_small
  simp (implicitDefEqProofs := false) only [eDraw, ↓w_srtT, ↓w_par2, ↓w_par3, ↓w_setd, ↓w_dict1, ↓w_maxDf, ↓w_slT, ↓w_addT, ↓w_dictT, ↓w_dictI, ↓w_get, ↓w_lrg1T, ↓w_lrg2T, ↓w_lrg1, ↓w_lrg2, ↓w_pop0, ↓w_lcT, ↓w_mth, ↓w_calm, ↓w_tryM, ↓w_tm0, ↓w_tmN, ↓w_tmS, ↓w_seq, ↓w_next, ↓w_break, ↓w_cont, ↓w_retN, ↓w_asg, ↓w_expr, ↓w_ret, ↓w_if, ↓w_asgG, ↓w_for, ↓w_put, ↓w_aug, ↓w_augS, ↓w_raise0, ↓w_raise1, ↓w_raise2, ↓w_try, ↓w_tryAs, ↓w_var, ↓w_c, ↓w_op, ↓w_chain, ↓w_notV, ↓w_andV, ↓w_orV, ↓w_ifE, ↓w_tst, ↓w_not, ↓w_and, ↓w_or, ↓w_yes, ↓w_nil, ↓w_cons, ↓w_tup, ↓w_lst, ↓w_lstT, ↓w_cb, ↓w_call, ↓w_callK, ↓w_neg, ↓w_no, ↓w_pt, ↓w_sl, ↓w_fld, ↓w_src, ↓w_rng, ↓w_enu, ↓w_listT, ↓w_app, ↓w_lc, ↓w_xf, ↓w_fldT, ↓w_make, ↓w_makeL, ↓w_run, ↓w_cut, ↓w_pure, ↓w_drop, nth2_eq, nth3_eq, w_ok, w_ex, w_nx, w_rt, w_bk, w_ct, w_exS, w_some, w_v, w_tr, w_fa, w_tb, w_ti, w_tn, w_L, w_L0, wb_not, cn_f, startD, arr, gN_eq, gTp, gTl, gCn, gNl, Option.bind_some, List.filterMap_cons, List.filterMap_nil, List.map_cons, List.map_nil, List.replicate_succ, List.replicate_zero, List.cons_append, List.nil_append, List.getElem?_cons_zero, List.getElem?_cons_succ, List.set_cons_zero, List.set_cons_succ, List.length_cons, List.length_nil, Nat.reduceAdd, Nat.reduceSub, Nat.reduceLeDiff, Nat.reduceEqDiff, Int.reducePow, Int.reduceToNat, Int.reduceNeg, Int.reduceAdd, Int.reduceMul, Int.reduceSub, Int.reduceLT, Int.reduceLE, Int.reduceEq, Nat.zero_add, Int.zero_add, big_eq, true_and, and_true, and_self, dSub_int, dAdd_int, dAddI_int, dLt_int, dLe_int, dGt_int, dGe_int, dEqD_int, bInt_int, bLen_lst, bLen_tup, bMin_int, bMax_int, bAbs_int, dIs_non, dIs_int, dIs_nn, Bool.not_true, Bool.not_false, decide_true, decide_false, reduceIte, Bool.false_eq_true, if_false, if_true, iSeq_lst, iSeq_tup, iSeq_rdl, iEnu_lst, iEnu_tup]
  refine draw_wp ok (by omega) (by decide) (by decide +kernel) fun o v1 o0 o1 ok1 => ?_
  simp (implicitDefEqProofs := false) only [eDraw, ↓w_srtT, ↓w_par2, ↓w_par3, ↓w_setd, ↓w_dict1, ↓w_maxDf, ↓w_slT, ↓w_addT, ↓w_dictT, ↓w_dictI, ↓w_get, ↓w_lrg1T, ↓w_lrg2T, ↓w_lrg1, ↓w_lrg2, ↓w_pop0, ↓w_lcT, ↓w_mth, ↓w_calm, ↓w_tryM, ↓w_tm0, ↓w_tmN, ↓w_tmS, ↓w_seq, ↓w_next, ↓w_break, ↓w_cont, ↓w_retN, ↓w_asg, ↓w_expr, ↓w_ret, ↓w_if, ↓w_asgG, ↓w_for, ↓w_put, ↓w_aug, ↓w_augS, ↓w_raise0, ↓w_raise1, ↓w_raise2, ↓w_try, ↓w_tryAs, ↓w_var, ↓w_c, ↓w_op, ↓w_chain, ↓w_notV, ↓w_andV, ↓w_orV, ↓w_ifE, ↓w_tst, ↓w_not, ↓w_and, ↓w_or, ↓w_yes, ↓w_nil, ↓w_cons, ↓w_tup, ↓w_lst, ↓w_lstT, ↓w_cb, ↓w_call, ↓w_callK, ↓w_neg, ↓w_no, ↓w_pt, ↓w_sl, ↓w_fld, ↓w_src, ↓w_rng, ↓w_enu, ↓w_listT, ↓w_app, ↓w_lc, ↓w_xf, ↓w_fldT, ↓w_make, ↓w_makeL, ↓w_run, ↓w_cut, ↓w_pure, ↓w_drop, nth2_eq, nth3_eq, w_ok, w_ex, w_nx, w_rt, w_bk, w_ct, w_exS, w_some, w_v, w_tr, w_fa, w_tb, w_ti, w_tn, w_L, w_L0, wb_not, cn_f, startD, arr, gN_eq, gTp, gTl, gCn, gNl, Option.bind_some, List.filterMap_cons, List.filterMap_nil, List.map_cons, List.map_nil, List.replicate_succ, List.replicate_zero, List.cons_append, List.nil_append, List.getElem?_cons_zero, List.getElem?_cons_succ, List.set_cons_zero, List.set_cons_succ, List.length_cons, List.length_nil, Nat.reduceAdd, Nat.reduceSub, Nat.reduceLeDiff, Nat.reduceEqDiff, Int.reducePow, Int.reduceToNat, Int.reduceNeg, Int.reduceAdd, Int.reduceMul, Int.reduceSub, Int.reduceLT, Int.reduceLE, Int.reduceEq, Nat.zero_add, Int.zero_add, big_eq, true_and, and_true, and_self, dSub_int, dAdd_int, dAddI_int, dLt_int, dLe_int, dGt_int, dGe_int, dEqD_int, bInt_int, bLen_lst, bLen_tup, bMin_int, bMax_int, bAbs_int, dIs_non, dIs_int, dIs_nn, Bool.not_true, Bool.not_false, decide_true, decide_false, reduceIte, Bool.false_eq_true, if_false, if_true, iSeq_lst, iSeq_tup, iSeq_rdl, iEnu_lst, iEnu_tup]
  refine draw_wp ok1 (by omega) (by decide) (by decide +kernel) fun l v2 l0 l1 ok2 => ?_
  simp (implicitDefEqProofs := false) only [eDraw, ↓w_srtT, ↓w_par2, ↓w_par3, ↓w_setd, ↓w_dict1, ↓w_maxDf, ↓w_slT, ↓w_addT, ↓w_dictT, ↓w_dictI, ↓w_get, ↓w_lrg1T, ↓w_lrg2T, ↓w_lrg1, ↓w_lrg2, ↓w_pop0, ↓w_lcT, ↓w_mth, ↓w_calm, ↓w_tryM, ↓w_tm0, ↓w_tmN, ↓w_tmS, ↓w_seq, ↓w_next, ↓w_break, ↓w_cont, ↓w_retN, ↓w_asg, ↓w_expr, ↓w_ret, ↓w_if, ↓w_asgG, ↓w_for, ↓w_put, ↓w_aug, ↓w_augS, ↓w_raise0, ↓w_raise1, ↓w_raise2, ↓w_try, ↓w_tryAs, ↓w_var, ↓w_c, ↓w_op, ↓w_chain, ↓w_notV, ↓w_andV, ↓w_orV, ↓w_ifE, ↓w_tst, ↓w_not, ↓w_and, ↓w_or, ↓w_yes, ↓w_nil, ↓w_cons, ↓w_tup, ↓w_lst, ↓w_lstT, ↓w_cb, ↓w_call, ↓w_callK, ↓w_neg, ↓w_no, ↓w_pt, ↓w_sl, ↓w_fld, ↓w_src, ↓w_rng, ↓w_enu, ↓w_listT, ↓w_app, ↓w_lc, ↓w_xf, ↓w_fldT, ↓w_make, ↓w_makeL, ↓w_run, ↓w_cut, ↓w_pure, ↓w_drop, nth2_eq, nth3_eq, w_ok, w_ex, w_nx, w_rt, w_bk, w_ct, w_exS, w_some, w_v, w_tr, w_fa, w_tb, w_ti, w_tn, w_L, w_L0, wb_not, cn_f, startD, arr, gN_eq, gTp, gTl, gCn, gNl, Option.bind_some, List.filterMap_cons, List.filterMap_nil, List.map_cons, List.map_nil, List.replicate_succ, List.replicate_zero, List.cons_append, List.nil_append, List.getElem?_cons_zero, List.getElem?_cons_succ, List.set_cons_zero, List.set_cons_succ, List.length_cons, List.length_nil, Nat.reduceAdd, Nat.reduceSub, Nat.reduceLeDiff, Nat.reduceEqDiff, Int.reducePow, Int.reduceToNat, Int.reduceNeg, Int.reduceAdd, Int.reduceMul, Int.reduceSub, Int.reduceLT, Int.reduceLE, Int.reduceEq, Nat.zero_add, Int.zero_add, big_eq, true_and, and_true, and_self, dSub_int, dAdd_int, dAddI_int, dLt_int, dLe_int, dGt_int, dGe_int, dEqD_int, bInt_int, bLen_lst, bLen_tup, bMin_int, bMax_int, bAbs_int, dIs_non, dIs_int, dIs_nn, Bool.not_true, Bool.not_false, decide_true, decide_false, reduceIte, Bool.false_eq_true, if_false, if_true, iSeq_lst, iSeq_tup, iSeq_rdl, iEnu_lst, iEnu_tup]
  refine draw_wp ok2 (by omega) (by decide) (by decide +kernel) fun g v3 g0 g1 ok3 => ?_
  simp (implicitDefEqProofs := false) only [↓w_srtT, ↓w_par2, ↓w_par3, ↓w_setd, ↓w_dict1, ↓w_maxDf, ↓w_slT, ↓w_addT, ↓w_dictT, ↓w_dictI, ↓w_get, ↓w_lrg1T, ↓w_lrg2T, ↓w_lrg1, ↓w_lrg2, ↓w_pop0, ↓w_lcT, ↓w_mth, ↓w_calm, ↓w_tryM, ↓w_tm0, ↓w_tmN, ↓w_tmS, ↓w_seq, ↓w_next, ↓w_break, ↓w_cont, ↓w_retN, ↓w_asg, ↓w_expr, ↓w_ret, ↓w_if, ↓w_asgG, ↓w_for, ↓w_put, ↓w_aug, ↓w_augS, ↓w_raise0, ↓w_raise1, ↓w_raise2, ↓w_try, ↓w_tryAs, ↓w_var, ↓w_c, ↓w_op, ↓w_chain, ↓w_notV, ↓w_andV, ↓w_orV, ↓w_ifE, ↓w_tst, ↓w_not, ↓w_and, ↓w_or, ↓w_yes, ↓w_nil, ↓w_cons, ↓w_tup, ↓w_lst, ↓w_lstT, ↓w_cb, ↓w_call, ↓w_callK, ↓w_neg, ↓w_no, ↓w_pt, ↓w_sl, ↓w_fld, ↓w_src, ↓w_rng, ↓w_enu, ↓w_listT, ↓w_app, ↓w_lc, ↓w_xf, ↓w_fldT, ↓w_make, ↓w_makeL, ↓w_run, ↓w_cut, ↓w_pure, ↓w_drop, nth2_eq, nth3_eq, w_ok, w_ex, w_nx, w_rt, w_bk, w_ct, w_exS, w_some, w_v, w_tr, w_fa, w_tb, w_ti, w_tn, w_L, w_L0, wb_not, cn_f, startD, arr, gN_eq, gTp, gTl, gCn, gNl, Option.bind_some, List.filterMap_cons, List.filterMap_nil, List.map_cons, List.map_nil, List.replicate_succ, List.replicate_zero, List.cons_append, List.nil_append, List.getElem?_cons_zero, List.getElem?_cons_succ, List.set_cons_zero, List.set_cons_succ, List.length_cons, List.length_nil, Nat.reduceAdd, Nat.reduceSub, Nat.reduceLeDiff, Nat.reduceEqDiff, Int.reducePow, Int.reduceToNat, Int.reduceNeg, Int.reduceAdd, Int.reduceMul, Int.reduceSub, Int.reduceLT, Int.reduceLE, Int.reduceEq, Nat.zero_add, Int.zero_add, big_eq, true_and, and_true, and_self, dSub_int, dAdd_int, dAddI_int, dLt_int, dLe_int, dGt_int, dGe_int, dEqD_int, bInt_int, bLen_lst, bLen_tup, bMin_int, bMax_int, bAbs_int, dIs_non, dIs_int, dIs_nn, Bool.not_true, Bool.not_false, decide_true, decide_false, reduceIte, Bool.false_eq_true, if_false, if_true, iSeq_lst, iSeq_tup, iSeq_rdl, iEnu_lst, iEnu_tup]
  rw [dMul_small (by omega) (by omega) (by omega) (by omega)]
  simp (implicitDefEqProofs := false) only [↓w_srtT, ↓w_par2, ↓w_par3, ↓w_setd, ↓w_dict1, ↓w_maxDf, ↓w_slT, ↓w_addT, ↓w_dictT, ↓w_dictI, ↓w_get, ↓w_lrg1T, ↓w_lrg2T, ↓w_lrg1, ↓w_lrg2, ↓w_pop0, ↓w_lcT, ↓w_mth, ↓w_calm, ↓w_tryM, ↓w_tm0, ↓w_tmN, ↓w_tmS, ↓w_seq, ↓w_next, ↓w_break, ↓w_cont, ↓w_retN, ↓w_asg, ↓w_expr, ↓w_ret, ↓w_if, ↓w_asgG, ↓w_for, ↓w_put, ↓w_aug, ↓w_augS, ↓w_raise0, ↓w_raise1, ↓w_raise2, ↓w_try, ↓w_tryAs, ↓w_var, ↓w_c, ↓w_op, ↓w_chain, ↓w_notV, ↓w_andV, ↓w_orV, ↓w_ifE, ↓w_tst, ↓w_not, ↓w_and, ↓w_or, ↓w_yes, ↓w_nil, ↓w_cons, ↓w_tup, ↓w_lst, ↓w_lstT, ↓w_cb, ↓w_call, ↓w_callK, ↓w_neg, ↓w_no, ↓w_pt, ↓w_sl, ↓w_fld, ↓w_src, ↓w_rng, ↓w_enu, ↓w_listT, ↓w_app, ↓w_lc, ↓w_xf, ↓w_fldT, ↓w_make, ↓w_makeL, ↓w_run, ↓w_cut, ↓w_pure, ↓w_drop, nth2_eq, nth3_eq, w_ok, w_ex, w_nx, w_rt, w_bk, w_ct, w_exS, w_some, w_v, w_tr, w_fa, w_tb, w_ti, w_tn, w_L, w_L0, wb_not, cn_f, startD, arr, gN_eq, gTp, gTl, gCn, gNl, Option.bind_some, List.filterMap_cons, List.filterMap_nil, List.map_cons, List.map_nil, List.replicate_succ, List.replicate_zero, List.cons_append, List.nil_append, List.getElem?_cons_zero, List.getElem?_cons_succ, List.set_cons_zero, List.set_cons_succ, List.length_cons, List.length_nil, Nat.reduceAdd, Nat.reduceSub, Nat.reduceLeDiff, Nat.reduceEqDiff, Int.reducePow, Int.reduceToNat, Int.reduceNeg, Int.reduceAdd, Int.reduceMul, Int.reduceSub, Int.reduceLT, Int.reduceLE, Int.reduceEq, Nat.zero_add, Int.zero_add, big_eq, true_and, and_true, and_self, dSub_int, dAdd_int, dAddI_int, dLt_int, dLe_int, dGt_int, dGe_int, dEqD_int, bInt_int, bLen_lst, bLen_tup, bMin_int, bMax_int, bAbs_int, dIs_non, dIs_int, dIs_nn, Bool.not_true, Bool.not_false, decide_true, decide_false, reduceIte, Bool.false_eq_true, if_false, if_true, iSeq_lst, iSeq_tup, iSeq_rdl, iEnu_lst, iEnu_tup]
  refine wb_dec (fun hz => ?_) (fun hz => ?_)
  · simp (implicitDefEqProofs := false) only [↓w_srtT, ↓w_par2, ↓w_par3, ↓w_setd, ↓w_dict1, ↓w_maxDf, ↓w_slT, ↓w_addT, ↓w_dictT, ↓w_dictI, ↓w_get, ↓w_lrg1T, ↓w_lrg2T, ↓w_lrg1, ↓w_lrg2, ↓w_pop0, ↓w_lcT, ↓w_mth, ↓w_calm, ↓w_tryM, ↓w_tm0, ↓w_tmN, ↓w_tmS, ↓w_seq, ↓w_next, ↓w_break, ↓w_cont, ↓w_retN, ↓w_asg, ↓w_expr, ↓w_ret, ↓w_if, ↓w_asgG, ↓w_for, ↓w_put, ↓w_aug, ↓w_augS, ↓w_raise0, ↓w_raise1, ↓w_raise2, ↓w_try, ↓w_tryAs, ↓w_var, ↓w_c, ↓w_op, ↓w_chain, ↓w_notV, ↓w_andV, ↓w_orV, ↓w_ifE, ↓w_tst, ↓w_not, ↓w_and, ↓w_or, ↓w_yes, ↓w_nil, ↓w_cons, ↓w_tup, ↓w_lst, ↓w_lstT, ↓w_cb, ↓w_call, ↓w_callK, ↓w_neg, ↓w_no, ↓w_pt, ↓w_sl, ↓w_fld, ↓w_src, ↓w_rng, ↓w_enu, ↓w_listT, ↓w_app, ↓w_lc, ↓w_xf, ↓w_fldT, ↓w_make, ↓w_makeL, ↓w_run, ↓w_cut, ↓w_pure, ↓w_drop, nth2_eq, nth3_eq, w_ok, w_ex, w_nx, w_rt, w_bk, w_ct, w_exS, w_some, w_v, w_tr, w_fa, w_tb, w_ti, w_tn, w_L, w_L0, wb_not, cn_f, startD, arr, gN_eq, gTp, gTl, gCn, gNl, Option.bind_some, List.filterMap_cons, List.filterMap_nil, List.map_cons, List.map_nil, List.replicate_succ, List.replicate_zero, List.cons_append, List.nil_append, List.getElem?_cons_zero, List.getElem?_cons_succ, List.set_cons_zero, List.set_cons_succ, List.length_cons, List.length_nil, Nat.reduceAdd, Nat.reduceSub, Nat.reduceLeDiff, Nat.reduceEqDiff, Int.reducePow, Int.reduceToNat, Int.reduceNeg, Int.reduceAdd, Int.reduceMul, Int.reduceSub, Int.reduceLT, Int.reduceLE, Int.reduceEq, Nat.zero_add, Int.zero_add, big_eq, true_and, and_true, and_self, dSub_int, dAdd_int, dAddI_int, dLt_int, dLe_int, dGt_int, dGe_int, dEqD_int, bInt_int, bLen_lst, bLen_tup, bMin_int, bMax_int, bAbs_int, dIs_non, dIs_int, dIs_nn, Bool.not_true, Bool.not_false, decide_true, decide_false, reduceIte, Bool.false_eq_true, if_false, if_true, iSeq_lst, iSeq_tup, iSeq_rdl, iEnu_lst, iEnu_tup]
    exact h ⟨o, 1, 1 + g⟩ v3 ⟨⟨o0, by show o ≤ _; omega, by show (0 : Int) ≤ 1; decide, by show (1 : Int) ≤ _; decide, by show 1 ≤ 1 + g; omega, by show 1 + g ≤ _; omega, by show 0 < 2 * o + 1; omega⟩, by show o ≤ 3; omega, by show (1 : Int) ≤ 4; decide, by show 1 + g ≤ 6; omega⟩ ok3
  · simp (implicitDefEqProofs := false) only [↓w_srtT, ↓w_par2, ↓w_par3, ↓w_setd, ↓w_dict1, ↓w_maxDf, ↓w_slT, ↓w_addT, ↓w_dictT, ↓w_dictI, ↓w_get, ↓w_lrg1T, ↓w_lrg2T, ↓w_lrg1, ↓w_lrg2, ↓w_pop0, ↓w_lcT, ↓w_mth, ↓w_calm, ↓w_tryM, ↓w_tm0, ↓w_tmN, ↓w_tmS, ↓w_seq, ↓w_next, ↓w_break, ↓w_cont, ↓w_retN, ↓w_asg, ↓w_expr, ↓w_ret, ↓w_if, ↓w_asgG, ↓w_for, ↓w_put, ↓w_aug, ↓w_augS, ↓w_raise0, ↓w_raise1, ↓w_raise2, ↓w_try, ↓w_tryAs, ↓w_var, ↓w_c, ↓w_op, ↓w_chain, ↓w_notV, ↓w_andV, ↓w_orV, ↓w_ifE, ↓w_tst, ↓w_not, ↓w_and, ↓w_or, ↓w_yes, ↓w_nil, ↓w_cons, ↓w_tup, ↓w_lst, ↓w_lstT, ↓w_cb, ↓w_call, ↓w_callK, ↓w_neg, ↓w_no, ↓w_pt, ↓w_sl, ↓w_fld, ↓w_src, ↓w_rng, ↓w_enu, ↓w_listT, ↓w_app, ↓w_lc, ↓w_xf, ↓w_fldT, ↓w_make, ↓w_makeL, ↓w_run, ↓w_cut, ↓w_pure, ↓w_drop, nth2_eq, nth3_eq, w_ok, w_ex, w_nx, w_rt, w_bk, w_ct, w_exS, w_some, w_v, w_tr, w_fa, w_tb, w_ti, w_tn, w_L, w_L0, wb_not, cn_f, startD, arr, gN_eq, gTp, gTl, gCn, gNl, Option.bind_some, List.filterMap_cons, List.filterMap_nil, List.map_cons, List.map_nil, List.replicate_succ, List.replicate_zero, List.cons_append, List.nil_append, List.getElem?_cons_zero, List.getElem?_cons_succ, List.set_cons_zero, List.set_cons_succ, List.length_cons, List.length_nil, Nat.reduceAdd, Nat.reduceSub, Nat.reduceLeDiff, Nat.reduceEqDiff, Int.reducePow, Int.reduceToNat, Int.reduceNeg, Int.reduceAdd, Int.reduceMul, Int.reduceSub, Int.reduceLT, Int.reduceLE, Int.reduceEq, Nat.zero_add, Int.zero_add, big_eq, true_and, and_true, and_self, dSub_int, dAdd_int, dAddI_int, dLt_int, dLe_int, dGt_int, dGe_int, dEqD_int, bInt_int, bLen_lst, bLen_tup, bMin_int, bMax_int, bAbs_int, dIs_non, dIs_int, dIs_nn, Bool.not_true, Bool.not_false, decide_true, decide_false, reduceIte, Bool.false_eq_true, if_false, if_true, iSeq_lst, iSeq_tup, iSeq_rdl, iEnu_lst, iEnu_tup]
    exact h ⟨o, l, 1 + g⟩ v3 ⟨⟨o0, by show o ≤ _; omega, l0, by show l ≤ _; omega, by show 1 ≤ 1 + g; omega, by show 1 + g ≤ _; omega, by show 0 < 2 * o + l; omega⟩, by show o ≤ 3; omega, by show l ≤ 4; omega, by show 1 + g ≤ 6; omega⟩ ok3
/-! the table -/
structure TOk (M : Mc) (ks : List (List Int)) (vs : List D) : Prop where
  len : ks.length = vs.length
  nd : ks.Nodup
  key : ∀ k ∈ ks, ∃ e h : Int, k = [e, h] ∧ 0 ≤ e ∧ e ≤ 9 ∧ 1 ≤ h ∧ h ≤ 4
  pur : ∀ d ∈ vs, Pur d
  val : ∀ (e : Int) (h : Nat) d, lkL ks vs [e, (h : Int)] = some d → d = .int (BV M.o M.l M.g e h)
theorem tok0 (M : Mc) : TOk M [] [] := ⟨rfl, List.nodup_nil, (fun k h => by cases h), (fun k h => by cases h), (fun e h d q => by simp [lkL] at q)⟩
theorem TOk.small {ks : List (List Int)} {vs : List D} (h : TOk M ks vs) : ks.length ≤ 40 := by
  have hm : ∀ k ∈ ks, k ∈ (List.range 10).flatMap fun (e : Nat) => (List.range 4).map fun (x : Nat) => [(e : Int), ((x + 1 : Nat) : Int)] := fun k hk => by
    obtain ⟨e, x, rfl, e0, e9, x1, x4⟩ := h.key k hk
    refine List.mem_flatMap.mpr ⟨e.toNat, List.mem_range.mpr (by omega), List.mem_map.mpr ⟨x.toNat - 1, List.mem_range.mpr (by omega), ?_⟩⟩
    congr 1
    · omega
    · congr 1
      omega
  have hl : ∀ {a b : List (List Int)}, a.Nodup → (∀ x ∈ a, x ∈ b) → a.length ≤ b.length := fun {a b} ha hb => by
    induction a generalizing b with
    | nil => simp
    | cons x a ih =>
      obtain ⟨h1, h2⟩ := List.nodup_cons.mp ha
      have hx := hb x (.head _)
      have := ih (b := b.erase x) h2 fun y hy => (List.mem_erase_of_ne (fun e => h1 (by rw [← e]; exact hy))).mpr (hb y (.tail _ hy))
      rw [List.length_erase_of_mem hx] at this
      have := List.length_pos_of_mem hx
      rw [List.length_cons]
      omega
  have := hl h.nd hm
  have e40 : ((List.range 10).flatMap fun (e : Nat) => (List.range 4).map fun (x : Nat) => [(e : Int), ((x + 1 : Nat) : Int)]).length = 40 := by decide +kernel
  omega
theorem ptK_c (k1 k : List Int) (ks : List (List Int)) : ptK (k1 :: ks) k = if k1 = k then k1 :: ks else k1 :: ptK ks k := by
  rw [ptK_eq, ptK_eq]
  by_cases e : k1 = k
  · rw [if_pos e, if_pos (by rw [e]; exact List.mem_cons_self ..)]
  · rw [if_neg e]
    by_cases h : k ∈ ks
    · rw [if_pos h, if_pos (.tail _ h)]
    · rw [if_neg h, if_neg (fun q => (List.mem_cons.mp q).elim (fun q => e q.symm) h)]
      rfl
theorem pt_len (k : List Int) (d : D) : ∀ {ks : List (List Int)} {vs : List D}, ks.length = vs.length → (ptK ks k).length = (ptL ks vs k d).length
  | [], [], _ => rfl
  | [], _ :: _, h => by simp at h
  | _ :: _, [], h => by simp at h
  | k1 :: ks, v :: vs, h => by
    have ih := pt_len k d (ks := ks) (vs := vs) (by simpa using h)
    rw [ptK_c, ptL]
    by_cases e : k1 = k
    · rw [if_pos e, if_pos e]
      simpa using h
    · rw [if_neg e, if_neg e, List.length_cons, List.length_cons, ih]
theorem lk_put (k : List Int) (d : D) (k' : List Int) : ∀ {ks : List (List Int)} {vs : List D}, ks.length = vs.length → lkL (ptK ks k) (ptL ks vs k d) k' = if k = k' then some d else lkL ks vs k'
  | [], [], _ => rfl
  | [], _ :: _, h => by simp at h
  | _ :: _, [], h => by simp at h
  | k1 :: ks, v :: vs, h => by
    have ih := lk_put k d k' (ks := ks) (vs := vs) (by simpa using h)
    rw [ptK_c, ptL, lkL]
    by_cases e : k1 = k
    · rw [if_pos e, if_pos e, lkL, e]
      split <;> rfl
    · rw [if_neg e, if_neg e, lkL, ih]
      by_cases e2 : k1 = k'
      · rw [if_pos e2, if_pos e2, if_neg (fun q => e (e2.trans q.symm))]
      · rw [if_neg e2, if_neg e2]
theorem pt_mem {k : List Int} {d x : D} : ∀ {ks : List (List Int)} {vs : List D}, x ∈ ptL ks vs k d → x = d ∨ x ∈ vs
  | [], vs, h => .inl (List.mem_singleton.mp h)
  | k1 :: ks, [], h => .inl (List.mem_singleton.mp h)
  | k1 :: ks, v :: vs, h => by
    rw [ptL] at h
    split at h
    · rcases List.mem_cons.mp h with h | h
      · exact .inl h
      · exact .inr (.tail _ h)
    · rcases List.mem_cons.mp h with h | h
      · exact .inr (by rw [h]; exact .head _)
      · exact (pt_mem h).imp id fun h => .tail _ h
theorem TOk.put {ks : List (List Int)} {vs : List D} (h : TOk M ks vs) {e : Int} {x : Nat} (e0 : 0 ≤ e) (e9 : e ≤ 9) (x1 : 1 ≤ x) (x4 : x ≤ 4) : TOk M (ptK ks [e, (x : Int)]) (ptL ks vs [e, (x : Int)] (.int (BV M.o M.l M.g e x))) where
  len := pt_len _ _ h.len
  nd := by
    rw [ptK_eq]
    split
    · exact h.nd
    · rename_i hn
      rw [List.nodup_append]
      exact ⟨h.nd, by simp, fun a ha b hb => by rw [List.mem_singleton.mp hb]; exact fun q => hn (q ▸ ha)⟩
  key := fun k hk => by
    rw [ptK_eq] at hk
    split at hk
    · exact h.key k hk
    · rcases List.mem_append.mp hk with hk | hk
      · exact h.key k hk
      · exact ⟨e, x, List.mem_singleton.mp hk, e0, e9, by omega, by omega⟩
  pur := fun d hd => by
    rcases pt_mem hd with rfl | hd
    · exact pur_int _
    · exact h.pur d hd
  val := fun e' x' d hd => by
    rw [lk_put _ _ _ h.len] at hd
    split at hd
    · rename_i he
      cases hd
      injection he with h1 h2
      injection h2 with h3 _
      have : x = x' := by omega
      subst h1 this
      rfl
    · exact h.val e' x' d hd
section
variable {s : S} {p : Nat} {ks : List (List Int)} {vs : List D}
theorem dt_of (h : s[p]? = some (.dt ks vs)) : dtOf s (.ref p) = some (ks, vs) := by
  unfold dtOf
  simp only [h]
theorem put_t (h : s[p]? = some (.dt ks vs)) (hb : ks.length < 1000000) (a b : Int) (x : D) : dPutT s (.ref p) (.tup [.int a, .int b]) x = some (s.set p (.dt (ptK ks [a, b]) (ptL ks vs [a, b] x))) := by
  unfold dPutT
  have e : keyT (.tup [.int a, .int b]) = some [a, b] := rfl
  simp only [e, h]
  rw [if_pos (show ks.length < big from hb)]
theorem ix_t (h : s[p]? = some (.dt ks vs)) (a b : Int) : dIxT s (.ref p) (.tup [.int a, .int b]) = lkL ks vs [a, b] := by
  unfold dIxT
  have e : keyT (.tup [.int a, .int b]) = some [a, b] := rfl
  simp only [e, dt_of h]
end
theorem rgH_s {β : Type} (f : β → Nat → β) (x : β) (k : Nat) : (((List.range (k + 1)).map fun i => i + 1).foldl f x) = f (((List.range k).map fun i => i + 1).foldl f x) (k + 1) := by
  rw [List.range_succ, List.map_append, List.foldl_append]
  rfl
/-- the two defs, with so much fuel -/
def LetOk (c : Cl) (M : Mc) (n : Nat) : Prop := ∀ (left : Nat) (e later before : Int) (s : S) (p : Nat) (ks : List (List Int)) (vs : List D), 2 * left + 1 ≤ n → left ≤ 3 → 0 ≤ e → e ≤ 9 → 0 ≤ later → later ≤ 20 → 0 ≤ before → s[p]? = some (.dt ks vs) → TOk M ks vs →
  ∃ ks' vs', TOk M ks' vs' ∧ Gn__law_letters c n [mD M, .int e, .int left, .int later, .int before, .ref p] s = .ok (.int (LV M.o M.l M.g left e later before)) (s.set p (.dt ks' vs'))
def BesOk (c : Cl) (M : Mc) (n : Nat) : Prop := ∀ (h : Nat) (e : Int) (s : S) (p : Nat) (ks : List (List Int)) (vs : List D), 2 * h ≤ n → 1 ≤ h → h ≤ 4 → 0 ≤ e → e ≤ 9 → s[p]? = some (.dt ks vs) → TOk M ks vs →
  ∃ ks' vs', TOk M ks' vs' ∧ Gn__law_best c n [mD M, .int e, .int h, .ref p] s = .ok (.int (BV M.o M.l M.g e h)) (s.set p (.dt ks' vs'))
theorem set_at {s : S} {p : Nat} {o : O} (h : s[p]? = some o) (o' : O) : (s.set p o')[p]? = some o' := by
  rw [List.getElem?_set_self (List.getElem?_eq_some_iff.mp h).1]
theorem set_self {s : S} {p : Nat} {o : O} (h : s[p]? = some o) : s.set p o = s := by
  apply List.ext_getElem?
  intro i
  by_cases hi : i = p
  · subst hi
    rw [set_at h, h]
  · rw [List.getElem?_set_ne (fun q => hi q.symm)]
theorem bes_s (n : Nat) (hL : LetOk c M n) : BesOk c M (n + 1) := by
  intro h e s p ks vs hn h1 h4 e0 e9 hp hT
  have key2 : ∀ s, dInT true s (.tup [.int e, .int h]) (.ref p) = (dtOf s (.ref p)).map fun q => .bl (!(lkL q.1 q.2 [e, (h : Int)]).isSome) := fun s => by
    unfold dInT
    have ek : keyT (.tup [.int e, .int (h : Int)]) = some [e, (h : Int)] := rfl
    simp only [ek]
    cases dtOf s (.ref p) with
    | none => rfl
    | some q => rfl
  suffices hw : @WR _ (Gn__law_best c (n + 1) [mD M, .int e, .int h, .ref p] s) ⟨fun d s' => ∃ ks' vs', TOk M ks' vs' ∧ d = .int (BV M.o M.l M.g e h) ∧ s' = s.set p (.dt ks' vs')⟩ ⟨nE⟩ by
    obtain ⟨d, s', e1, ks', vs', t, rfl, rfl⟩ := ex_ok hw
    exact ⟨ks', vs', t, e1⟩
  have i1 : dInT true s (.tup [.int e, .int h]) (.ref p) = some (.bl (!(lkL ks vs [e, (h : Int)]).isSome)) := by
    rw [key2, dt_of hp]
    rfl
  rw [Gn__law_best]
  unfold LetOk at hL
  generalize Gn__law_letters c n = gL at hL
  cases hk : lkL ks vs [e, (h : Int)] with
  | some d =>
    rw [hk] at i1
    have i2 := ix_t hp e h
    rw [hk] at i2
    have hv := hT.val e h d hk
    simp (implicitDefEqProofs := false) only [i1, Option.isSome_some, Bool.not_true, i2, ↓w_srtT, ↓w_par2, ↓w_par3, ↓w_setd, ↓w_dict1, ↓w_maxDf, ↓w_slT, ↓w_addT, ↓w_dictT, ↓w_dictI, ↓w_get, ↓w_lrg1T, ↓w_lrg2T, ↓w_lrg1, ↓w_lrg2, ↓w_pop0, ↓w_lcT, ↓w_mth, ↓w_calm, ↓w_tryM, ↓w_tm0, ↓w_tmN, ↓w_tmS, ↓w_seq, ↓w_next, ↓w_break, ↓w_cont, ↓w_retN, ↓w_asg, ↓w_expr, ↓w_ret, ↓w_if, ↓w_asgG, ↓w_for, ↓w_put, ↓w_aug, ↓w_augS, ↓w_raise0, ↓w_raise1, ↓w_raise2, ↓w_try, ↓w_tryAs, ↓w_var, ↓w_c, ↓w_op, ↓w_chain, ↓w_notV, ↓w_andV, ↓w_orV, ↓w_ifE, ↓w_tst, ↓w_not, ↓w_and, ↓w_or, ↓w_yes, ↓w_nil, ↓w_cons, ↓w_tup, ↓w_lst, ↓w_lstT, ↓w_cb, ↓w_call, ↓w_callK, ↓w_neg, ↓w_no, ↓w_pt, ↓w_sl, ↓w_fld, ↓w_src, ↓w_rng, ↓w_enu, ↓w_listT, ↓w_app, ↓w_lc, ↓w_xf, ↓w_fldT, ↓w_make, ↓w_makeL, ↓w_run, ↓w_cut, ↓w_pure, ↓w_drop, nth2_eq, nth3_eq, w_ok, w_ex, w_nx, w_rt, w_bk, w_ct, w_exS, w_some, w_v, w_tr, w_fa, w_tb, w_ti, w_tn, w_L, w_L0, wb_not, cn_f, startD, arr, gN_eq, gTp, gTl, gCn, gNl, Option.bind_some, List.filterMap_cons, List.filterMap_nil, List.map_cons, List.map_nil, List.replicate_succ, List.replicate_zero, List.cons_append, List.nil_append, List.getElem?_cons_zero, List.getElem?_cons_succ, List.set_cons_zero, List.set_cons_succ, List.length_cons, List.length_nil, Nat.reduceAdd, Nat.reduceSub, Nat.reduceLeDiff, Nat.reduceEqDiff, Int.reducePow, Int.reduceToNat, Int.reduceNeg, Int.reduceAdd, Int.reduceMul, Int.reduceSub, Int.reduceLT, Int.reduceLE, Int.reduceEq, Nat.zero_add, Int.zero_add, big_eq, true_and, and_true, and_self, dSub_int, dAdd_int, dAddI_int, dLt_int, dLe_int, dGt_int, dGe_int, dEqD_int, bInt_int, bLen_lst, bLen_tup, bMin_int, bMax_int, bAbs_int, dIs_non, dIs_int, dIs_nn, Bool.not_true, Bool.not_false, decide_true, decide_false, reduceIte, Bool.false_eq_true, if_false, if_true, iSeq_lst, iSeq_tup, iSeq_rdl, iEnu_lst, iEnu_tup]
    exact ⟨ks, vs, hT, hv, (set_self hp).symm⟩
  | none =>
    rw [hk] at i1
    obtain ⟨ks', vs', hT', e1⟩ := hL (h - 1) e 0 (e + 100) s p ks vs (by omega) (by omega) e0 e9 (by decide) (by decide) (by omega) hp hT
    have hc : ((h - 1 : Nat) : Int) = (h : Int) - 1 := by omega
    rw [hc] at e1
    have hp' := set_at hp (.dt ks' vs')
    have hsm := hT'.small
    have p1 := put_t hp' (by omega) e h (.int (BV M.o M.l M.g e h))
    rw [List.set_set] at p1
    have eB : e + 1 + LV M.o M.l M.g (h - 1) e 0 (e + 100) = BV M.o M.l M.g e h := rfl
    have i3 := ix_t (set_at hp (.dt (ptK ks' [e, (h : Int)]) (ptL ks' vs' [e, (h : Int)] (.int (BV M.o M.l M.g e h))))) e h
    rw [lk_put _ _ _ hT'.len, if_pos rfl] at i3
    simp (implicitDefEqProofs := false) only [i1, Option.isSome_none, Bool.not_false, e1, eB, p1, i3, ↓w_srtT, ↓w_par2, ↓w_par3, ↓w_setd, ↓w_dict1, ↓w_maxDf, ↓w_slT, ↓w_addT, ↓w_dictT, ↓w_dictI, ↓w_get, ↓w_lrg1T, ↓w_lrg2T, ↓w_lrg1, ↓w_lrg2, ↓w_pop0, ↓w_lcT, ↓w_mth, ↓w_calm, ↓w_tryM, ↓w_tm0, ↓w_tmN, ↓w_tmS, ↓w_seq, ↓w_next, ↓w_break, ↓w_cont, ↓w_retN, ↓w_asg, ↓w_expr, ↓w_ret, ↓w_if, ↓w_asgG, ↓w_for, ↓w_put, ↓w_aug, ↓w_augS, ↓w_raise0, ↓w_raise1, ↓w_raise2, ↓w_try, ↓w_tryAs, ↓w_var, ↓w_c, ↓w_op, ↓w_chain, ↓w_notV, ↓w_andV, ↓w_orV, ↓w_ifE, ↓w_tst, ↓w_not, ↓w_and, ↓w_or, ↓w_yes, ↓w_nil, ↓w_cons, ↓w_tup, ↓w_lst, ↓w_lstT, ↓w_cb, ↓w_call, ↓w_callK, ↓w_neg, ↓w_no, ↓w_pt, ↓w_sl, ↓w_fld, ↓w_src, ↓w_rng, ↓w_enu, ↓w_listT, ↓w_app, ↓w_lc, ↓w_xf, ↓w_fldT, ↓w_make, ↓w_makeL, ↓w_run, ↓w_cut, ↓w_pure, ↓w_drop, nth2_eq, nth3_eq, w_ok, w_ex, w_nx, w_rt, w_bk, w_ct, w_exS, w_some, w_v, w_tr, w_fa, w_tb, w_ti, w_tn, w_L, w_L0, wb_not, cn_f, startD, arr, gN_eq, gTp, gTl, gCn, gNl, Option.bind_some, List.filterMap_cons, List.filterMap_nil, List.map_cons, List.map_nil, List.replicate_succ, List.replicate_zero, List.cons_append, List.nil_append, List.getElem?_cons_zero, List.getElem?_cons_succ, List.set_cons_zero, List.set_cons_succ, List.length_cons, List.length_nil, Nat.reduceAdd, Nat.reduceSub, Nat.reduceLeDiff, Nat.reduceEqDiff, Int.reducePow, Int.reduceToNat, Int.reduceNeg, Int.reduceAdd, Int.reduceMul, Int.reduceSub, Int.reduceLT, Int.reduceLE, Int.reduceEq, Nat.zero_add, Int.zero_add, big_eq, true_and, and_true, and_self, dSub_int, dAdd_int, dAddI_int, dLt_int, dLe_int, dGt_int, dGe_int, dEqD_int, bInt_int, bLen_lst, bLen_tup, bMin_int, bMax_int, bAbs_int, dIs_non, dIs_int, dIs_nn, Bool.not_true, Bool.not_false, decide_true, decide_false, reduceIte, Bool.false_eq_true, if_false, if_true, iSeq_lst, iSeq_tup, iSeq_rdl, iEnu_lst, iEnu_tup]
    exact ⟨_, _, hT'.put e0 e9 h1 h4, rfl⟩
theorem let_s (hM : SmM M) (n : Nat) (hL : LetOk c M n) (hB : BesOk c M n) : LetOk c M (n + 1) := by
  intro left e later before s p ks vs hn hl3 e0 e9 la0 la1 b0 hp hT
  have f0 : ∀ s, dIx s (mD M) (.int 0) = some (.int M.o) := fun s => it0 ..
  have o0 := hM.ok.o0
  have o3 := hM.o3
  have l0 := hM.ok.l0
  have l4 := hM.l4
  have g6 := hM.g6
  have g1 := hM.ok.g1
  have D0 := hM.ok.letter0
  have D1 : 0 < 2 * M.o + M.l := D0
  suffices hw : @WR _ (Gn__law_letters c (n + 1) [mD M, .int e, .int left, .int later, .int before, .ref p] s) ⟨fun d s' => ∃ ks' vs', TOk M ks' vs' ∧ d = .int (LV M.o M.l M.g left e later before) ∧ s' = s.set p (.dt ks' vs')⟩ ⟨nE⟩ by
    obtain ⟨d, s', e1, ks', vs', t, rfl, rfl⟩ := ex_ok hw
    exact ⟨ks', vs', t, e1⟩
  rw [Gn__law_letters]
  unfold LetOk at hL
  unfold BesOk at hB
  generalize Gn__law_letters c n = gL at hL
  generalize Gn__law_best c n = gB at hB
  have m1 : ∀ s, dMul s (.int (later + 1)) (.int (M.o + 1)) = some (.int ((later + 1) * (M.o + 1))) := fun s => dMul_small (by omega) (by omega) (by omega) (by omega)
  have m2 : ∀ s, dMul s (.int later) (.int M.o) = some (.int (later * M.o)) := fun s => dMul_small (by omega) (by omega) (by omega) (by omega)
  have m3 : ∀ s, dMul s (.int 2) (.int M.o) = some (.int (2 * M.o)) := fun s => dMul_small (by omega) (by omega) (by omega) (by omega)
  have um : mD M = .tup [.int M.o, .int M.l, .int M.g] := rfl
  have hq0 : 0 ≤ later * M.o := Int.mul_nonneg la0 o0
  rw [LV_s]
  by_cases hc : e < (later + 1) * (M.o + 1)
  · rw [if_pos hc]
    rw [um]
    simp (implicitDefEqProofs := false) only [m1, hc, ↓w_srtT, ↓w_par2, ↓w_par3, ↓w_setd, ↓w_dict1, ↓w_maxDf, ↓w_slT, ↓w_addT, ↓w_dictT, ↓w_dictI, ↓w_get, ↓w_lrg1T, ↓w_lrg2T, ↓w_lrg1, ↓w_lrg2, ↓w_pop0, ↓w_lcT, ↓w_mth, ↓w_calm, ↓w_tryM, ↓w_tm0, ↓w_tmN, ↓w_tmS, ↓w_seq, ↓w_next, ↓w_break, ↓w_cont, ↓w_retN, ↓w_asg, ↓w_expr, ↓w_ret, ↓w_if, ↓w_asgG, ↓w_for, ↓w_put, ↓w_aug, ↓w_augS, ↓w_raise0, ↓w_raise1, ↓w_raise2, ↓w_try, ↓w_tryAs, ↓w_var, ↓w_c, ↓w_op, ↓w_chain, ↓w_notV, ↓w_andV, ↓w_orV, ↓w_ifE, ↓w_tst, ↓w_not, ↓w_and, ↓w_or, ↓w_yes, ↓w_nil, ↓w_cons, ↓w_tup, ↓w_lst, ↓w_lstT, ↓w_cb, ↓w_call, ↓w_callK, ↓w_neg, ↓w_no, ↓w_pt, ↓w_sl, ↓w_fld, ↓w_src, ↓w_rng, ↓w_enu, ↓w_listT, ↓w_app, ↓w_lc, ↓w_xf, ↓w_fldT, ↓w_make, ↓w_makeL, ↓w_run, ↓w_cut, ↓w_pure, ↓w_drop, nth2_eq, nth3_eq, w_ok, w_ex, w_nx, w_rt, w_bk, w_ct, w_exS, w_some, w_v, w_tr, w_fa, w_tb, w_ti, w_tn, w_L, w_L0, wb_not, cn_f, startD, arr, gN_eq, gTp, gTl, gCn, gNl, Option.bind_some, List.filterMap_cons, List.filterMap_nil, List.map_cons, List.map_nil, List.replicate_succ, List.replicate_zero, List.cons_append, List.nil_append, List.getElem?_cons_zero, List.getElem?_cons_succ, List.set_cons_zero, List.set_cons_succ, List.length_cons, List.length_nil, Nat.reduceAdd, Nat.reduceSub, Nat.reduceLeDiff, Nat.reduceEqDiff, Int.reducePow, Int.reduceToNat, Int.reduceNeg, Int.reduceAdd, Int.reduceMul, Int.reduceSub, Int.reduceLT, Int.reduceLE, Int.reduceEq, Nat.zero_add, Int.zero_add, big_eq, true_and, and_true, and_self, dSub_int, dAdd_int, dAddI_int, dLt_int, dLe_int, dGt_int, dGe_int, dEqD_int, bInt_int, bLen_lst, bLen_tup, bMin_int, bMax_int, bAbs_int, dIs_non, dIs_int, dIs_nn, Bool.not_true, Bool.not_false, decide_true, decide_false, reduceIte, Bool.false_eq_true, if_false, if_true, iSeq_lst, iSeq_tup, iSeq_rdl, iEnu_lst, iEnu_tup]
    exact ⟨ks, vs, hT, (set_self hp).symm⟩
  · rw [if_neg hc]
    have hla : later ≤ 8 := by
      have h1 : (later + 1) * 1 ≤ (later + 1) * (M.o + 1) := Int.mul_le_mul_of_nonneg_left (by omega) (by omega)
      omega
    obtain ⟨last, elast⟩ : ∃ last, last = min (e - later * M.o - later - 1) (before - max M.o M.g) := ⟨_, rfl⟩
    have hlast : last ≤ 9 := by omega
    rw [um]
    simp (implicitDefEqProofs := false) only [m1, hc, m2, m3, bMin_int, bMax_int, ← elast, ↓w_srtT, ↓w_par2, ↓w_par3, ↓w_setd, ↓w_dict1, ↓w_maxDf, ↓w_slT, ↓w_addT, ↓w_dictT, ↓w_dictI, ↓w_get, ↓w_lrg1T, ↓w_lrg2T, ↓w_lrg1, ↓w_lrg2, ↓w_pop0, ↓w_lcT, ↓w_mth, ↓w_calm, ↓w_tryM, ↓w_tm0, ↓w_tmN, ↓w_tmS, ↓w_seq, ↓w_next, ↓w_break, ↓w_cont, ↓w_retN, ↓w_asg, ↓w_expr, ↓w_ret, ↓w_if, ↓w_asgG, ↓w_for, ↓w_put, ↓w_aug, ↓w_augS, ↓w_raise0, ↓w_raise1, ↓w_raise2, ↓w_try, ↓w_tryAs, ↓w_var, ↓w_c, ↓w_op, ↓w_chain, ↓w_notV, ↓w_andV, ↓w_orV, ↓w_ifE, ↓w_tst, ↓w_not, ↓w_and, ↓w_or, ↓w_yes, ↓w_nil, ↓w_cons, ↓w_tup, ↓w_lst, ↓w_lstT, ↓w_cb, ↓w_call, ↓w_callK, ↓w_neg, ↓w_no, ↓w_pt, ↓w_sl, ↓w_fld, ↓w_src, ↓w_rng, ↓w_enu, ↓w_listT, ↓w_app, ↓w_lc, ↓w_xf, ↓w_fldT, ↓w_make, ↓w_makeL, ↓w_run, ↓w_cut, ↓w_pure, ↓w_drop, nth2_eq, nth3_eq, w_ok, w_ex, w_nx, w_rt, w_bk, w_ct, w_exS, w_some, w_v, w_tr, w_fa, w_tb, w_ti, w_tn, w_L, w_L0, wb_not, cn_f, startD, arr, gN_eq, gTp, gTl, gCn, gNl, Option.bind_some, List.filterMap_cons, List.filterMap_nil, List.map_cons, List.map_nil, List.replicate_succ, List.replicate_zero, List.cons_append, List.nil_append, List.getElem?_cons_zero, List.getElem?_cons_succ, List.set_cons_zero, List.set_cons_succ, List.length_cons, List.length_nil, Nat.reduceAdd, Nat.reduceSub, Nat.reduceLeDiff, Nat.reduceEqDiff, Int.reducePow, Int.reduceToNat, Int.reduceNeg, Int.reduceAdd, Int.reduceMul, Int.reduceSub, Int.reduceLT, Int.reduceLE, Int.reduceEq, Nat.zero_add, Int.zero_add, big_eq, true_and, and_true, and_self, dSub_int, dAdd_int, dAddI_int, dLt_int, dLe_int, dGt_int, dGe_int, dEqD_int, bInt_int, bLen_lst, bLen_tup, bMin_int, bMax_int, bAbs_int, dIs_non, dIs_int, dIs_nn, Bool.not_true, Bool.not_false, decide_true, decide_false, reduceIte, Bool.false_eq_true, if_false, if_true, iSeq_lst, iSeq_tup, iSeq_rdl, iEnu_lst, iEnu_tup]
    obtain ⟨Dl, eD⟩ : ∃ Dl, Dl = 2 * M.o + M.l := ⟨_, rfl⟩
    rw [← elast, ← eD]
    have hq1 : later * M.o ≤ 8 * 3 := Int.mul_le_mul hla o3 o0 (by decide)
    have hlow : -100 ≤ last := by omega
    rw [rng2 (by omega) (by omega) (by omega) (by omega), w_some]
    generalize hm : (last + 1 - Dl).toNat = m
    have eR : rgT Dl (last + 1) = (List.range m).map fun (i : Nat) => Dl + (i : Int) := by
      unfold rgT
      rw [hm]
    rw [eR]
    generalize hG : (fun (t : Int) (b : Int) (h : Nat) => max b (BV M.o M.l M.g (t - 2 * M.o - M.l) h - M.o - 1 + LV M.o M.l M.g (left - h) e (later + 1) t)) = G
    have hGv : ∀ t b h, G t b h = max b (BV M.o M.l M.g (t - 2 * M.o - M.l) h - M.o - 1 + LV M.o M.l M.g (left - h) e (later + 1) t) := fun t b h => by rw [← hG]
    have eF : ∀ xs : List Int, xs.foldl (fun b t => (rgH left).foldl (fun b h => max b (BV M.o M.l M.g (t - 2 * M.o - M.l) h - M.o - 1 + LV M.o M.l M.g (left - h) e (later + 1) t)) b) 0 = xs.foldl (fun b t => (rgH left).foldl (G t) b) 0 := fun xs => by rw [← hG]
    rw [eF]
    refine ws_rng (fun i L s' => ∃ (ks' : List (List Int)) (vs' : List D) (y11 y12 y13 : Option D), L = [some (.tup [.int M.o, .int M.l, .int M.g]), some (.int e), some (.int left), some (.int later), some (.int before), some (.ref p), some (.int M.o), some (.int M.l), some (.int M.g), some (.int (((List.range i).map fun (i : Nat) => Dl + (i : Int)).foldl (fun b t => (rgH left).foldl (G t) b) 0)), some (.int last), y11, y12, y13] ∧ s' = s.set p (.dt ks' vs') ∧ TOk M ks' vs') ⟨ks, vs, _, _, _, rfl, (set_self hp).symm, hT⟩ ?_ ?_
    · rintro i L s' hi ⟨ks1, vs1, y11, y12, y13, rfl, rfl, hT1⟩
      obtain ⟨t, et⟩ : ∃ t, t = Dl + (i : Int) := ⟨_, rfl⟩
      rw [← et]
      have ht0 : Dl ≤ t := by omega
      have ht1 : t ≤ last := by omega
      simp (implicitDefEqProofs := false) only [↓w_srtT, ↓w_par2, ↓w_par3, ↓w_setd, ↓w_dict1, ↓w_maxDf, ↓w_slT, ↓w_addT, ↓w_dictT, ↓w_dictI, ↓w_get, ↓w_lrg1T, ↓w_lrg2T, ↓w_lrg1, ↓w_lrg2, ↓w_pop0, ↓w_lcT, ↓w_mth, ↓w_calm, ↓w_tryM, ↓w_tm0, ↓w_tmN, ↓w_tmS, ↓w_seq, ↓w_next, ↓w_break, ↓w_cont, ↓w_retN, ↓w_asg, ↓w_expr, ↓w_ret, ↓w_if, ↓w_asgG, ↓w_for, ↓w_put, ↓w_aug, ↓w_augS, ↓w_raise0, ↓w_raise1, ↓w_raise2, ↓w_try, ↓w_tryAs, ↓w_var, ↓w_c, ↓w_op, ↓w_chain, ↓w_notV, ↓w_andV, ↓w_orV, ↓w_ifE, ↓w_tst, ↓w_not, ↓w_and, ↓w_or, ↓w_yes, ↓w_nil, ↓w_cons, ↓w_tup, ↓w_lst, ↓w_lstT, ↓w_cb, ↓w_call, ↓w_callK, ↓w_neg, ↓w_no, ↓w_pt, ↓w_sl, ↓w_fld, ↓w_src, ↓w_rng, ↓w_enu, ↓w_listT, ↓w_app, ↓w_lc, ↓w_xf, ↓w_fldT, ↓w_make, ↓w_makeL, ↓w_run, ↓w_cut, ↓w_pure, ↓w_drop, nth2_eq, nth3_eq, w_ok, w_ex, w_nx, w_rt, w_bk, w_ct, w_exS, w_some, w_v, w_tr, w_fa, w_tb, w_ti, w_tn, w_L, w_L0, wb_not, cn_f, startD, arr, gN_eq, gTp, gTl, gCn, gNl, Option.bind_some, List.filterMap_cons, List.filterMap_nil, List.map_cons, List.map_nil, List.replicate_succ, List.replicate_zero, List.cons_append, List.nil_append, List.getElem?_cons_zero, List.getElem?_cons_succ, List.set_cons_zero, List.set_cons_succ, List.length_cons, List.length_nil, Nat.reduceAdd, Nat.reduceSub, Nat.reduceLeDiff, Nat.reduceEqDiff, Int.reducePow, Int.reduceToNat, Int.reduceNeg, Int.reduceAdd, Int.reduceMul, Int.reduceSub, Int.reduceLT, Int.reduceLE, Int.reduceEq, Nat.zero_add, Int.zero_add, big_eq, true_and, and_true, and_self, dSub_int, dAdd_int, dAddI_int, dLt_int, dLe_int, dGt_int, dGe_int, dEqD_int, bInt_int, bLen_lst, bLen_tup, bMin_int, bMax_int, bAbs_int, dIs_non, dIs_int, dIs_nn, Bool.not_true, Bool.not_false, decide_true, decide_false, reduceIte, Bool.false_eq_true, if_false, if_true, iSeq_lst, iSeq_tup, iSeq_rdl, iEnu_lst, iEnu_tup]
      rw [rng2 (by decide) (by decide) (by omega) (by omega), w_some]
      have en : ((left : Int) + 1 - 1).toNat = left := by omega
      rw [en]
      generalize hacc : ((List.range i).map fun (i : Nat) => Dl + (i : Int)).foldl (fun b t => (rgH left).foldl (G t) b) 0 = acc
      refine ws_rng (fun j L s' => ∃ (ks' : List (List Int)) (vs' : List D) (y12 y13 : Option D), L = [some (.tup [.int M.o, .int M.l, .int M.g]), some (.int e), some (.int left), some (.int later), some (.int before), some (.ref p), some (.int M.o), some (.int M.l), some (.int M.g), some (.int (((List.range j).map fun i => i + 1).foldl (G t) acc)), some (.int last), some (.int t), y12, y13] ∧ s' = s.set p (.dt ks' vs') ∧ TOk M ks' vs') ⟨ks1, vs1, _, _, rfl, rfl, hT1⟩ ?_ ?_
      · rintro j L s' hj ⟨ks2, vs2, y12, y13, rfl, rfl, hT2⟩
        have hp2 := set_at hp (.dt ks2 vs2)
        have hx : (1 : Int) + j = ((j + 1 : Nat) : Int) := by omega
        obtain ⟨ks3, vs3, hT3, e3⟩ := hB (j + 1) (t - 2 * M.o - M.l) (s.set p (.dt ks2 vs2)) p ks2 vs2 (by omega) (by omega) (by omega) (by omega) (by omega) hp2 hT2
        rw [List.set_set] at e3
        have hp3 := set_at hp (.dt ks3 vs3)
        obtain ⟨ks4, vs4, hT4, e4⟩ := hL (left - (j + 1)) e (later + 1) t (s.set p (.dt ks3 vs3)) p ks3 vs3 (by omega) (by omega) e0 e9 (by omega) (by omega) (by omega) hp3 hT3
        rw [List.set_set] at e4
        have ec : ((left - (j + 1) : Nat) : Int) = (left : Int) - ((j + 1 : Nat) : Int) := by omega
        rw [ec] at e4
        rw [um] at e3 e4
        simp (implicitDefEqProofs := false) only [hx, m3, e3, e4, bMax_int, ↓w_srtT, ↓w_par2, ↓w_par3, ↓w_setd, ↓w_dict1, ↓w_maxDf, ↓w_slT, ↓w_addT, ↓w_dictT, ↓w_dictI, ↓w_get, ↓w_lrg1T, ↓w_lrg2T, ↓w_lrg1, ↓w_lrg2, ↓w_pop0, ↓w_lcT, ↓w_mth, ↓w_calm, ↓w_tryM, ↓w_tm0, ↓w_tmN, ↓w_tmS, ↓w_seq, ↓w_next, ↓w_break, ↓w_cont, ↓w_retN, ↓w_asg, ↓w_expr, ↓w_ret, ↓w_if, ↓w_asgG, ↓w_for, ↓w_put, ↓w_aug, ↓w_augS, ↓w_raise0, ↓w_raise1, ↓w_raise2, ↓w_try, ↓w_tryAs, ↓w_var, ↓w_c, ↓w_op, ↓w_chain, ↓w_notV, ↓w_andV, ↓w_orV, ↓w_ifE, ↓w_tst, ↓w_not, ↓w_and, ↓w_or, ↓w_yes, ↓w_nil, ↓w_cons, ↓w_tup, ↓w_lst, ↓w_lstT, ↓w_cb, ↓w_call, ↓w_callK, ↓w_neg, ↓w_no, ↓w_pt, ↓w_sl, ↓w_fld, ↓w_src, ↓w_rng, ↓w_enu, ↓w_listT, ↓w_app, ↓w_lc, ↓w_xf, ↓w_fldT, ↓w_make, ↓w_makeL, ↓w_run, ↓w_cut, ↓w_pure, ↓w_drop, nth2_eq, nth3_eq, w_ok, w_ex, w_nx, w_rt, w_bk, w_ct, w_exS, w_some, w_v, w_tr, w_fa, w_tb, w_ti, w_tn, w_L, w_L0, wb_not, cn_f, startD, arr, gN_eq, gTp, gTl, gCn, gNl, Option.bind_some, List.filterMap_cons, List.filterMap_nil, List.map_cons, List.map_nil, List.replicate_succ, List.replicate_zero, List.cons_append, List.nil_append, List.getElem?_cons_zero, List.getElem?_cons_succ, List.set_cons_zero, List.set_cons_succ, List.length_cons, List.length_nil, Nat.reduceAdd, Nat.reduceSub, Nat.reduceLeDiff, Nat.reduceEqDiff, Int.reducePow, Int.reduceToNat, Int.reduceNeg, Int.reduceAdd, Int.reduceMul, Int.reduceSub, Int.reduceLT, Int.reduceLE, Int.reduceEq, Nat.zero_add, Int.zero_add, big_eq, true_and, and_true, and_self, dSub_int, dAdd_int, dAddI_int, dLt_int, dLe_int, dGt_int, dGe_int, dEqD_int, bInt_int, bLen_lst, bLen_tup, bMin_int, bMax_int, bAbs_int, dIs_non, dIs_int, dIs_nn, Bool.not_true, Bool.not_false, decide_true, decide_false, reduceIte, Bool.false_eq_true, if_false, if_true, iSeq_lst, iSeq_tup, iSeq_rdl, iEnu_lst, iEnu_tup]
        have er := rgH_s (G t) acc j
        rw [hGv] at er
        rw [← er]
        exact ⟨ks4, vs4, _, _, rfl, rfl, hT4⟩
      · rintro L s' ⟨ks2, vs2, y12, y13, rfl, rfl, hT2⟩
        have er : ((List.range (i + 1)).map fun (i : Nat) => Dl + (i : Int)).foldl (fun b t => (rgH left).foldl (G t) b) 0 = ((List.range left).map fun i => i + 1).foldl (G t) acc := by
          rw [List.range_succ, List.map_append, List.foldl_append, hacc, et]
          rfl
        rw [← er]
        exact ⟨ks2, vs2, _, _, _, rfl, rfl, hT2⟩
    · rintro L s' ⟨ks2, vs2, y11, y12, y13, rfl, rfl, hT2⟩
      simp (implicitDefEqProofs := false) only [↓w_srtT, ↓w_par2, ↓w_par3, ↓w_setd, ↓w_dict1, ↓w_maxDf, ↓w_slT, ↓w_addT, ↓w_dictT, ↓w_dictI, ↓w_get, ↓w_lrg1T, ↓w_lrg2T, ↓w_lrg1, ↓w_lrg2, ↓w_pop0, ↓w_lcT, ↓w_mth, ↓w_calm, ↓w_tryM, ↓w_tm0, ↓w_tmN, ↓w_tmS, ↓w_seq, ↓w_next, ↓w_break, ↓w_cont, ↓w_retN, ↓w_asg, ↓w_expr, ↓w_ret, ↓w_if, ↓w_asgG, ↓w_for, ↓w_put, ↓w_aug, ↓w_augS, ↓w_raise0, ↓w_raise1, ↓w_raise2, ↓w_try, ↓w_tryAs, ↓w_var, ↓w_c, ↓w_op, ↓w_chain, ↓w_notV, ↓w_andV, ↓w_orV, ↓w_ifE, ↓w_tst, ↓w_not, ↓w_and, ↓w_or, ↓w_yes, ↓w_nil, ↓w_cons, ↓w_tup, ↓w_lst, ↓w_lstT, ↓w_cb, ↓w_call, ↓w_callK, ↓w_neg, ↓w_no, ↓w_pt, ↓w_sl, ↓w_fld, ↓w_src, ↓w_rng, ↓w_enu, ↓w_listT, ↓w_app, ↓w_lc, ↓w_xf, ↓w_fldT, ↓w_make, ↓w_makeL, ↓w_run, ↓w_cut, ↓w_pure, ↓w_drop, nth2_eq, nth3_eq, w_ok, w_ex, w_nx, w_rt, w_bk, w_ct, w_exS, w_some, w_v, w_tr, w_fa, w_tb, w_ti, w_tn, w_L, w_L0, wb_not, cn_f, startD, arr, gN_eq, gTp, gTl, gCn, gNl, Option.bind_some, List.filterMap_cons, List.filterMap_nil, List.map_cons, List.map_nil, List.replicate_succ, List.replicate_zero, List.cons_append, List.nil_append, List.getElem?_cons_zero, List.getElem?_cons_succ, List.set_cons_zero, List.set_cons_succ, List.length_cons, List.length_nil, Nat.reduceAdd, Nat.reduceSub, Nat.reduceLeDiff, Nat.reduceEqDiff, Int.reducePow, Int.reduceToNat, Int.reduceNeg, Int.reduceAdd, Int.reduceMul, Int.reduceSub, Int.reduceLT, Int.reduceLE, Int.reduceEq, Nat.zero_add, Int.zero_add, big_eq, true_and, and_true, and_self, dSub_int, dAdd_int, dAddI_int, dLt_int, dLe_int, dGt_int, dGe_int, dEqD_int, bInt_int, bLen_lst, bLen_tup, bMin_int, bMax_int, bAbs_int, dIs_non, dIs_int, dIs_nn, Bool.not_true, Bool.not_false, decide_true, decide_false, reduceIte, Bool.false_eq_true, if_false, if_true, iSeq_lst, iSeq_tup, iSeq_rdl, iEnu_lst, iEnu_tup]
      exact ⟨ks2, vs2, hT2, rfl⟩
theorem both (hM : SmM M) : ∀ n, LetOk c M n ∧ BesOk c M n
  | 0 => ⟨fun left e later before s p ks vs h => by omega, fun h e s p ks vs h1 h2 => by omega⟩
  | n + 1 => ⟨let_s hM n (both hM n).1 (both hM n).2, bes_s n (both hM n).1⟩
theorem best_ok (hM : SmM M) {h : Nat} {e : Int} {s : S} {p : Nat} {ks : List (List Int)} {vs : List D} (h1 : 1 ≤ h) (h4 : h ≤ 4) (e0 : 0 ≤ e) (e9 : e ≤ 9) (hp : s[p]? = some (.dt ks vs)) (hT : TOk M ks vs) : ∃ ks' vs', TOk M ks' vs' ∧ G__law_best c [mD M, .int e, .int h, .ref p] s = .ok (.int (BV M.o M.l M.g e h)) (s.set p (.dt ks' vs')) :=
  (both (c := c) hM 24).2 h e s p ks vs (by omega) h1 h4 e0 e9 hp hT
theorem all_eq (hM : SmM M) {n : Nat} (n0 : 1 ≤ n) (n4 : n ≤ 4) (T0 : 0 ≤ T) (T9 : T ≤ 9) : GT M n T = BV M.o M.l M.g T n := by
  have h := chkS_ok
  unfold chkS at h
  have o0 := hM.ok.o0
  have o3 := hM.o3
  have l0 := hM.ok.l0
  have l4 := hM.l4
  have g6 := hM.g6
  have g1 := hM.ok.g0
  have D0 : 0 < 2 * M.o + M.l := hM.ok.letter0
  obtain ⟨o, l, g⟩ := M
  dsimp only at *
  obtain ⟨o, rfl⟩ := Int.eq_ofNat_of_zero_le o0
  obtain ⟨l, rfl⟩ := Int.eq_ofNat_of_zero_le l0
  obtain ⟨T, rfl⟩ := Int.eq_ofNat_of_zero_le T0
  obtain ⟨g', rfl⟩ : ∃ g' : Nat, g = (g' : Int) + 1 := ⟨(g - 1).toNat, by omega⟩
  obtain ⟨n, rfl⟩ : ∃ n', n = n' + 1 := ⟨n - 1, by omega⟩
  have h1 := List.all_eq_true.mp h o (List.mem_range.mpr (by omega))
  have h2 := List.all_eq_true.mp h1 l (List.mem_range.mpr (by omega))
  have h3 := List.all_eq_true.mp h2 g' (List.mem_range.mpr (by omega))
  rw [Bool.or_eq_true] at h3
  rcases h3 with h3 | h3
  · rw [Bool.and_eq_true] at h3
    have a1 : o = 0 := by simpa using h3.1
    have a2 : l = 0 := by simpa using h3.2
    subst a1 a2
    omega
  · have h4 := List.all_eq_true.mp h3 T (List.mem_range.mpr (by omega))
    have h5 := List.all_eq_true.mp h4 n (List.mem_range.mpr (by omega))
    exact of_decide_eq_true h5
theorem mkm (hM : M.Ok) (s : S) : mkD c.Machine 4 (G_Machine___init__ c) [.int M.o, .int M.l, .int M.g] s = .ok (M.d c) s := mk_ok hM s
theorem law_true (c : Cl) (hc : OkC c) (ns : List Int) (hl : ns.length ≤ 63) (hb : ∀ z ∈ ns, Builtin.Int.intBits z ≤ 1048576) : ∃ s', G_law c [.rdl (ns.map D.int)] [] = .ok (.bl true) s' := by
  suffices h : @WR _ (G_law c [.rdl (ns.map D.int)] []) ⟨fun d s' => d = .bl true⟩ ⟨nE⟩ by
    revert h
    generalize G_law c [.rdl (ns.map D.int)] [] = z
    intro h
    obtain ⟨a, s', h1, rfl⟩ := ex_ok h
    exact ⟨s', h1⟩
  have hBe := fun {M : Mc} (hM : SmM M) {h : Nat} {e : Int} {s : S} {p : Nat} {ks : List (List Int)} {vs : List D} (h1 : 1 ≤ h) (h4 : h ≤ 4) (e0 : 0 ≤ e) (e9 : e ≤ 9) (hp : s[p]? = some (.dt ks vs)) (hT : TOk M ks vs) => best_ok (c := c) hM h1 h4 e0 e9 hp hT
  unfold G_law
  generalize G__law_best c = bG at *
  simp (implicitDefEqProofs := false) only [eSrc, ↓w_srtT, ↓w_par2, ↓w_par3, ↓w_setd, ↓w_dict1, ↓w_maxDf, ↓w_slT, ↓w_addT, ↓w_dictT, ↓w_dictI, ↓w_get, ↓w_lrg1T, ↓w_lrg2T, ↓w_lrg1, ↓w_lrg2, ↓w_pop0, ↓w_lcT, ↓w_mth, ↓w_calm, ↓w_tryM, ↓w_tm0, ↓w_tmN, ↓w_tmS, ↓w_seq, ↓w_next, ↓w_break, ↓w_cont, ↓w_retN, ↓w_asg, ↓w_expr, ↓w_ret, ↓w_if, ↓w_asgG, ↓w_for, ↓w_put, ↓w_aug, ↓w_augS, ↓w_raise0, ↓w_raise1, ↓w_raise2, ↓w_try, ↓w_tryAs, ↓w_var, ↓w_c, ↓w_op, ↓w_chain, ↓w_notV, ↓w_andV, ↓w_orV, ↓w_ifE, ↓w_tst, ↓w_not, ↓w_and, ↓w_or, ↓w_yes, ↓w_nil, ↓w_cons, ↓w_tup, ↓w_lst, ↓w_lstT, ↓w_cb, ↓w_call, ↓w_callK, ↓w_neg, ↓w_no, ↓w_pt, ↓w_sl, ↓w_fld, ↓w_src, ↓w_rng, ↓w_enu, ↓w_listT, ↓w_app, ↓w_lc, ↓w_xf, ↓w_fldT, ↓w_make, ↓w_makeL, ↓w_run, ↓w_cut, ↓w_pure, ↓w_drop, nth2_eq, nth3_eq, w_ok, w_ex, w_nx, w_rt, w_bk, w_ct, w_exS, w_some, w_v, w_tr, w_fa, w_tb, w_ti, w_tn, w_L, w_L0, wb_not, cn_f, startD, arr, gN_eq, gTp, gTl, gCn, gNl, Option.bind_some, List.filterMap_cons, List.filterMap_nil, List.map_cons, List.map_nil, List.replicate_succ, List.replicate_zero, List.cons_append, List.nil_append, List.getElem?_cons_zero, List.getElem?_cons_succ, List.set_cons_zero, List.set_cons_succ, List.length_cons, List.length_nil, Nat.reduceAdd, Nat.reduceSub, Nat.reduceLeDiff, Nat.reduceEqDiff, Int.reducePow, Int.reduceToNat, Int.reduceNeg, Int.reduceAdd, Int.reduceMul, Int.reduceSub, Int.reduceLT, Int.reduceLE, Int.reduceEq, Nat.zero_add, Int.zero_add, big_eq, true_and, and_true, and_self, dSub_int, dAdd_int, dAddI_int, dLt_int, dLe_int, dGt_int, dGe_int, dEqD_int, bInt_int, bLen_lst, bLen_tup, bMin_int, bMax_int, bAbs_int, dIs_non, dIs_int, dIs_nn, Bool.not_true, Bool.not_false, decide_true, decide_false, reduceIte, Bool.false_eq_true, if_false, if_true, iSeq_lst, iSeq_tup, iSeq_rdl, iEnu_lst, iEnu_tup]
  refine src_wp hl hb fun v ok => ?_
  obtain ⟨N, eN⟩ : ∃ N : Nat, N = (2 : Int).toNat := ⟨_, rfl⟩
  have hN : N = 2 := eN
  simp (implicitDefEqProofs := false) only [↓w_srtT, ↓w_par2, ↓w_par3, ↓w_setd, ↓w_dict1, ↓w_maxDf, ↓w_slT, ↓w_addT, ↓w_dictT, ↓w_dictI, ↓w_get, ↓w_lrg1T, ↓w_lrg2T, ↓w_lrg1, ↓w_lrg2, ↓w_pop0, ↓w_lcT, ↓w_mth, ↓w_calm, ↓w_tryM, ↓w_tm0, ↓w_tmN, ↓w_tmS, ↓w_seq, ↓w_next, ↓w_break, ↓w_cont, ↓w_retN, ↓w_asg, ↓w_expr, ↓w_ret, ↓w_if, ↓w_asgG, ↓w_for, ↓w_put, ↓w_aug, ↓w_augS, ↓w_raise0, ↓w_raise1, ↓w_raise2, ↓w_try, ↓w_tryAs, ↓w_var, ↓w_c, ↓w_op, ↓w_chain, ↓w_notV, ↓w_andV, ↓w_orV, ↓w_ifE, ↓w_tst, ↓w_not, ↓w_and, ↓w_or, ↓w_yes, ↓w_nil, ↓w_cons, ↓w_tup, ↓w_lst, ↓w_lstT, ↓w_cb, ↓w_call, ↓w_callK, ↓w_neg, ↓w_no, ↓w_pt, ↓w_sl, ↓w_fld, ↓w_src, ↓w_rng, ↓w_enu, ↓w_listT, ↓w_app, ↓w_lc, ↓w_xf, ↓w_fldT, ↓w_make, ↓w_makeL, ↓w_run, ↓w_cut, ↓w_pure, ↓w_drop, nth2_eq, nth3_eq, w_ok, w_ex, w_nx, w_rt, w_bk, w_ct, w_exS, w_some, w_v, w_tr, w_fa, w_tb, w_ti, w_tn, w_L, w_L0, wb_not, cn_f, startD, arr, gN_eq, gTp, gTl, gCn, gNl, Option.bind_some, List.filterMap_cons, List.filterMap_nil, List.map_cons, List.map_nil, List.replicate_succ, List.replicate_zero, List.cons_append, List.nil_append, List.getElem?_cons_zero, List.getElem?_cons_succ, List.set_cons_zero, List.set_cons_succ, List.length_cons, List.length_nil, Nat.reduceAdd, Nat.reduceSub, Nat.reduceLeDiff, Nat.reduceEqDiff, Int.reducePow, Int.reduceToNat, Int.reduceNeg, Int.reduceAdd, Int.reduceMul, Int.reduceSub, Int.reduceLT, Int.reduceLE, Int.reduceEq, Nat.zero_add, Int.zero_add, big_eq, true_and, and_true, and_self, dSub_int, dAdd_int, dAddI_int, dLt_int, dLe_int, dGt_int, dGe_int, dEqD_int, bInt_int, bLen_lst, bLen_tup, bMin_int, bMax_int, bAbs_int, dIs_non, dIs_int, dIs_nn, Bool.not_true, Bool.not_false, decide_true, decide_false, reduceIte, Bool.false_eq_true, if_false, if_true, iSeq_lst, iSeq_tup, iSeq_rdl, iEnu_lst, iEnu_tup]
  rw [rng1 (by decide) (by decide), w_some, ← eN]
  refine ws_rng (fun i L s => ∃ (v' : SrcV) (r : S) (y2 y3 y4 y5 y6 y7 : Option D), L = [some (.rdl (ns.map D.int)), some (.ref 0), y2, y3, y4, y5, y6, y7] ∧ s = v'.o :: r ∧ (∀ o ∈ r, PurO o) ∧ v'.Ok (10 + 10 * i)) ⟨v, [], _, _, _, _, _, _, rfl, rfl, (fun o h => by cases h), ok.mono (by omega)⟩ ?_ ?_
  · rintro i L s hi ⟨v', r, y2, y3, y4, y5, y6, y7, rfl, rfl, hr, ok'⟩
    simp (implicitDefEqProofs := false) only [↓w_srtT, ↓w_par2, ↓w_par3, ↓w_setd, ↓w_dict1, ↓w_maxDf, ↓w_slT, ↓w_addT, ↓w_dictT, ↓w_dictI, ↓w_get, ↓w_lrg1T, ↓w_lrg2T, ↓w_lrg1, ↓w_lrg2, ↓w_pop0, ↓w_lcT, ↓w_mth, ↓w_calm, ↓w_tryM, ↓w_tm0, ↓w_tmN, ↓w_tmS, ↓w_seq, ↓w_next, ↓w_break, ↓w_cont, ↓w_retN, ↓w_asg, ↓w_expr, ↓w_ret, ↓w_if, ↓w_asgG, ↓w_for, ↓w_put, ↓w_aug, ↓w_augS, ↓w_raise0, ↓w_raise1, ↓w_raise2, ↓w_try, ↓w_tryAs, ↓w_var, ↓w_c, ↓w_op, ↓w_chain, ↓w_notV, ↓w_andV, ↓w_orV, ↓w_ifE, ↓w_tst, ↓w_not, ↓w_and, ↓w_or, ↓w_yes, ↓w_nil, ↓w_cons, ↓w_tup, ↓w_lst, ↓w_lstT, ↓w_cb, ↓w_call, ↓w_callK, ↓w_neg, ↓w_no, ↓w_pt, ↓w_sl, ↓w_fld, ↓w_src, ↓w_rng, ↓w_enu, ↓w_listT, ↓w_app, ↓w_lc, ↓w_xf, ↓w_fldT, ↓w_make, ↓w_makeL, ↓w_run, ↓w_cut, ↓w_pure, ↓w_drop, nth2_eq, nth3_eq, w_ok, w_ex, w_nx, w_rt, w_bk, w_ct, w_exS, w_some, w_v, w_tr, w_fa, w_tb, w_ti, w_tn, w_L, w_L0, wb_not, cn_f, startD, arr, gN_eq, gTp, gTl, gCn, gNl, Option.bind_some, List.filterMap_cons, List.filterMap_nil, List.map_cons, List.map_nil, List.replicate_succ, List.replicate_zero, List.cons_append, List.nil_append, List.getElem?_cons_zero, List.getElem?_cons_succ, List.set_cons_zero, List.set_cons_succ, List.length_cons, List.length_nil, Nat.reduceAdd, Nat.reduceSub, Nat.reduceLeDiff, Nat.reduceEqDiff, Int.reducePow, Int.reduceToNat, Int.reduceNeg, Int.reduceAdd, Int.reduceMul, Int.reduceSub, Int.reduceLT, Int.reduceLE, Int.reduceEq, Nat.zero_add, Int.zero_add, big_eq, true_and, and_true, and_self, dSub_int, dAdd_int, dAddI_int, dLt_int, dLe_int, dGt_int, dGe_int, dEqD_int, bInt_int, bLen_lst, bLen_tup, bMin_int, bMax_int, bAbs_int, dIs_non, dIs_int, dIs_nn, Bool.not_true, Bool.not_false, decide_true, decide_false, reduceIte, Bool.false_eq_true, if_false, if_true, iSeq_lst, iSeq_tup, iSeq_rdl, iEnu_lst, iEnu_tup]
    refine small_wp ok' (by omega) fun M v1 hM ok1 => ?_
    simp (implicitDefEqProofs := false) only [eDraw, ↓w_srtT, ↓w_par2, ↓w_par3, ↓w_setd, ↓w_dict1, ↓w_maxDf, ↓w_slT, ↓w_addT, ↓w_dictT, ↓w_dictI, ↓w_get, ↓w_lrg1T, ↓w_lrg2T, ↓w_lrg1, ↓w_lrg2, ↓w_pop0, ↓w_lcT, ↓w_mth, ↓w_calm, ↓w_tryM, ↓w_tm0, ↓w_tmN, ↓w_tmS, ↓w_seq, ↓w_next, ↓w_break, ↓w_cont, ↓w_retN, ↓w_asg, ↓w_expr, ↓w_ret, ↓w_if, ↓w_asgG, ↓w_for, ↓w_put, ↓w_aug, ↓w_augS, ↓w_raise0, ↓w_raise1, ↓w_raise2, ↓w_try, ↓w_tryAs, ↓w_var, ↓w_c, ↓w_op, ↓w_chain, ↓w_notV, ↓w_andV, ↓w_orV, ↓w_ifE, ↓w_tst, ↓w_not, ↓w_and, ↓w_or, ↓w_yes, ↓w_nil, ↓w_cons, ↓w_tup, ↓w_lst, ↓w_lstT, ↓w_cb, ↓w_call, ↓w_callK, ↓w_neg, ↓w_no, ↓w_pt, ↓w_sl, ↓w_fld, ↓w_src, ↓w_rng, ↓w_enu, ↓w_listT, ↓w_app, ↓w_lc, ↓w_xf, ↓w_fldT, ↓w_make, ↓w_makeL, ↓w_run, ↓w_cut, ↓w_pure, ↓w_drop, nth2_eq, nth3_eq, w_ok, w_ex, w_nx, w_rt, w_bk, w_ct, w_exS, w_some, w_v, w_tr, w_fa, w_tb, w_ti, w_tn, w_L, w_L0, wb_not, cn_f, startD, arr, gN_eq, gTp, gTl, gCn, gNl, Option.bind_some, List.filterMap_cons, List.filterMap_nil, List.map_cons, List.map_nil, List.replicate_succ, List.replicate_zero, List.cons_append, List.nil_append, List.getElem?_cons_zero, List.getElem?_cons_succ, List.set_cons_zero, List.set_cons_succ, List.length_cons, List.length_nil, Nat.reduceAdd, Nat.reduceSub, Nat.reduceLeDiff, Nat.reduceEqDiff, Int.reducePow, Int.reduceToNat, Int.reduceNeg, Int.reduceAdd, Int.reduceMul, Int.reduceSub, Int.reduceLT, Int.reduceLE, Int.reduceEq, Nat.zero_add, Int.zero_add, big_eq, true_and, and_true, and_self, dSub_int, dAdd_int, dAddI_int, dLt_int, dLe_int, dGt_int, dGe_int, dEqD_int, bInt_int, bLen_lst, bLen_tup, bMin_int, bMax_int, bAbs_int, dIs_non, dIs_int, dIs_nn, Bool.not_true, Bool.not_false, decide_true, decide_false, reduceIte, Bool.false_eq_true, if_false, if_true, iSeq_lst, iSeq_tup, iSeq_rdl, iEnu_lst, iEnu_tup]
    refine draw_wp ok1 (by omega) (by decide) (by decide +kernel) fun T v2 t0 t1 ok2 => ?_
    have f0 : ∀ s, dIx s (mD M) (.int 0) = some (.int M.o) := fun s => it0 ..
    have f1 : ∀ s, dIx s (mD M) (.int 1) = some (.int M.l) := fun s => it1 ..
    have f2 : ∀ s, dIx s (mD M) (.int 2) = some (.int M.g) := fun s => it2 ..
    simp (implicitDefEqProofs := false) only [f0, f1, f2, mkm hM.ok, w_dictU, ↓w_srtT, ↓w_par2, ↓w_par3, ↓w_setd, ↓w_dict1, ↓w_maxDf, ↓w_slT, ↓w_addT, ↓w_dictT, ↓w_dictI, ↓w_get, ↓w_lrg1T, ↓w_lrg2T, ↓w_lrg1, ↓w_lrg2, ↓w_pop0, ↓w_lcT, ↓w_mth, ↓w_calm, ↓w_tryM, ↓w_tm0, ↓w_tmN, ↓w_tmS, ↓w_seq, ↓w_next, ↓w_break, ↓w_cont, ↓w_retN, ↓w_asg, ↓w_expr, ↓w_ret, ↓w_if, ↓w_asgG, ↓w_for, ↓w_put, ↓w_aug, ↓w_augS, ↓w_raise0, ↓w_raise1, ↓w_raise2, ↓w_try, ↓w_tryAs, ↓w_var, ↓w_c, ↓w_op, ↓w_chain, ↓w_notV, ↓w_andV, ↓w_orV, ↓w_ifE, ↓w_tst, ↓w_not, ↓w_and, ↓w_or, ↓w_yes, ↓w_nil, ↓w_cons, ↓w_tup, ↓w_lst, ↓w_lstT, ↓w_cb, ↓w_call, ↓w_callK, ↓w_neg, ↓w_no, ↓w_pt, ↓w_sl, ↓w_fld, ↓w_src, ↓w_rng, ↓w_enu, ↓w_listT, ↓w_app, ↓w_lc, ↓w_xf, ↓w_fldT, ↓w_make, ↓w_makeL, ↓w_run, ↓w_cut, ↓w_pure, ↓w_drop, nth2_eq, nth3_eq, w_ok, w_ex, w_nx, w_rt, w_bk, w_ct, w_exS, w_some, w_v, w_tr, w_fa, w_tb, w_ti, w_tn, w_L, w_L0, wb_not, cn_f, startD, arr, gN_eq, gTp, gTl, gCn, gNl, Option.bind_some, List.filterMap_cons, List.filterMap_nil, List.map_cons, List.map_nil, List.replicate_succ, List.replicate_zero, List.cons_append, List.nil_append, List.getElem?_cons_zero, List.getElem?_cons_succ, List.set_cons_zero, List.set_cons_succ, List.length_cons, List.length_nil, Nat.reduceAdd, Nat.reduceSub, Nat.reduceLeDiff, Nat.reduceEqDiff, Int.reducePow, Int.reduceToNat, Int.reduceNeg, Int.reduceAdd, Int.reduceMul, Int.reduceSub, Int.reduceLT, Int.reduceLE, Int.reduceEq, Nat.zero_add, Int.zero_add, big_eq, true_and, and_true, and_self, dSub_int, dAdd_int, dAddI_int, dLt_int, dLe_int, dGt_int, dGe_int, dEqD_int, bInt_int, bLen_lst, bLen_tup, bMin_int, bMax_int, bAbs_int, dIs_non, dIs_int, dIs_nn, Bool.not_true, Bool.not_false, decide_true, decide_false, reduceIte, Bool.false_eq_true, if_false, if_true, iSeq_lst, iSeq_tup, iSeq_rdl, iEnu_lst, iEnu_tup]
    obtain ⟨K, eK⟩ : ∃ K : Nat, K = ((5 : Int) - 1).toNat := ⟨_, rfl⟩
    have hK : K = 4 := eK
    rw [rng2 (by decide) (by decide) (by decide) (by decide), w_some, ← eK]
    refine ws_rng (fun j L s => ∃ (ks : List (List Int)) (vs : List D) (y7 : Option D), L = [some (.rdl (ns.map D.int)), some (.ref 0), some (.int (i : Int)), some (mD M), some (.int T), some (M.d c), some (.ref (r.length + 1)), y7] ∧ s = v2.o :: (r ++ [.dt ks vs]) ∧ TOk M ks vs) ⟨[], [], _, rfl, rfl, tok0 M⟩ ?_ ?_
    · rintro j L s hj ⟨ks, vs, y7, rfl, rfl, hT⟩
      have hx : (1 : Int) + j = ((j + 1 : Nat) : Int) := by omega
      have hp : (v2.o :: (r ++ [.dt ks vs]))[r.length + 1]? = some (.dt ks vs) := by simp
      obtain ⟨ks', vs', hT', e1⟩ := hBe hM (h := j + 1) (by omega) (by omega) t0 (by omega) hp hT
      have es : (v2.o :: (r ++ [.dt ks vs])).set (r.length + 1) (.dt ks' vs') = v2.o :: (r ++ [.dt ks' vs']) := by simp
      rw [es] at e1
      have hpur : ∀ o ∈ v2.o :: (r ++ [.dt ks vs]), PurO o := pur_cons (fun o ho => by
        rcases List.mem_append.mp ho with ho | ho
        · exact hr o ho
        · rw [List.mem_singleton.mp ho]
          exact fun n => bels_pur hT.pur) (pur_srcv v2)
      have hms := summed_ok (c := c) M (n := j + 1) (by omega) (by omega) t0 (show T ≤ 1000000000000 by omega) (v2.o :: (r ++ [.dt ks vs])) (bel_pur hpur)
      have ea := all_eq hM (n := j + 1) (by omega) (by omega) t0 (by omega)
      rw [ea] at hms
      have is1 := SI.is_ok (c := c) (BV M.o M.l M.g T (j + 1)) (BV M.o M.l M.g T (j + 1)) (v2.o :: (r ++ [.dt ks' vs']))
      simp (implicitDefEqProofs := false) only [hx, hms, e1, eIs, is1, ↓w_srtT, ↓w_par2, ↓w_par3, ↓w_setd, ↓w_dict1, ↓w_maxDf, ↓w_slT, ↓w_addT, ↓w_dictT, ↓w_dictI, ↓w_get, ↓w_lrg1T, ↓w_lrg2T, ↓w_lrg1, ↓w_lrg2, ↓w_pop0, ↓w_lcT, ↓w_mth, ↓w_calm, ↓w_tryM, ↓w_tm0, ↓w_tmN, ↓w_tmS, ↓w_seq, ↓w_next, ↓w_break, ↓w_cont, ↓w_retN, ↓w_asg, ↓w_expr, ↓w_ret, ↓w_if, ↓w_asgG, ↓w_for, ↓w_put, ↓w_aug, ↓w_augS, ↓w_raise0, ↓w_raise1, ↓w_raise2, ↓w_try, ↓w_tryAs, ↓w_var, ↓w_c, ↓w_op, ↓w_chain, ↓w_notV, ↓w_andV, ↓w_orV, ↓w_ifE, ↓w_tst, ↓w_not, ↓w_and, ↓w_or, ↓w_yes, ↓w_nil, ↓w_cons, ↓w_tup, ↓w_lst, ↓w_lstT, ↓w_cb, ↓w_call, ↓w_callK, ↓w_neg, ↓w_no, ↓w_pt, ↓w_sl, ↓w_fld, ↓w_src, ↓w_rng, ↓w_enu, ↓w_listT, ↓w_app, ↓w_lc, ↓w_xf, ↓w_fldT, ↓w_make, ↓w_makeL, ↓w_run, ↓w_cut, ↓w_pure, ↓w_drop, nth2_eq, nth3_eq, w_ok, w_ex, w_nx, w_rt, w_bk, w_ct, w_exS, w_some, w_v, w_tr, w_fa, w_tb, w_ti, w_tn, w_L, w_L0, wb_not, cn_f, startD, arr, gN_eq, gTp, gTl, gCn, gNl, Option.bind_some, List.filterMap_cons, List.filterMap_nil, List.map_cons, List.map_nil, List.replicate_succ, List.replicate_zero, List.cons_append, List.nil_append, List.getElem?_cons_zero, List.getElem?_cons_succ, List.set_cons_zero, List.set_cons_succ, List.length_cons, List.length_nil, Nat.reduceAdd, Nat.reduceSub, Nat.reduceLeDiff, Nat.reduceEqDiff, Int.reducePow, Int.reduceToNat, Int.reduceNeg, Int.reduceAdd, Int.reduceMul, Int.reduceSub, Int.reduceLT, Int.reduceLE, Int.reduceEq, Nat.zero_add, Int.zero_add, big_eq, true_and, and_true, and_self, dSub_int, dAdd_int, dAddI_int, dLt_int, dLe_int, dGt_int, dGe_int, dEqD_int, bInt_int, bLen_lst, bLen_tup, bMin_int, bMax_int, bAbs_int, dIs_non, dIs_int, dIs_nn, Bool.not_true, Bool.not_false, decide_true, decide_false, reduceIte, Bool.false_eq_true, if_false, if_true, iSeq_lst, iSeq_tup, iSeq_rdl, iEnu_lst, iEnu_tup]
      exact ⟨ks', vs', _, rfl, rfl, hT'⟩
    · rintro L s ⟨ks, vs, y7, rfl, rfl, hT⟩
      refine ⟨v2, r ++ [.dt ks vs], _, _, _, _, _, _, rfl, rfl, fun o ho => ?_, ok2.mono (by omega)⟩
      rcases List.mem_append.mp ho with ho | ho
      · exact hr o ho
      · rw [List.mem_singleton.mp ho]
        exact fun n => bels_pur hT.pur
  · rintro L s ⟨v', r, y2, y3, y4, y5, y6, y7, rfl, rfl, hr, ok'⟩
    simp (implicitDefEqProofs := false) only [↓w_srtT, ↓w_par2, ↓w_par3, ↓w_setd, ↓w_dict1, ↓w_maxDf, ↓w_slT, ↓w_addT, ↓w_dictT, ↓w_dictI, ↓w_get, ↓w_lrg1T, ↓w_lrg2T, ↓w_lrg1, ↓w_lrg2, ↓w_pop0, ↓w_lcT, ↓w_mth, ↓w_calm, ↓w_tryM, ↓w_tm0, ↓w_tmN, ↓w_tmS, ↓w_seq, ↓w_next, ↓w_break, ↓w_cont, ↓w_retN, ↓w_asg, ↓w_expr, ↓w_ret, ↓w_if, ↓w_asgG, ↓w_for, ↓w_put, ↓w_aug, ↓w_augS, ↓w_raise0, ↓w_raise1, ↓w_raise2, ↓w_try, ↓w_tryAs, ↓w_var, ↓w_c, ↓w_op, ↓w_chain, ↓w_notV, ↓w_andV, ↓w_orV, ↓w_ifE, ↓w_tst, ↓w_not, ↓w_and, ↓w_or, ↓w_yes, ↓w_nil, ↓w_cons, ↓w_tup, ↓w_lst, ↓w_lstT, ↓w_cb, ↓w_call, ↓w_callK, ↓w_neg, ↓w_no, ↓w_pt, ↓w_sl, ↓w_fld, ↓w_src, ↓w_rng, ↓w_enu, ↓w_listT, ↓w_app, ↓w_lc, ↓w_xf, ↓w_fldT, ↓w_make, ↓w_makeL, ↓w_run, ↓w_cut, ↓w_pure, ↓w_drop, nth2_eq, nth3_eq, w_ok, w_ex, w_nx, w_rt, w_bk, w_ct, w_exS, w_some, w_v, w_tr, w_fa, w_tb, w_ti, w_tn, w_L, w_L0, wb_not, cn_f, startD, arr, gN_eq, gTp, gTl, gCn, gNl, Option.bind_some, List.filterMap_cons, List.filterMap_nil, List.map_cons, List.map_nil, List.replicate_succ, List.replicate_zero, List.cons_append, List.nil_append, List.getElem?_cons_zero, List.getElem?_cons_succ, List.set_cons_zero, List.set_cons_succ, List.length_cons, List.length_nil, Nat.reduceAdd, Nat.reduceSub, Nat.reduceLeDiff, Nat.reduceEqDiff, Int.reducePow, Int.reduceToNat, Int.reduceNeg, Int.reduceAdd, Int.reduceMul, Int.reduceSub, Int.reduceLT, Int.reduceLE, Int.reduceEq, Nat.zero_add, Int.zero_add, big_eq, true_and, and_true, and_self, dSub_int, dAdd_int, dAddI_int, dLt_int, dLe_int, dGt_int, dGe_int, dEqD_int, bInt_int, bLen_lst, bLen_tup, bMin_int, bMax_int, bAbs_int, dIs_non, dIs_int, dIs_nn, Bool.not_true, Bool.not_false, decide_true, decide_false, reduceIte, Bool.false_eq_true, if_false, if_true, iSeq_lst, iSeq_tup, iSeq_rdl, iEnu_lst, iEnu_tup]
end Lw

namespace Lw
open PySem PySem.Spec PyProof.Rows L2 SI Pg
theorem sc_InvalidMachine___init__ : FnScope ["self", "part"] ["self", "part"] (defScope s_InvalidMachine___init__) := ⟨rfl, rfl, rfl, by decide +kernel, rfl, by decide +kernel, by decide +kernel⟩
theorem sc_is_integer : FnScope ["thing"] ["thing"] (defScope s_is_integer) := ⟨rfl, rfl, rfl, by decide +kernel, rfl, by decide +kernel, by decide +kernel⟩
theorem sc_between : FnScope ["thing", "low", "high"] ["thing", "low", "high"] (defScope s_between) := ⟨rfl, rfl, rfl, by decide +kernel, rfl, by decide +kernel, by decide +kernel⟩
theorem sc_checked_count : FnScope ["n", "low", "high"] ["n", "low", "high"] (defScope s_checked_count) := ⟨rfl, rfl, rfl, by decide +kernel, rfl, by decide +kernel, by decide +kernel⟩
theorem sc_Machine___init__ : FnScope ["self", "o", "l", "g"] ["self", "o", "l", "g"] (defScope s_Machine___init__) := ⟨rfl, rfl, rfl, by decide +kernel, rfl, by decide +kernel, by decide +kernel⟩
theorem sc_checked_end : FnScope ["time"] ["time"] (defScope s_checked_end) := ⟨rfl, rfl, rfl, by decide +kernel, rfl, by decide +kernel, by decide +kernel⟩
theorem sc_first_hands : FnScope ["machine", "n", "letter", "gap", "found", "soonest", "time", "sender"] ["machine", "n"] (defScope s_first_hands) := ⟨rfl, rfl, rfl, by decide +kernel, rfl, by decide +kernel, by decide +kernel⟩
theorem sc_greatest : FnScope ["machine", "n", "time", "known", "sender"] ["machine", "n", "time"] (defScope s_greatest) := ⟨rfl, rfl, rfl, by decide +kernel, rfl, by decide +kernel, by decide +kernel⟩
theorem sc_most_summed : FnScope ["machine", "n", "time"] ["machine", "n", "time"] (defScope s_most_summed) := ⟨rfl, rfl, rfl, by decide +kernel, rfl, by decide +kernel, by decide +kernel⟩
theorem sc__law_source : FnScope ["_law_script", "_law_cell"] ["_law_script"] (defScope s__law_source) := ⟨rfl, rfl, rfl, by decide +kernel, rfl, by decide +kernel, by decide +kernel⟩
theorem sc__law_draw : FnScope ["_law_source_here", "_law_limit", "_law_cell", "_law_digit", "_law_one", "_law_two", "_law_three"] ["_law_source_here", "_law_limit"] (defScope s__law_draw) := ⟨rfl, rfl, rfl, by decide +kernel, rfl, by decide +kernel, by decide +kernel⟩
theorem sc__law_small : FnScope ["_law_source_here", "_law_o", "_law_l", "_law_g"] ["_law_source_here"] (defScope s__law_small) := ⟨rfl, rfl, rfl, by decide +kernel, rfl, by decide +kernel, by decide +kernel⟩
theorem sc__law_is : FnScope ["_law_thing", "_law_due"] ["_law_thing", "_law_due"] (defScope s__law_is) := ⟨rfl, rfl, rfl, by decide +kernel, rfl, by decide +kernel, by decide +kernel⟩
theorem sc__law_letters : FnScope ["_law_numbers", "_law_end", "_law_left", "_law_later", "_law_before", "_law_table", "_law_o", "_law_l", "_law_g", "_law_best_here", "_law_last", "_law_time", "_law_hands", "_law_more"] ["_law_numbers", "_law_end", "_law_left", "_law_later", "_law_before", "_law_table"] (defScope s__law_letters) := ⟨rfl, rfl, rfl, by decide +kernel, rfl, by decide +kernel, by decide +kernel⟩
theorem sc__law_best : FnScope ["_law_numbers", "_law_end", "_law_hands", "_law_table", "_law_key"] ["_law_numbers", "_law_end", "_law_hands", "_law_table"] (defScope s__law_best) := ⟨rfl, rfl, rfl, by decide +kernel, rfl, by decide +kernel, by decide +kernel⟩
theorem sc_law : FnScope ["_law_script", "_law_source_here", "_law_turn", "_law_numbers", "_law_time", "_law_machine", "_law_table", "_law_n"] ["_law_script"] (defScope s_law) := ⟨rfl, rfl, rfl, by decide +kernel, rfl, by decide +kernel, by decide +kernel⟩
set_option genInjectivity false in
structure Ad where
  a_InvalidMachine___init__ : Addr
  fd_InvalidMachine___init__ : FuncData
  a_is_integer : Addr
  fd_is_integer : FuncData
  a_between : Addr
  fd_between : FuncData
  a_checked_count : Addr
  fd_checked_count : FuncData
  a_Machine___init__ : Addr
  fd_Machine___init__ : FuncData
  a_checked_end : Addr
  fd_checked_end : FuncData
  a_first_hands : Addr
  fd_first_hands : FuncData
  a_greatest : Addr
  fd_greatest : FuncData
  a_most_summed : Addr
  fd_most_summed : FuncData
  a__law_source : Addr
  fd__law_source : FuncData
  a__law_draw : Addr
  fd__law_draw : FuncData
  a__law_small : Addr
  fd__law_small : FuncData
  a__law_is : Addr
  fd__law_is : FuncData
  a__law_letters : Addr
  fd__law_letters : FuncData
  a__law_best : Addr
  fd__law_best : FuncData
  a_law : Addr
  fd_law : FuncData
  t_GREATEST : Tok
  t_LAST_TIME : Tok
  t_MOST_HANDS : Tok
structure Txt (K : PySem.W.Frag) (mg : Str → Option Value) (c : Cl) (z : Ad) : Prop where
  F_InvalidMachine___init__ : Fun K "__init__" "InvalidMachine.__init__" s_InvalidMachine___init__ z.a_InvalidMachine___init__ z.fd_InvalidMachine___init__
  b_InvalidMachine___init__ : Binds K z.fd_InvalidMachine___init__ ["self", "part"] []
  F_is_integer : Fun K "is_integer" "is_integer" s_is_integer z.a_is_integer z.fd_is_integer
  b_is_integer : Binds K z.fd_is_integer ["thing"] []
  g_is_integer : mg "is_integer" = some (.ref z.a_is_integer)
  F_between : Fun K "between" "between" s_between z.a_between z.fd_between
  b_between : Binds K z.fd_between ["thing", "low", "high"] []
  g_between : mg "between" = some (.ref z.a_between)
  F_checked_count : Fun K "checked_count" "checked_count" s_checked_count z.a_checked_count z.fd_checked_count
  b_checked_count : Binds K z.fd_checked_count ["n", "low", "high"] []
  g_checked_count : mg "checked_count" = some (.ref z.a_checked_count)
  F_Machine___init__ : Fun K "__init__" "Machine.__init__" s_Machine___init__ z.a_Machine___init__ z.fd_Machine___init__
  b_Machine___init__ : Binds K z.fd_Machine___init__ ["self", "o", "l", "g"] []
  F_checked_end : Fun K "checked_end" "checked_end" s_checked_end z.a_checked_end z.fd_checked_end
  b_checked_end : Binds K z.fd_checked_end ["time"] []
  g_checked_end : mg "checked_end" = some (.ref z.a_checked_end)
  F_first_hands : Fun K "first_hands" "first_hands" s_first_hands z.a_first_hands z.fd_first_hands
  b_first_hands : Binds K z.fd_first_hands ["machine", "n"] []
  g_first_hands : mg "first_hands" = some (.ref z.a_first_hands)
  F_greatest : Fun K "greatest" "greatest" s_greatest z.a_greatest z.fd_greatest
  b_greatest : Binds K z.fd_greatest ["machine", "n", "time"] []
  g_greatest : mg "greatest" = some (.ref z.a_greatest)
  F_most_summed : Fun K "most_summed" "most_summed" s_most_summed z.a_most_summed z.fd_most_summed
  b_most_summed : Binds K z.fd_most_summed ["machine", "n", "time"] []
  g_most_summed : mg "most_summed" = some (.ref z.a_most_summed)
  F__law_source : Fun K "_law_source" "_law_source" s__law_source z.a__law_source z.fd__law_source
  b__law_source : Binds K z.fd__law_source ["_law_script"] []
  g__law_source : mg "_law_source" = some (.ref z.a__law_source)
  F__law_draw : Fun K "_law_draw" "_law_draw" s__law_draw z.a__law_draw z.fd__law_draw
  b__law_draw : Binds K z.fd__law_draw ["_law_source_here", "_law_limit"] []
  g__law_draw : mg "_law_draw" = some (.ref z.a__law_draw)
  F__law_small : Fun K "_law_small" "_law_small" s__law_small z.a__law_small z.fd__law_small
  b__law_small : Binds K z.fd__law_small ["_law_source_here"] []
  g__law_small : mg "_law_small" = some (.ref z.a__law_small)
  F__law_is : Fun K "_law_is" "_law_is" s__law_is z.a__law_is z.fd__law_is
  b__law_is : Binds K z.fd__law_is ["_law_thing", "_law_due"] []
  g__law_is : mg "_law_is" = some (.ref z.a__law_is)
  F__law_letters : Fun K "_law_letters" "_law_letters" s__law_letters z.a__law_letters z.fd__law_letters
  b__law_letters : Binds K z.fd__law_letters ["_law_numbers", "_law_end", "_law_left", "_law_later", "_law_before", "_law_table"] []
  g__law_letters : mg "_law_letters" = some (.ref z.a__law_letters)
  F__law_best : Fun K "_law_best" "_law_best" s__law_best z.a__law_best z.fd__law_best
  b__law_best : Binds K z.fd__law_best ["_law_numbers", "_law_end", "_law_hands", "_law_table"] []
  g__law_best : mg "_law_best" = some (.ref z.a__law_best)
  F_law : Fun K "law" "law" s_law z.a_law z.fd_law
  b_law : Binds K z.fd_law ["_law_script"] []
  g_law : mg "law" = some (.ref z.a_law)
  n_bool : mg "bool" = none
  n_int : mg "int" = none
  n_isinstance : mg "isinstance" = none
  n_len : mg "len" = none
  n_max : mg "max" = none
  n_min : mg "min" = none
  n_range : mg "range" = none
  n_sum : mg "sum" = none
  c_GREATEST : mg "GREATEST" = some (.int 1000000000 z.t_GREATEST)
  c_LAST_TIME : mg "LAST_TIME" = some (.int 1000000000000 z.t_LAST_TIME)
  c_MOST_HANDS : mg "MOST_HANDS" = some (.int 40 z.t_MOST_HANDS)
  g_Machine : mg "Machine" = some (.ref c.Machine)
  mk_Machine : Mk K c.Machine z.a_Machine___init__
  it_Machine : InsTxt K c.Machine
  g_InvalidCount : mg "InvalidCount" = some (.ref c.InvalidCount)
  g_InvalidMachine : mg "InvalidMachine" = some (.ref c.InvalidMachine)
  g_InvalidTime : mg "InvalidTime" = some (.ref c.InvalidTime)
  x0_InvalidCount : Ex0 K c.InvalidCount
  x_InvalidMachine : ExE K c.InvalidMachine
  xi_InvalidMachine : PySem.W.findIn K (.ref c.InvalidMachine) "__init__" = some (some (.ref z.a_InvalidMachine___init__))
  xt_InvalidMachine : PySem.W.typeIn K (.ref z.a_InvalidMachine___init__) = some (.type "function")
  xk_InvalidMachine_part : PySem.W.takerIn K c.InvalidMachine "part" = some none
  x0_InvalidTime : Ex0 K c.InvalidTime
  its : ∀ C ∈ c.cs, InsTxt K C
  f_g : ∀ C ∈ [c.Machine], Cls K C ∧ NoAttr K C "g"
  f_gap : ∀ C ∈ [c.Machine], Cls K C ∧ NoAttr K C "gap"
  f_l : ∀ C ∈ [c.Machine], Cls K C ∧ NoAttr K C "l"
  f_letter : ∀ C ∈ [c.Machine], Cls K C ∧ NoAttr K C "letter"
  f_o : ∀ C ∈ [c.Machine], Cls K C ∧ NoAttr K C "o"
section
variable {P : Program} {w : World} {K : PySem.W.Frag} {mg : Str → Option Value} {base : Heap} {c : Cl} {z : Ad}
theorem ok_InvalidMachine___init__ (T : Txt K mg c z) : FnOk P w K mg base (L2.CX P w) 1 z.a_InvalidMachine___init__ z.fd_InvalidMachine___init__ ["self", "part"] (spX1 K "part") := by
  exact ok_x1 T.F_InvalidMachine___init__ sc_InvalidMachine___init__ fun _ _ _ _ _ _ => pss_one (ps_est (pe_var rfl (Or.inl rfl) (by decide) (by decide)) (pe_var rfl (Or.inl rfl) (by decide) (by decide)))
theorem ok_is_integer (T : Txt K mg c z) : FnOk P w K mg base (L2.CX P w) 1 z.a_is_integer z.fd_is_integer ["thing"] (spI K 1 (G_is_integer c)) := by
  exact ok_fn T.F_is_integer sc_is_integer fun cdv A outer s H E hr tk po =>
    (pSs_one (pS_ret (pE_and (pE_isi T.its T.n_isinstance (pA_cons (pE_var 0) (pA_cons (pE_ty T.n_int (by decide +kernel)) pA_nil))) (pE_one (pE_not (pE_isi T.its T.n_isinstance (pA_cons (pE_var 0) (pA_cons (pE_ty T.n_bool (by decide +kernel)) pA_nil))))))))
theorem ok_between (T : Txt K mg c z) : FnOk P w K mg base (L2.CX P w) 2 z.a_between z.fd_between ["thing", "low", "high"] (spI K 3 (G_between c)) := by
  exact ok_fn T.F_between sc_between fun cdv A outer s H E hr tk po =>
    (pSs_one (pS_ret (pE_and (pE_call (ok_is_integer T) (hr.mono (by decide)) T.g_is_integer T.F_is_integer.kp T.b_is_integer tk (pA_cons (pE_var 0) pA_nil)) (pE_one (pE_chainI op_le op_le dc_dLe dc_dLe (pE_var 1) (pE_var 0) (pE_var 2))))))
theorem ok_checked_count (T : Txt K mg c z) : FnOk P w K mg base (L2.CX P w) 3 z.a_checked_count z.fd_checked_count ["n", "low", "high"] (spI K 3 (G_checked_count c)) := by
  exact ok_fn T.F_checked_count sc_checked_count fun cdv A outer s H E hr tk po =>
    (pSs_cons (pS_if (pT_not (pT_val (pE_call (ok_between T) (hr.mono (by decide)) T.g_between T.F_between.kp T.b_between tk (pA_cons (pE_var 0) (pA_cons (pE_var 1) (pA_cons (pE_var 2) pA_nil)))))) (pSs_one (pS_raise0 rfl tk T.x0_InvalidCount T.g_InvalidCount)) pSs_nil)
      (pSs_one (pS_ret (pE_var 0))))
theorem ok_Machine___init__ (T : Txt K mg c z) : FnOk P w K mg base (L2.CX P w) 3 z.a_Machine___init__ z.fd_Machine___init__ ["self", "o", "l", "g"] (spI K 4 (G_Machine___init__ c)) := by
  exact ok_fn T.F_Machine___init__ sc_Machine___init__ fun cdv A outer s H E hr tk po =>
    (pSs_cons (pS_if (pT_not (pT_val (pE_call (ok_between T) (hr.mono (by decide)) T.g_between T.F_between.kp T.b_between tk (pA_cons (pE_var 1) (pA_cons pE_int (pA_cons (pE_gint T.c_GREATEST) pA_nil)))))) (pSs_one (pS_raise1 rfl tk T.x_InvalidMachine T.xk_InvalidMachine_part T.xi_InvalidMachine T.xt_InvalidMachine (ok_InvalidMachine___init__ T) (hr.mono (by decide)) T.b_InvalidMachine___init__ T.g_InvalidMachine (pA_cons pE_str pA_nil))) pSs_nil)
      (pSs_cons (pS_if (pT_not (pT_val (pE_call (ok_between T) (hr.mono (by decide)) T.g_between T.F_between.kp T.b_between tk (pA_cons (pE_var 2) (pA_cons pE_int (pA_cons (pE_gint T.c_GREATEST) pA_nil)))))) (pSs_one (pS_raise1 rfl tk T.x_InvalidMachine T.xk_InvalidMachine_part T.xi_InvalidMachine T.xt_InvalidMachine (ok_InvalidMachine___init__ T) (hr.mono (by decide)) T.b_InvalidMachine___init__ T.g_InvalidMachine (pA_cons pE_str pA_nil))) pSs_nil)
      (pSs_cons (pS_if (pT_not (pT_val (pE_call (ok_between T) (hr.mono (by decide)) T.g_between T.F_between.kp T.b_between tk (pA_cons (pE_var 3) (pA_cons pE_int (pA_cons (pE_gint T.c_GREATEST) pA_nil)))))) (pSs_one (pS_raise1 rfl tk T.x_InvalidMachine T.xk_InvalidMachine_part T.xi_InvalidMachine T.xt_InvalidMachine (ok_InvalidMachine___init__ T) (hr.mono (by decide)) T.b_InvalidMachine___init__ T.g_InvalidMachine (pA_cons pE_str pA_nil))) pSs_nil)
      (pSs_cons (pS_if (pT_eq hr (pE_add (pE_mul pE_int (pE_var 1)) (pE_var 2)) pE_int) (pSs_one (pS_raise1 rfl tk T.x_InvalidMachine T.xk_InvalidMachine_part T.xi_InvalidMachine T.xt_InvalidMachine (ok_InvalidMachine___init__ T) (hr.mono (by decide)) T.b_InvalidMachine___init__ T.g_InvalidMachine (pA_cons pE_str pA_nil))) pSs_nil)
      (pSs_cons (pS_fld T.f_o (pE_var 0) (pE_var 1))
      (pSs_cons (pS_fld T.f_l (pE_var 0) (pE_var 2))
      (pSs_cons (pS_fld T.f_g (pE_var 0) (pE_var 3))
      (pSs_cons (pS_fld T.f_letter (pE_var 0) (pE_add (pE_mul pE_int (pE_var 1)) (pE_var 2)))
      (pSs_one (pS_fld T.f_gap (pE_var 0) (pE_max rfl T.n_max (pA_cons (pE_var 1) (pA_cons (pE_var 3) pA_nil)))))))))))))
theorem ok_checked_end (T : Txt K mg c z) : FnOk P w K mg base (L2.CX P w) 3 z.a_checked_end z.fd_checked_end ["time"] (spI K 1 (G_checked_end c)) := by
  exact ok_fn T.F_checked_end sc_checked_end fun cdv A outer s H E hr tk po =>
    (pSs_cons (pS_if (pT_not (pT_val (pE_call (ok_between T) (hr.mono (by decide)) T.g_between T.F_between.kp T.b_between tk (pA_cons (pE_var 0) (pA_cons pE_int (pA_cons (pE_gint T.c_LAST_TIME) pA_nil)))))) (pSs_one (pS_raise0 rfl tk T.x0_InvalidTime T.g_InvalidTime)) pSs_nil)
      (pSs_one (pS_ret (pE_var 0))))
theorem ok_first_hands (T : Txt K mg c z) : FnOk P w K mg base (L2.CX P w) 1 z.a_first_hands z.fd_first_hands ["machine", "n"] (spI K 2 (G_first_hands c)) := by
  exact FnOk.imp (ok_fn T.F_first_hands sc_first_hands fun cdv A outer s H E hr tk po =>
    (pSs_cons (pS_set (i := 2) sc_first_hands.nd (pE_add (pE_fld T.f_letter (pE_var 0)) pE_int))
      (pSs_cons (pS_set (i := 3) sc_first_hands.nd (pE_max rfl T.n_max (pA_cons (pE_fld T.f_g (pE_var 0)) (pA_cons (pE_add (pE_fld T.f_o (pE_var 0)) pE_int) pA_nil))))
      (pSs_cons (pS_set (i := 4) sc_first_hands.nd (pE_lstT (pA_cons (pE_tup (pA_cons pE_int (pA_cons pE_int pA_nil))) pA_nil)))
      (pSs_cons (pS_set (i := 5) sc_first_hands.nd (pE_lstT (pA_cons (pE_var 2) pA_nil)))
      (pSs_cons (pS_while 100000 po (pT_lt (pE_len T.n_len (pA_cons (pE_var 4) pA_nil)) (pE_var 1)) (pSs_cons (pS_set (i := 6) sc_first_hands.nd (pE_min1 rfl T.n_min (pA_cons (pE_var 5) pA_nil)))
      (pSs_cons (pS_set (i := 7) sc_first_hands.nd (pE_index (pE_var 5) (pA_cons (pE_var 6) pA_nil)))
      (pSs_cons (pS_put putl_list (ps_asg (pE_add (pE_var 6) (pE_var 3)) (pg_sub (pE_var 5) (pE_var 7) set_list)))
      (pSs_cons (pS_expr (pE_append (pE_var 4) (pA_cons (pE_tup (pA_cons (pE_var 6) (pA_cons (pE_var 7) pA_nil))) pA_nil)))
      (pSs_one (pS_expr (pE_append (pE_var 5) (pA_cons (pE_add (pE_var 6) (pE_var 2)) pA_nil)))))))))
      (pSs_one (pS_ret (pE_var 4))))))))) spI_pure
theorem ok_greatest (T : Txt K mg c z) : FnOk P w K mg base (L2.CX P w) 2 z.a_greatest z.fd_greatest ["machine", "n", "time"] (spI K 3 (G_greatest c)) := by
  exact ok_fn T.F_greatest sc_greatest fun cdv A outer s H E hr tk po =>
    (pSs_one (pS_ret (pE_add (pE_add (pE_var 2) pE_int) (pE_sum rfl T.n_sum (pA_cons (pE_lc rfl sc_greatest.nd (pI_seq (weak_sl (pE_call (ok_first_hands T) (hr.mono (by decide)) T.g_first_hands T.F_first_hands.kp T.b_first_hands tk (pA_cons (pE_var 0) (pA_cons (pE_var 1) pA_nil))) (pO_some pE_int) pO_none)) (blkOk_by (N := ["machine", "n", "time", "known", "sender"]) (sc := defScope s_greatest) (own := [("known", 3), ("sender", 4)]) (by decide +kernel)) (kg_tup (kgs_cons (kg_name (by decide)) (kgs_cons (kg_name (by decide)) kgs_nil mon_name mon_nil) mon_name (mon_cons mon_name mon_nil)) (gCn_len (gCn_len (fun _ _ _ h => gNl_len h)))) (mon_tup (mon_cons mon_name (mon_cons mon_name mon_nil))) (fun _ _ _ _ _ => (pg_tup rfl (pgs_cons (pg_name (i := 3) sc_greatest.nd rfl (by first | exact Or.inl rfl | exact Or.inr rfl)) (pgs_cons (pg_name (i := 4) sc_greatest.nd rfl (by first | exact Or.inl rfl | exact Or.inr rfl)) pgs_nil)))) (fun _ _ _ _ _ => pTs_nil) (fun _ _ _ _ _ => (pE_max rfl T.n_max (pA_cons pE_int (pA_cons (pE_sub (pE_sub (pE_var 2) (pE_var 3)) (pE_fld T.f_o (pE_var 0))) pA_nil))))) pA_nil)))))
theorem ok_most_summed (T : Txt K mg c z) : FnOk P w K mg base (L2.CX P w) 4 z.a_most_summed z.fd_most_summed ["machine", "n", "time"] (spI K 3 (G_most_summed c)) := by
  exact ok_fn T.F_most_summed sc_most_summed fun cdv A outer s H E hr tk po =>
    (pSs_cons (pS_expr (pE_call (ok_checked_count T) (hr.mono (by decide)) T.g_checked_count T.F_checked_count.kp T.b_checked_count tk (pA_cons (pE_var 1) (pA_cons pE_int (pA_cons (pE_gint T.c_MOST_HANDS) pA_nil)))))
      (pSs_cons (pS_expr (pE_call (ok_checked_end T) (hr.mono (by decide)) T.g_checked_end T.F_checked_end.kp T.b_checked_end tk (pA_cons (pE_var 2) pA_nil)))
      (pSs_one (pS_ret (pE_call (ok_greatest T) (hr.mono (by decide)) T.g_greatest T.F_greatest.kp T.b_greatest tk (pA_cons (pE_var 0) (pA_cons (pE_var 1) (pA_cons (pE_var 2) pA_nil))))))))
theorem ok__law_source (T : Txt K mg c z) : FnOk P w K mg base (L2.CX P w) 1 z.a__law_source z.fd__law_source ["_law_script"] (spI K 1 (G__law_source c)) := by
  exact ok_fn T.F__law_source sc__law_source fun cdv A outer s H E hr tk po =>
    (pSs_one (pS_ret (pE_lstT (pA_cons (pE_lc rfl sc__law_source.nd (pI_seq (weak_sl (pE_var 0) pO_none (pO_some pE_int))) (blkOk_by (N := ["_law_script", "_law_cell"]) (sc := defScope s__law_source) (own := [("_law_cell", 1)]) (by decide +kernel)) (kg_name (by decide)) mon_name (fun _ _ _ _ _ => (pg_name (i := 1) sc__law_source.nd rfl (by first | exact Or.inl rfl | exact Or.inr rfl))) (fun _ _ _ _ _ => pTs_nil) (fun _ _ _ _ _ => (pE_int1 T.n_int (pA_cons (pE_var 1) pA_nil)))) (pA_cons pE_int (pA_cons pE_int (pA_cons pE_int (pA_cons pE_int pA_nil))))))))
theorem ok__law_draw (T : Txt K mg c z) : FnOk P w K mg base (L2.CX P w) 1 z.a__law_draw z.fd__law_draw ["_law_source_here", "_law_limit"] (spI K 2 (G__law_draw c)) := by
  exact ok_fn T.F__law_draw sc__law_draw fun cdv A outer s H E hr tk po =>
    (pSs_cons (pS_augSL (pE_var 0) pE_int pE_int)
      (pSs_cons (pS_if (PW.pt (pW_and (pT_eq hr (pE_sub2 (pE_var 0) pE_int) pE_int) (pW_and1 (pT_lt (pE_sub2 (pE_var 0) pE_int) (pE_len T.n_len (pA_cons (pE_sub2 (pE_var 0) pE_int) pA_nil)))))) (pSs_cons (pS_set (i := 2) sc__law_draw.nd (pE_sub2 (pE_sub2 (pE_var 0) pE_int) (pE_sub2 (pE_var 0) pE_int)))
      (pSs_cons (pS_augSL (pE_var 0) pE_int pE_int)
      (pSs_one (pS_if (pT_ge (pE_var 2) (pE_pow pE_int pE_int)) (pSs_one (pS_put putl_list (ps_asg (pE_var 2) (pg_sub (pE_var 0) pE_int set_list)))) (pSs_one (pS_put putl_list (ps_asg (pE_mod (pE_int1 T.n_int (pA_cons (pE_add (pE_add (pE_mul (pE_sub2 (pE_var 0) pE_int) pE_int) (pE_mul (pE_var 2) pE_int)) pE_int) pA_nil)) pE_int) (pg_sub (pE_var 0) pE_int set_list)))))))) pSs_nil)
      (pSs_cons (pS_if (pT_gt (pE_sub2 (pE_var 0) pE_int) pE_int) (pSs_cons (pS_set (i := 3) sc__law_draw.nd (pE_mod (pE_int1 T.n_int (pA_cons (pE_sub2 (pE_var 0) pE_int) pA_nil)) (pE_var 1)))
      (pSs_cons (pS_put putl_list (ps_asg (pE_div (pE_sub2 (pE_var 0) pE_int) (pE_var 1)) (pg_sub (pE_var 0) pE_int set_list)))
      (pSs_one (pS_ret (pE_var 3))))) pSs_nil)
      (pSs_cons (pS_set (i := 4) sc__law_draw.nd (pE_mod (pE_int1 T.n_int (pA_cons (pE_mul (pE_add (pE_sub2 (pE_var 0) pE_int) (pE_mul pE_int (pE_sub2 (pE_var 0) pE_int))) pE_int) pA_nil)) pE_int))
      (pSs_cons (pS_set (i := 5) sc__law_draw.nd (pE_mod (pE_int1 T.n_int (pA_cons (pE_mul (pE_var 4) (pE_add (pE_div (pE_var 4) pE_int) pE_int)) pA_nil)) pE_int))
      (pSs_cons (pS_set (i := 6) sc__law_draw.nd (pE_mod (pE_int1 T.n_int (pA_cons (pE_mul (pE_var 5) (pE_add (pE_div (pE_var 5) pE_int) pE_int)) pA_nil)) pE_int))
      (pSs_one (pS_ret (pE_mod (pE_int1 T.n_int (pA_cons (pE_div (pE_var 6) pE_int) pA_nil)) (pE_var 1))))))))))
theorem ok__law_small (T : Txt K mg c z) : FnOk P w K mg base (L2.CX P w) 2 z.a__law_small z.fd__law_small ["_law_source_here"] (spI K 1 (G__law_small c)) := by
  exact ok_fn T.F__law_small sc__law_small fun cdv A outer s H E hr tk po =>
    (pSs_cons (pS_set (i := 1) sc__law_small.nd (pE_call (ok__law_draw T) (hr.mono (by decide)) T.g__law_draw T.F__law_draw.kp T.b__law_draw tk (pA_cons (pE_var 0) (pA_cons pE_int pA_nil))))
      (pSs_cons (pS_set (i := 2) sc__law_small.nd (pE_call (ok__law_draw T) (hr.mono (by decide)) T.g__law_draw T.F__law_draw.kp T.b__law_draw tk (pA_cons (pE_var 0) (pA_cons pE_int pA_nil))))
      (pSs_cons (pS_set (i := 3) sc__law_small.nd (pE_add pE_int (pE_call (ok__law_draw T) (hr.mono (by decide)) T.g__law_draw T.F__law_draw.kp T.b__law_draw tk (pA_cons (pE_var 0) (pA_cons pE_int pA_nil)))))
      (pSs_cons (pS_if (pT_eq hr (pE_add (pE_mul pE_int (pE_var 1)) (pE_var 2)) pE_int) (pSs_one (pS_set (i := 2) sc__law_small.nd pE_int)) pSs_nil)
      (pSs_one (pS_ret (pE_tup (pA_cons (pE_var 1) (pA_cons (pE_var 2) (pA_cons (pE_var 3) pA_nil))))))))))
theorem ok__law_is (T : Txt K mg c z) : FnOk P w K mg base (L2.CX P w) 1 z.a__law_is z.fd__law_is ["_law_thing", "_law_due"] (spI K 2 (G__law_is c)) := by
  exact ok_fn T.F__law_is sc__law_is fun cdv A outer s H E hr tk po =>
    (pSs_one (pS_ret (pE_and (pE_isi T.its T.n_isinstance (pA_cons (pE_var 0) (pA_cons (pE_ty T.n_int (by decide +kernel)) pA_nil))) (pE_and (pE_not (pE_isi T.its T.n_isinstance (pA_cons (pE_var 0) (pA_cons (pE_ty T.n_bool (by decide +kernel)) pA_nil)))) (pE_one (pE_eq hr (pE_var 0) (pE_var 1)))))))
theorem okn__law_letters (T : Txt K mg c z) : ∀ n : Nat, FnOk P w K mg base (L2.CX P w) (1 + n) z.a__law_letters z.fd__law_letters ["_law_numbers", "_law_end", "_law_left", "_law_later", "_law_before", "_law_table"] (spI K 6 (Gn__law_letters c n)) ∧ FnOk P w K mg base (L2.CX P w) (1 + n) z.a__law_best z.fd__law_best ["_law_numbers", "_law_end", "_law_hands", "_law_table"] (spI K 4 (Gn__law_best c n))
  | 0 => ⟨ok_fn T.F__law_letters sc__law_letters fun cdv A outer s H E hr tk po => pSs_bad, ok_fn T.F__law_best sc__law_best fun cdv A outer s H E hr tk po => pSs_bad⟩
  | n + 1 => by
    have ih__law_letters := (okn__law_letters T n).1
    have ih__law_best := (okn__law_letters T n).2
    exact ⟨ok_fn T.F__law_letters sc__law_letters fun cdv A outer s H E hr tk po =>
      (pSs_cons (pS_asg (pE_var 0) (pG_tup (pg_tup rfl (pGs_cons (pG_name (i := 6) sc__law_letters.nd) (pGs_cons (pG_name (i := 7) sc__law_letters.nd) (pGs_cons (pG_name (i := 8) sc__law_letters.nd) pGs_nil (pgs_cons (pG_name (i := 8) sc__law_letters.nd) pGs_nil)) (pgs_cons (pG_name (i := 7) sc__law_letters.nd) (pGs_cons (pG_name (i := 8) sc__law_letters.nd) pGs_nil (pgs_cons (pG_name (i := 8) sc__law_letters.nd) pGs_nil)))) (pgs_cons (pG_name (i := 6) sc__law_letters.nd) (pGs_cons (pG_name (i := 7) sc__law_letters.nd) (pGs_cons (pG_name (i := 8) sc__law_letters.nd) pGs_nil (pgs_cons (pG_name (i := 8) sc__law_letters.nd) pGs_nil)) (pgs_cons (pG_name (i := 7) sc__law_letters.nd) (pGs_cons (pG_name (i := 8) sc__law_letters.nd) pGs_nil (pgs_cons (pG_name (i := 8) sc__law_letters.nd) pGs_nil))))))) (gCn_len (gCn_len (gCn_len (fun _ _ _ h => gNl_len h))))) (ps_asg (pE_var 0) (pG_tup (pg_tup rfl (pGs_cons (pG_name (i := 6) sc__law_letters.nd) (pGs_cons (pG_name (i := 7) sc__law_letters.nd) (pGs_cons (pG_name (i := 8) sc__law_letters.nd) pGs_nil (pgs_cons (pG_name (i := 8) sc__law_letters.nd) pGs_nil)) (pgs_cons (pG_name (i := 7) sc__law_letters.nd) (pGs_cons (pG_name (i := 8) sc__law_letters.nd) pGs_nil (pgs_cons (pG_name (i := 8) sc__law_letters.nd) pGs_nil)))) (pgs_cons (pG_name (i := 6) sc__law_letters.nd) (pGs_cons (pG_name (i := 7) sc__law_letters.nd) (pGs_cons (pG_name (i := 8) sc__law_letters.nd) pGs_nil (pgs_cons (pG_name (i := 8) sc__law_letters.nd) pGs_nil)) (pgs_cons (pG_name (i := 7) sc__law_letters.nd) (pGs_cons (pG_name (i := 8) sc__law_letters.nd) pGs_nil (pgs_cons (pG_name (i := 8) sc__law_letters.nd) pGs_nil))))))) (gCn_len (gCn_len (gCn_len (fun _ _ _ h => gNl_len h)))))))
      (pSs_cons (pS_set (i := 9) sc__law_letters.nd pE_int)
      (pSs_cons (pS_if (pT_gt (pE_mul (pE_add (pE_var 3) pE_int) (pE_add (pE_var 6) pE_int)) (pE_var 1)) (pSs_one (pS_ret (pE_var 9))) pSs_nil)
      (pSs_cons (pS_set (i := 10) sc__law_letters.nd (pE_min rfl T.n_min (pA_cons (pE_sub (pE_sub (pE_sub (pE_var 1) (pE_mul (pE_var 3) (pE_var 6))) (pE_var 3)) pE_int) (pA_cons (pE_sub (pE_var 4) (pE_max rfl T.n_max (pA_cons (pE_var 6) (pA_cons (pE_var 8) pA_nil)))) pA_nil))))
      (pSs_cons (pS_for po rfl (pI_rng2 T.n_range (pA_cons (pE_add (pE_mul pE_int (pE_var 6)) (pE_var 7)) (pA_cons (pE_add (pE_var 10) pE_int) pA_nil))) (pG_name (i := 11) sc__law_letters.nd) (pSs_one (pS_for po rfl (pI_rng2 T.n_range (pA_cons pE_int (pA_cons (pE_add (pE_var 2) pE_int) pA_nil))) (pG_name (i := 12) sc__law_letters.nd) (pSs_cons (pS_set (i := 13) sc__law_letters.nd (pE_sub (pE_sub (pE_call ih__law_best (hr.mono (Nat.le_refl _)) T.g__law_best T.F__law_best.kp T.b__law_best tk (pA_cons (pE_var 0) (pA_cons (pE_sub (pE_sub (pE_var 11) (pE_mul pE_int (pE_var 6))) (pE_var 7)) (pA_cons (pE_var 12) (pA_cons (pE_var 5) pA_nil))))) (pE_var 6)) pE_int))
      (pSs_cons (pS_augI (i := 13) sc__law_letters.nd (pE_call ih__law_letters (hr.mono (Nat.le_refl _)) T.g__law_letters T.F__law_letters.kp T.b__law_letters tk (pA_cons (pE_var 0) (pA_cons (pE_var 1) (pA_cons (pE_sub (pE_var 2) (pE_var 12)) (pA_cons (pE_add (pE_var 3) pE_int) (pA_cons (pE_var 11) (pA_cons (pE_var 5) pA_nil))))))))
      (pSs_one (pS_set (i := 9) sc__law_letters.nd (pE_max rfl T.n_max (pA_cons (pE_var 9) (pA_cons (pE_var 13) pA_nil))))))))))
      (pSs_one (pS_ret (pE_var 9)))))))),
      ok_fn T.F__law_best sc__law_best fun cdv A outer s H E hr tk po =>
      (pSs_cons (pS_set (i := 4) sc__law_best.nd (pE_tup (pA_cons (pE_var 1) (pA_cons (pE_var 2) pA_nil))))
      (pSs_cons (pS_if (pT_tnin hr (pE_var 4) (pE_var 3)) (pSs_one (pS_tput hr (pE_add (pE_add (pE_var 1) pE_int) (pE_call ih__law_letters (hr.mono (Nat.le_refl _)) T.g__law_letters T.F__law_letters.kp T.b__law_letters tk (pA_cons (pE_var 0) (pA_cons (pE_var 1) (pA_cons (pE_sub (pE_var 2) pE_int) (pA_cons pE_int (pA_cons (pE_add (pE_var 1) pE_int) (pA_cons (pE_var 3) pA_nil)))))))) (pE_var 3) (pE_var 4))) pSs_nil)
      (pSs_one (pS_ret (pE_tix hr (pE_var 3) (pE_var 4))))))⟩
theorem ok__law_letters (T : Txt K mg c z) : FnOk P w K mg base (L2.CX P w) 25 z.a__law_letters z.fd__law_letters ["_law_numbers", "_law_end", "_law_left", "_law_later", "_law_before", "_law_table"] (spI K 6 (G__law_letters c)) := (okn__law_letters T 24).1
theorem ok__law_best (T : Txt K mg c z) : FnOk P w K mg base (L2.CX P w) 25 z.a__law_best z.fd__law_best ["_law_numbers", "_law_end", "_law_hands", "_law_table"] (spI K 4 (G__law_best c)) := (okn__law_letters T 24).2
theorem ok_law (T : Txt K mg c z) : FnOk P w K mg base (L2.CX P w) 26 z.a_law z.fd_law ["_law_script"] (spI K 1 (G_law c)) := by
  exact ok_fn T.F_law sc_law fun cdv A outer s H E hr tk po =>
    (pSs_cons (pS_set (i := 1) sc_law.nd (pE_call (ok__law_source T) (hr.mono (by decide)) T.g__law_source T.F__law_source.kp T.b__law_source tk (pA_cons (pE_var 0) pA_nil)))
      (pSs_cons (pS_for po rfl (pI_rng1 T.n_range (pA_cons pE_int pA_nil)) (pG_name (i := 2) sc_law.nd) (pSs_cons (pS_set (i := 3) sc_law.nd (pE_call (ok__law_small T) (hr.mono (by decide)) T.g__law_small T.F__law_small.kp T.b__law_small tk (pA_cons (pE_var 1) pA_nil)))
      (pSs_cons (pS_set (i := 4) sc_law.nd (pE_call (ok__law_draw T) (hr.mono (by decide)) T.g__law_draw T.F__law_draw.kp T.b__law_draw tk (pA_cons (pE_var 1) (pA_cons pE_int pA_nil))))
      (pSs_cons (pS_set (i := 5) sc_law.nd (pE_make T.mk_Machine (ok_Machine___init__ T) (hr.mono (by decide)) T.g_Machine T.b_Machine___init__ tk (pA_cons (pE_sub2 (pE_var 3) pE_int) (pA_cons (pE_sub2 (pE_var 3) pE_int) (pA_cons (pE_sub2 (pE_var 3) pE_int) pA_nil)))))
      (pSs_cons (pS_set (i := 6) sc_law.nd pE_dictU)
      (pSs_one (pS_for po rfl (pI_rng2 T.n_range (pA_cons pE_int (pA_cons pE_int pA_nil))) (pG_name (i := 7) sc_law.nd) (pSs_one (pS_if (pT_not (pT_val (pE_call (ok__law_is T) (hr.mono (by decide)) T.g__law_is T.F__law_is.kp T.b__law_is tk (pA_cons (pE_call (ok_most_summed T) (hr.mono (by decide)) T.g_most_summed T.F_most_summed.kp T.b_most_summed tk (pA_cons (pE_var 5) (pA_cons (pE_var 7) (pA_cons (pE_var 4) pA_nil)))) (pA_cons (pE_call (ok__law_best T) (hr.mono (by decide)) T.g__law_best T.F__law_best.kp T.b__law_best tk (pA_cons (pE_var 3) (pA_cons (pE_var 4) (pA_cons (pE_var 7) (pA_cons (pE_var 6) pA_nil))))) pA_nil))))) (pSs_one (pS_ret pE_bl)) pSs_nil)))))))))
      (pSs_one (pS_ret pE_bl))))
end

def spLaw (K : PySem.W.Frag) : Sp := fun vs H Q E => ∀ c : Cl, OkC c → spI K 1 (G_law c) vs H Q E
theorem cx_none {P : Program} {w : World} {outer : List Env} {H : Hp} {s : Shared} {e : Value} {s' : Shared} (h : L2.CX P w outer H s (fun _ _ _ => False) e s') : False := by
  obtain ⟨_, _, _, _, _, _, _, _, _, _, _, _, z⟩ := h
  exact z
theorem law_start {K : PySem.W.Frag} {H : Hp} {a : Addr} {ns : List Int} {ts : List Addr} (hT : tabsIn K ts = true) (hP : ∀ P ∈ ts, H P = some (.tbl #[]) ∧ ¬ Live [] P) (hl : ns.length ≤ 63) (hb : ∀ z ∈ ns, Builtin.Int.intBits z ≤ 1048576) (hS : SqL K H a (ns.map V.int)) : spLaw K [.ref a] H (fun v _ => v = .bl true) fun _ _ _ => False := by
  intro c hc
  obtain ⟨s', e⟩ := law_true c hc ns hl hb
  refine ⟨[], [], [.rdl (ns.map D.int)], ⟨tabK_start hT hP, rfl, fun i j a h => (by simp at h), fun a l => (by cases l), fun n o h => (by simp at h)⟩, .cons ?_ .nil, rfl, ?_⟩
  · simp only [RelD]
    refine ⟨a, ns.map V.int, rfl, ?_, RelDs.ints ns⟩
    rcases hS with h | h
    · exact .inr ⟨h, fun z => by cases z⟩
    · exact .inl h
  · rw [e]
    exact fun mu' H' v _ _ r => rel_bl.mp r
@[elab_as_elim] theorem l2c1 {α : Type} {P : List α → Prop} (us : List α) (hl : us.length = 1) (h : ∀ a0, P [a0]) : P us := match us, hl with | [a0], _ => h a0
@[elab_as_elim] theorem l2c2 {α : Type} {P : List α → Prop} (us : List α) (hl : us.length = 2) (h : ∀ a0 a1, P [a0, a1]) : P us := match us, hl with | [a0, a1], _ => h a0 a1
@[elab_as_elim] theorem l2c3 {α : Type} {P : List α → Prop} (us : List α) (hl : us.length = 3) (h : ∀ a0 a1 a2, P [a0, a1, a2]) : P us := match us, hl with | [a0, a1, a2], _ => h a0 a1 a2
@[elab_as_elim] theorem l2c4 {α : Type} {P : List α → Prop} (us : List α) (hl : us.length = 4) (h : ∀ a0 a1 a2 a3, P [a0, a1, a2, a3]) : P us := match us, hl with | [a0, a1, a2, a3], _ => h a0 a1 a2 a3
@[elab_as_elim] theorem l2c5 {α : Type} {P : List α → Prop} (us : List α) (hl : us.length = 5) (h : ∀ a0 a1 a2 a3 a4, P [a0, a1, a2, a3, a4]) : P us := match us, hl with | [a0, a1, a2, a3, a4], _ => h a0 a1 a2 a3 a4
@[elab_as_elim] theorem l2c6 {α : Type} {P : List α → Prop} (us : List α) (hl : us.length = 6) (h : ∀ a0 a1 a2 a3 a4 a5, P [a0, a1, a2, a3, a4, a5]) : P us := match us, hl with | [a0, a1, a2, a3, a4, a5], _ => h a0 a1 a2 a3 a4 a5
@[elab_as_elim] theorem l2c7 {α : Type} {P : List α → Prop} (us : List α) (hl : us.length = 7) (h : ∀ a0 a1 a2 a3 a4 a5 a6, P [a0, a1, a2, a3, a4, a5, a6]) : P us := match us, hl with | [a0, a1, a2, a3, a4, a5, a6], _ => h a0 a1 a2 a3 a4 a5 a6
@[elab_as_elim] theorem l2c8 {α : Type} {P : List α → Prop} (us : List α) (hl : us.length = 8) (h : ∀ a0 a1 a2 a3 a4 a5 a6 a7, P [a0, a1, a2, a3, a4, a5, a6, a7]) : P us := match us, hl with | [a0, a1, a2, a3, a4, a5, a6, a7], _ => h a0 a1 a2 a3 a4 a5 a6 a7
@[elab_as_elim] theorem l2c9 {α : Type} {P : List α → Prop} (us : List α) (hl : us.length = 9) (h : ∀ a0 a1 a2 a3 a4 a5 a6 a7 a8, P [a0, a1, a2, a3, a4, a5, a6, a7, a8]) : P us := match us, hl with | [a0, a1, a2, a3, a4, a5, a6, a7, a8], _ => h a0 a1 a2 a3 a4 a5 a6 a7 a8
@[elab_as_elim] theorem l2c10 {α : Type} {P : List α → Prop} (us : List α) (hl : us.length = 10) (h : ∀ a0 a1 a2 a3 a4 a5 a6 a7 a8 a9, P [a0, a1, a2, a3, a4, a5, a6, a7, a8, a9]) : P us := match us, hl with | [a0, a1, a2, a3, a4, a5, a6, a7, a8, a9], _ => h a0 a1 a2 a3 a4 a5 a6 a7 a8 a9
@[elab_as_elim] theorem l2c11 {α : Type} {P : List α → Prop} (us : List α) (hl : us.length = 11) (h : ∀ a0 a1 a2 a3 a4 a5 a6 a7 a8 a9 a10, P [a0, a1, a2, a3, a4, a5, a6, a7, a8, a9, a10]) : P us := match us, hl with | [a0, a1, a2, a3, a4, a5, a6, a7, a8, a9, a10], _ => h a0 a1 a2 a3 a4 a5 a6 a7 a8 a9 a10
@[elab_as_elim] theorem l2c12 {α : Type} {P : List α → Prop} (us : List α) (hl : us.length = 12) (h : ∀ a0 a1 a2 a3 a4 a5 a6 a7 a8 a9 a10 a11, P [a0, a1, a2, a3, a4, a5, a6, a7, a8, a9, a10, a11]) : P us := match us, hl with | [a0, a1, a2, a3, a4, a5, a6, a7, a8, a9, a10, a11], _ => h a0 a1 a2 a3 a4 a5 a6 a7 a8 a9 a10 a11
theorem all_mk {l : PySem.W.OpenLaw} {w : World} {K : PySem.W.Frag} {h : Heap} {mg : Str → Option Value} {fa : Addr} (X : K.In h) (G : h.Ns mainGlobals mg) (hfa : mg "law" = some (.ref fa))
    {f0 : Addr} {od0 an0 : Option Addr} {sl0 : Array (Option Value)} {oc0 kV0 dc0 pm0 cd0 ct0 : Value}
    {f1 : Addr} {od1 an1 : Option Addr} {sl1 : Array (Option Value)} {oc1 kV1 dc1 pm1 cd1 ct1 : Value}
    {f2 : Addr} {od2 an2 : Option Addr} {sl2 : Array (Option Value)} {oc2 kV2 dc2 pm2 cd2 ct2 : Value}
    {f3 : Addr} {od3 an3 : Option Addr} {sl3 : Array (Option Value)} {oc3 kV3 dc3 pm3 cd3 ct3 : Value}
    {f4 : Addr} {od4 an4 : Option Addr} {sl4 : Array (Option Value)} {oc4 kV4 dc4 pm4 cd4 ct4 : Value}
    {f5 : Addr} {od5 an5 : Option Addr} {sl5 : Array (Option Value)} {oc5 kV5 dc5 pm5 cd5 ct5 : Value}
    {f6 : Addr} {od6 an6 : Option Addr} {sl6 : Array (Option Value)} {oc6 kV6 dc6 pm6 cd6 ct6 : Value}
    {f7 : Addr} {od7 an7 : Option Addr} {sl7 : Array (Option Value)} {oc7 kV7 dc7 pm7 cd7 ct7 : Value}
    {f8 : Addr} {od8 an8 : Option Addr} {sl8 : Array (Option Value)} {oc8 kV8 dc8 pm8 cd8 ct8 : Value}
    {f9 : Addr} {od9 an9 : Option Addr} {sl9 : Array (Option Value)} {oc9 kV9 dc9 pm9 cd9 ct9 : Value}
    {f10 : Addr} {od10 an10 : Option Addr} {sl10 : Array (Option Value)} {oc10 kV10 dc10 pm10 cd10 ct10 : Value}
    {f11 : Addr} {od11 an11 : Option Addr} {sl11 : Array (Option Value)} {oc11 kV11 dc11 pm11 cd11 ct11 : Value}
    {f12 : Addr} {od12 an12 : Option Addr} {sl12 : Array (Option Value)} {oc12 kV12 dc12 pm12 cd12 ct12 : Value}
    {f13 : Addr} {od13 an13 : Option Addr} {sl13 : Array (Option Value)} {oc13 kV13 dc13 pm13 cd13 ct13 : Value}
    {f14 : Addr} {od14 an14 : Option Addr} {sl14 : Array (Option Value)} {oc14 kV14 dc14 pm14 cd14 ct14 : Value}
    {f15 : Addr} {od15 an15 : Option Addr} {sl15 : Array (Option Value)} {oc15 kV15 dc15 pm15 cd15 ct15 : Value}
    {CMachine : Addr}
    {CInvalidCount : Addr}
    {CInvalidMachine : Addr}
    {CInvalidTime : Addr}
    {CTellError : Addr}
    {tk_GREATEST : Tok}
    {tk_LAST_TIME : Tok}
    {tk_MOST_HANDS : Tok}
    (gMachine : PySem.W.nsIn K mainGlobals "Machine" = some (some (.ref CMachine)))
    (gInvalidCount : PySem.W.nsIn K mainGlobals "InvalidCount" = some (some (.ref CInvalidCount)))
    (gInvalidMachine : PySem.W.nsIn K mainGlobals "InvalidMachine" = some (some (.ref CInvalidMachine)))
    (gInvalidTime : PySem.W.nsIn K mainGlobals "InvalidTime" = some (some (.ref CInvalidTime)))
    (gTellError : PySem.W.nsIn K mainGlobals "TellError" = some (some (.ref CTellError)))
    (a0 : PySem.W.findIn K (.ref CInvalidMachine) "__init__" = some (some (.ref f0)))
    (l0 : K.lookup f0 = some ⟨oc0, od0, .func (PySem.W.fnOf "__init__" "InvalidMachine.__init__" (defArgs s_InvalidMachine___init__) (defBody s_InvalidMachine___init__) (defScope s_InvalidMachine___init__) .none kV0 dc0 pm0 an0 cd0 ct0), sl0⟩)
    (c0 : PySem.W.codeIn K cd0 "InvalidMachine.__init__" = true)
    (k0 : PySem.W.keepIn K (.ref f0) = true)
    (a1 : PySem.W.nsIn K mainGlobals "is_integer" = some (some (.ref f1)))
    (l1 : K.lookup f1 = some ⟨oc1, od1, .func (PySem.W.fnOf "is_integer" "is_integer" (defArgs s_is_integer) (defBody s_is_integer) (defScope s_is_integer) .none kV1 dc1 pm1 an1 cd1 ct1), sl1⟩)
    (c1 : PySem.W.codeIn K cd1 "is_integer" = true)
    (k1 : PySem.W.keepIn K (.ref f1) = true)
    (a2 : PySem.W.nsIn K mainGlobals "between" = some (some (.ref f2)))
    (l2 : K.lookup f2 = some ⟨oc2, od2, .func (PySem.W.fnOf "between" "between" (defArgs s_between) (defBody s_between) (defScope s_between) .none kV2 dc2 pm2 an2 cd2 ct2), sl2⟩)
    (c2 : PySem.W.codeIn K cd2 "between" = true)
    (k2 : PySem.W.keepIn K (.ref f2) = true)
    (a3 : PySem.W.nsIn K mainGlobals "checked_count" = some (some (.ref f3)))
    (l3 : K.lookup f3 = some ⟨oc3, od3, .func (PySem.W.fnOf "checked_count" "checked_count" (defArgs s_checked_count) (defBody s_checked_count) (defScope s_checked_count) .none kV3 dc3 pm3 an3 cd3 ct3), sl3⟩)
    (c3 : PySem.W.codeIn K cd3 "checked_count" = true)
    (k3 : PySem.W.keepIn K (.ref f3) = true)
    (a4 : PySem.W.findIn K (.ref CMachine) "__init__" = some (some (.ref f4)))
    (l4 : K.lookup f4 = some ⟨oc4, od4, .func (PySem.W.fnOf "__init__" "Machine.__init__" (defArgs s_Machine___init__) (defBody s_Machine___init__) (defScope s_Machine___init__) .none kV4 dc4 pm4 an4 cd4 ct4), sl4⟩)
    (c4 : PySem.W.codeIn K cd4 "Machine.__init__" = true)
    (k4 : PySem.W.keepIn K (.ref f4) = true)
    (a5 : PySem.W.nsIn K mainGlobals "checked_end" = some (some (.ref f5)))
    (l5 : K.lookup f5 = some ⟨oc5, od5, .func (PySem.W.fnOf "checked_end" "checked_end" (defArgs s_checked_end) (defBody s_checked_end) (defScope s_checked_end) .none kV5 dc5 pm5 an5 cd5 ct5), sl5⟩)
    (c5 : PySem.W.codeIn K cd5 "checked_end" = true)
    (k5 : PySem.W.keepIn K (.ref f5) = true)
    (a6 : PySem.W.nsIn K mainGlobals "first_hands" = some (some (.ref f6)))
    (l6 : K.lookup f6 = some ⟨oc6, od6, .func (PySem.W.fnOf "first_hands" "first_hands" (defArgs s_first_hands) (defBody s_first_hands) (defScope s_first_hands) .none kV6 dc6 pm6 an6 cd6 ct6), sl6⟩)
    (c6 : PySem.W.codeIn K cd6 "first_hands" = true)
    (k6 : PySem.W.keepIn K (.ref f6) = true)
    (a7 : PySem.W.nsIn K mainGlobals "greatest" = some (some (.ref f7)))
    (l7 : K.lookup f7 = some ⟨oc7, od7, .func (PySem.W.fnOf "greatest" "greatest" (defArgs s_greatest) (defBody s_greatest) (defScope s_greatest) .none kV7 dc7 pm7 an7 cd7 ct7), sl7⟩)
    (c7 : PySem.W.codeIn K cd7 "greatest" = true)
    (k7 : PySem.W.keepIn K (.ref f7) = true)
    (a8 : PySem.W.nsIn K mainGlobals "most_summed" = some (some (.ref f8)))
    (l8 : K.lookup f8 = some ⟨oc8, od8, .func (PySem.W.fnOf "most_summed" "most_summed" (defArgs s_most_summed) (defBody s_most_summed) (defScope s_most_summed) .none kV8 dc8 pm8 an8 cd8 ct8), sl8⟩)
    (c8 : PySem.W.codeIn K cd8 "most_summed" = true)
    (k8 : PySem.W.keepIn K (.ref f8) = true)
    (a9 : PySem.W.nsIn K mainGlobals "_law_source" = some (some (.ref f9)))
    (l9 : K.lookup f9 = some ⟨oc9, od9, .func (PySem.W.fnOf "_law_source" "_law_source" (defArgs s__law_source) (defBody s__law_source) (defScope s__law_source) .none kV9 dc9 pm9 an9 cd9 ct9), sl9⟩)
    (c9 : PySem.W.codeIn K cd9 "_law_source" = true)
    (k9 : PySem.W.keepIn K (.ref f9) = true)
    (a10 : PySem.W.nsIn K mainGlobals "_law_draw" = some (some (.ref f10)))
    (l10 : K.lookup f10 = some ⟨oc10, od10, .func (PySem.W.fnOf "_law_draw" "_law_draw" (defArgs s__law_draw) (defBody s__law_draw) (defScope s__law_draw) .none kV10 dc10 pm10 an10 cd10 ct10), sl10⟩)
    (c10 : PySem.W.codeIn K cd10 "_law_draw" = true)
    (k10 : PySem.W.keepIn K (.ref f10) = true)
    (a11 : PySem.W.nsIn K mainGlobals "_law_small" = some (some (.ref f11)))
    (l11 : K.lookup f11 = some ⟨oc11, od11, .func (PySem.W.fnOf "_law_small" "_law_small" (defArgs s__law_small) (defBody s__law_small) (defScope s__law_small) .none kV11 dc11 pm11 an11 cd11 ct11), sl11⟩)
    (c11 : PySem.W.codeIn K cd11 "_law_small" = true)
    (k11 : PySem.W.keepIn K (.ref f11) = true)
    (a12 : PySem.W.nsIn K mainGlobals "_law_is" = some (some (.ref f12)))
    (l12 : K.lookup f12 = some ⟨oc12, od12, .func (PySem.W.fnOf "_law_is" "_law_is" (defArgs s__law_is) (defBody s__law_is) (defScope s__law_is) .none kV12 dc12 pm12 an12 cd12 ct12), sl12⟩)
    (c12 : PySem.W.codeIn K cd12 "_law_is" = true)
    (k12 : PySem.W.keepIn K (.ref f12) = true)
    (a13 : PySem.W.nsIn K mainGlobals "_law_letters" = some (some (.ref f13)))
    (l13 : K.lookup f13 = some ⟨oc13, od13, .func (PySem.W.fnOf "_law_letters" "_law_letters" (defArgs s__law_letters) (defBody s__law_letters) (defScope s__law_letters) .none kV13 dc13 pm13 an13 cd13 ct13), sl13⟩)
    (c13 : PySem.W.codeIn K cd13 "_law_letters" = true)
    (k13 : PySem.W.keepIn K (.ref f13) = true)
    (a14 : PySem.W.nsIn K mainGlobals "_law_best" = some (some (.ref f14)))
    (l14 : K.lookup f14 = some ⟨oc14, od14, .func (PySem.W.fnOf "_law_best" "_law_best" (defArgs s__law_best) (defBody s__law_best) (defScope s__law_best) .none kV14 dc14 pm14 an14 cd14 ct14), sl14⟩)
    (c14 : PySem.W.codeIn K cd14 "_law_best" = true)
    (k14 : PySem.W.keepIn K (.ref f14) = true)
    (a15 : PySem.W.nsIn K mainGlobals "law" = some (some (.ref f15)))
    (l15 : K.lookup f15 = some ⟨oc15, od15, .func (PySem.W.fnOf "law" "law" (defArgs s_law) (defBody s_law) (defScope s_law) .none kV15 dc15 pm15 an15 cd15 ct15), sl15⟩)
    (c15 : PySem.W.codeIn K cd15 "law" = true)
    (k15 : PySem.W.keepIn K (.ref f15) = true)
    (n_bool : PySem.W.nsIn K mainGlobals "bool" = some none)
    (n_int : PySem.W.nsIn K mainGlobals "int" = some none)
    (n_isinstance : PySem.W.nsIn K mainGlobals "isinstance" = some none)
    (n_len : PySem.W.nsIn K mainGlobals "len" = some none)
    (n_max : PySem.W.nsIn K mainGlobals "max" = some none)
    (n_min : PySem.W.nsIn K mainGlobals "min" = some none)
    (n_range : PySem.W.nsIn K mainGlobals "range" = some none)
    (n_sum : PySem.W.nsIn K mainGlobals "sum" = some none)
    (cc_GREATEST : PySem.W.nsIn K mainGlobals "GREATEST" = some (some (.int 1000000000 tk_GREATEST)))
    (cc_LAST_TIME : PySem.W.nsIn K mainGlobals "LAST_TIME" = some (some (.int 1000000000000 tk_LAST_TIME)))
    (cc_MOST_HANDS : PySem.W.nsIn K mainGlobals "MOST_HANDS" = some (some (.int 40 tk_MOST_HANDS)))
    (mmMachine : PySem.W.makesIn K CMachine = true)
    (fnMachine : PySem.W.isFn K (.ref f4) = true)
    (kpMachine : PySem.W.keepIn K (.ref CMachine) = true)
    (pgMachine : PySem.W.plainGet K CMachine Str.empty = true)
    (hdMachine : PySem.W.hasDictIn K CMachine = true)
    (poMachine : PySem.W.plainOver K CMachine = true)
    (saMachine : PySem.W.findIn K (.ref CMachine) "__setattr__" = some (some (.builtin "object.__setattr__")))
    (haMachine : PySem.W.findIn K (.ref CMachine) "__class__" = some (some (.builtin "object.__class__")))
    (hnMachine : PySem.W.specialIn K (.builtin "object.__class__") "__get__" = some (some (.builtin "getset_descriptor.__get__")))
    (htMachine : PySem.W.takesIn K (.builtin "object.__class__") = some true)
    (hmMachine : PySem.W.mroIn K CMachine (.type "object") = some true)
    (nyMachine : nyB K CMachine = true)
    (ynMachine : ynB K CMachine = true)
    (nfMachine : nfB K CMachine = true)
    (na_Machine_g : PySem.W.findIn K (.ref CMachine) "g" = some none)
    (na_Machine_gap : PySem.W.findIn K (.ref CMachine) "gap" = some none)
    (na_Machine_l : PySem.W.findIn K (.ref CMachine) "l" = some none)
    (na_Machine_letter : PySem.W.findIn K (.ref CMachine) "letter" = some none)
    (na_Machine_o : PySem.W.findIn K (.ref CMachine) "o" = some none)
    (nxdInvalidCount : PySem.W.hasDictIn K CInvalidCount = true)
    (nxuInvalidCount : PySem.W.subIn K (.ref CInvalidCount) (.type "BaseException") = some true)
    (nxtInvalidCount : PySem.W.typeIn K (.ref CInvalidCount) = some (.type "type"))
    (nxkInvalidCount : PySem.W.keepIn K (.ref CInvalidCount) = true)
    (nxeInvalidCount : PySem.W.excIn K CInvalidCount exTail "Exception.__new__" = true)
    (nxdInvalidMachine : PySem.W.hasDictIn K CInvalidMachine = true)
    (nxuInvalidMachine : PySem.W.subIn K (.ref CInvalidMachine) (.type "BaseException") = some true)
    (nxtInvalidMachine : PySem.W.typeIn K (.ref CInvalidMachine) = some (.type "type"))
    (nxkInvalidMachine : PySem.W.keepIn K (.ref CInvalidMachine) = true)
    (nxiInvalidMachine : PySem.W.excInitIn K CInvalidMachine exTail "Exception.__new__" = true)
    (nxoInvalidMachine : PySem.W.excOver K CInvalidMachine exTail = true)
    (nxaInvalidMachine : PySem.W.findIn K (.ref CInvalidMachine) "__setattr__" = some (some (.builtin "object.__setattr__")))
    (nxyInvalidMachine : PySem.W.typeIn K (.ref f0) = some (.type "function"))
    (nxz_InvalidMachine_part : PySem.W.takerIn K CInvalidMachine "part" = some none)
    (nxdInvalidTime : PySem.W.hasDictIn K CInvalidTime = true)
    (nxuInvalidTime : PySem.W.subIn K (.ref CInvalidTime) (.type "BaseException") = some true)
    (nxtInvalidTime : PySem.W.typeIn K (.ref CInvalidTime) = some (.type "type"))
    (nxkInvalidTime : PySem.W.keepIn K (.ref CInvalidTime) = true)
    (nxeInvalidTime : PySem.W.excIn K CInvalidTime exTail "Exception.__new__" = true) :
    ∃ fd : FuncData, (∀ (s : Shared) (v : Value), BindsTo s fd ⟨[v], []⟩ [("_law_script", v)]) ∧ ∀ base : Heap, K.In base → base.Ns mainGlobals mg → FnOk l.prog w K mg base (L2.CX l.prog w) 26 fa fd ["_law_script"] (spLaw K) := by
  have e := hfa.symm.trans (PySem.W.mg_of X G a15)
  cases e
  have F0 := fun_mk (st := s_InvalidMachine___init__) l0 c0 k0
  have b0 := F0.binds (ps := ["self", "part"]) fun _ _ _ _ _ _ us hl => l2c2 us hl fun _ _ => rfl
  have F1 := fun_mk (st := s_is_integer) l1 c1 k1
  have b1 := F1.binds (ps := ["thing"]) fun _ _ _ _ _ _ us hl => l2c1 us hl fun _ => rfl
  have F2 := fun_mk (st := s_between) l2 c2 k2
  have b2 := F2.binds (ps := ["thing", "low", "high"]) fun _ _ _ _ _ _ us hl => l2c3 us hl fun _ _ _ => rfl
  have F3 := fun_mk (st := s_checked_count) l3 c3 k3
  have b3 := F3.binds (ps := ["n", "low", "high"]) fun _ _ _ _ _ _ us hl => l2c3 us hl fun _ _ _ => rfl
  have F4 := fun_mk (st := s_Machine___init__) l4 c4 k4
  have b4 := F4.binds (ps := ["self", "o", "l", "g"]) fun _ _ _ _ _ _ us hl => l2c4 us hl fun _ _ _ _ => rfl
  have F5 := fun_mk (st := s_checked_end) l5 c5 k5
  have b5 := F5.binds (ps := ["time"]) fun _ _ _ _ _ _ us hl => l2c1 us hl fun _ => rfl
  have F6 := fun_mk (st := s_first_hands) l6 c6 k6
  have b6 := F6.binds (ps := ["machine", "n"]) fun _ _ _ _ _ _ us hl => l2c2 us hl fun _ _ => rfl
  have F7 := fun_mk (st := s_greatest) l7 c7 k7
  have b7 := F7.binds (ps := ["machine", "n", "time"]) fun _ _ _ _ _ _ us hl => l2c3 us hl fun _ _ _ => rfl
  have F8 := fun_mk (st := s_most_summed) l8 c8 k8
  have b8 := F8.binds (ps := ["machine", "n", "time"]) fun _ _ _ _ _ _ us hl => l2c3 us hl fun _ _ _ => rfl
  have F9 := fun_mk (st := s__law_source) l9 c9 k9
  have b9 := F9.binds (ps := ["_law_script"]) fun _ _ _ _ _ _ us hl => l2c1 us hl fun _ => rfl
  have F10 := fun_mk (st := s__law_draw) l10 c10 k10
  have b10 := F10.binds (ps := ["_law_source_here", "_law_limit"]) fun _ _ _ _ _ _ us hl => l2c2 us hl fun _ _ => rfl
  have F11 := fun_mk (st := s__law_small) l11 c11 k11
  have b11 := F11.binds (ps := ["_law_source_here"]) fun _ _ _ _ _ _ us hl => l2c1 us hl fun _ => rfl
  have F12 := fun_mk (st := s__law_is) l12 c12 k12
  have b12 := F12.binds (ps := ["_law_thing", "_law_due"]) fun _ _ _ _ _ _ us hl => l2c2 us hl fun _ _ => rfl
  have F13 := fun_mk (st := s__law_letters) l13 c13 k13
  have b13 := F13.binds (ps := ["_law_numbers", "_law_end", "_law_left", "_law_later", "_law_before", "_law_table"]) fun _ _ _ _ _ _ us hl => l2c6 us hl fun _ _ _ _ _ _ => rfl
  have F14 := fun_mk (st := s__law_best) l14 c14 k14
  have b14 := F14.binds (ps := ["_law_numbers", "_law_end", "_law_hands", "_law_table"]) fun _ _ _ _ _ _ us hl => l2c4 us hl fun _ _ _ _ => rfl
  have F15 := fun_mk (st := s_law) l15 c15 k15
  have b15 := F15.binds (ps := ["_law_script"]) fun _ _ _ _ _ _ us hl => l2c1 us hl fun _ => rfl
  have clMachine : Cls K CMachine := ⟨pgMachine, hdMachine, poMachine, saMachine⟩
  have itMachine : InsTxt K CMachine := ⟨clMachine, haMachine, hnMachine, htMachine, hmMachine, nyMachine, ynMachine, nfMachine⟩
  have T : Txt K mg ⟨CMachine, 0, 0, CTellError, CInvalidMachine, CInvalidCount, CInvalidTime, 0, 0, 0, 0, 0, 0, 0, 0, 0, [CMachine]⟩ ⟨f0, PySem.W.fnOf "__init__" "InvalidMachine.__init__" (defArgs s_InvalidMachine___init__) (defBody s_InvalidMachine___init__) (defScope s_InvalidMachine___init__) .none kV0 dc0 pm0 an0 cd0 ct0, f1, PySem.W.fnOf "is_integer" "is_integer" (defArgs s_is_integer) (defBody s_is_integer) (defScope s_is_integer) .none kV1 dc1 pm1 an1 cd1 ct1, f2, PySem.W.fnOf "between" "between" (defArgs s_between) (defBody s_between) (defScope s_between) .none kV2 dc2 pm2 an2 cd2 ct2, f3, PySem.W.fnOf "checked_count" "checked_count" (defArgs s_checked_count) (defBody s_checked_count) (defScope s_checked_count) .none kV3 dc3 pm3 an3 cd3 ct3, f4, PySem.W.fnOf "__init__" "Machine.__init__" (defArgs s_Machine___init__) (defBody s_Machine___init__) (defScope s_Machine___init__) .none kV4 dc4 pm4 an4 cd4 ct4, f5, PySem.W.fnOf "checked_end" "checked_end" (defArgs s_checked_end) (defBody s_checked_end) (defScope s_checked_end) .none kV5 dc5 pm5 an5 cd5 ct5, f6, PySem.W.fnOf "first_hands" "first_hands" (defArgs s_first_hands) (defBody s_first_hands) (defScope s_first_hands) .none kV6 dc6 pm6 an6 cd6 ct6, f7, PySem.W.fnOf "greatest" "greatest" (defArgs s_greatest) (defBody s_greatest) (defScope s_greatest) .none kV7 dc7 pm7 an7 cd7 ct7, f8, PySem.W.fnOf "most_summed" "most_summed" (defArgs s_most_summed) (defBody s_most_summed) (defScope s_most_summed) .none kV8 dc8 pm8 an8 cd8 ct8, f9, PySem.W.fnOf "_law_source" "_law_source" (defArgs s__law_source) (defBody s__law_source) (defScope s__law_source) .none kV9 dc9 pm9 an9 cd9 ct9, f10, PySem.W.fnOf "_law_draw" "_law_draw" (defArgs s__law_draw) (defBody s__law_draw) (defScope s__law_draw) .none kV10 dc10 pm10 an10 cd10 ct10, f11, PySem.W.fnOf "_law_small" "_law_small" (defArgs s__law_small) (defBody s__law_small) (defScope s__law_small) .none kV11 dc11 pm11 an11 cd11 ct11, f12, PySem.W.fnOf "_law_is" "_law_is" (defArgs s__law_is) (defBody s__law_is) (defScope s__law_is) .none kV12 dc12 pm12 an12 cd12 ct12, f13, PySem.W.fnOf "_law_letters" "_law_letters" (defArgs s__law_letters) (defBody s__law_letters) (defScope s__law_letters) .none kV13 dc13 pm13 an13 cd13 ct13, f14, PySem.W.fnOf "_law_best" "_law_best" (defArgs s__law_best) (defBody s__law_best) (defScope s__law_best) .none kV14 dc14 pm14 an14 cd14 ct14, fa, PySem.W.fnOf "law" "law" (defArgs s_law) (defBody s_law) (defScope s_law) .none kV15 dc15 pm15 an15 cd15 ct15, tk_GREATEST, tk_LAST_TIME, tk_MOST_HANDS⟩ := {
      F_InvalidMachine___init__ := F0
      b_InvalidMachine___init__ := b0
      F_is_integer := F1
      b_is_integer := b1
      g_is_integer := PySem.W.mg_of X G a1
      F_between := F2
      b_between := b2
      g_between := PySem.W.mg_of X G a2
      F_checked_count := F3
      b_checked_count := b3
      g_checked_count := PySem.W.mg_of X G a3
      F_Machine___init__ := F4
      b_Machine___init__ := b4
      F_checked_end := F5
      b_checked_end := b5
      g_checked_end := PySem.W.mg_of X G a5
      F_first_hands := F6
      b_first_hands := b6
      g_first_hands := PySem.W.mg_of X G a6
      F_greatest := F7
      b_greatest := b7
      g_greatest := PySem.W.mg_of X G a7
      F_most_summed := F8
      b_most_summed := b8
      g_most_summed := PySem.W.mg_of X G a8
      F__law_source := F9
      b__law_source := b9
      g__law_source := PySem.W.mg_of X G a9
      F__law_draw := F10
      b__law_draw := b10
      g__law_draw := PySem.W.mg_of X G a10
      F__law_small := F11
      b__law_small := b11
      g__law_small := PySem.W.mg_of X G a11
      F__law_is := F12
      b__law_is := b12
      g__law_is := PySem.W.mg_of X G a12
      F__law_letters := F13
      b__law_letters := b13
      g__law_letters := PySem.W.mg_of X G a13
      F__law_best := F14
      b__law_best := b14
      g__law_best := PySem.W.mg_of X G a14
      F_law := F15
      b_law := b15
      g_law := PySem.W.mg_of X G a15
      n_bool := PySem.W.mg_none_of X G n_bool
      n_int := PySem.W.mg_none_of X G n_int
      n_isinstance := PySem.W.mg_none_of X G n_isinstance
      n_len := PySem.W.mg_none_of X G n_len
      n_max := PySem.W.mg_none_of X G n_max
      n_min := PySem.W.mg_none_of X G n_min
      n_range := PySem.W.mg_none_of X G n_range
      n_sum := PySem.W.mg_none_of X G n_sum
      c_GREATEST := PySem.W.mg_of X G cc_GREATEST
      c_LAST_TIME := PySem.W.mg_of X G cc_LAST_TIME
      c_MOST_HANDS := PySem.W.mg_of X G cc_MOST_HANDS
      g_Machine := PySem.W.mg_of X G gMachine
      mk_Machine := ⟨mmMachine, a4, fnMachine, kpMachine⟩
      it_Machine := itMachine
      g_InvalidCount := PySem.W.mg_of X G gInvalidCount
      g_InvalidMachine := PySem.W.mg_of X G gInvalidMachine
      g_InvalidTime := PySem.W.mg_of X G gInvalidTime
      x0_InvalidCount := ⟨nxeInvalidCount, nxuInvalidCount, nxtInvalidCount, nxkInvalidCount⟩
      x_InvalidMachine := ⟨nxiInvalidMachine, nxoInvalidMachine, nxdInvalidMachine, nxaInvalidMachine, nxuInvalidMachine, nxtInvalidMachine, nxkInvalidMachine⟩
      xi_InvalidMachine := a0
      xt_InvalidMachine := nxyInvalidMachine
      xk_InvalidMachine_part := nxz_InvalidMachine_part
      x0_InvalidTime := ⟨nxeInvalidTime, nxuInvalidTime, nxtInvalidTime, nxkInvalidTime⟩
      its := fun C hC => by
        simp only [List.mem_cons, List.not_mem_nil, or_false] at hC
        subst hC
        exact itMachine
      f_g := fun C hC => by
        simp only [List.mem_cons, List.not_mem_nil, or_false] at hC
        subst hC
        exact ⟨clMachine, na_Machine_g⟩
      f_gap := fun C hC => by
        simp only [List.mem_cons, List.not_mem_nil, or_false] at hC
        subst hC
        exact ⟨clMachine, na_Machine_gap⟩
      f_l := fun C hC => by
        simp only [List.mem_cons, List.not_mem_nil, or_false] at hC
        subst hC
        exact ⟨clMachine, na_Machine_l⟩
      f_letter := fun C hC => by
        simp only [List.mem_cons, List.not_mem_nil, or_false] at hC
        subst hC
        exact ⟨clMachine, na_Machine_letter⟩
      f_o := fun C hC => by
        simp only [List.mem_cons, List.not_mem_nil, or_false] at hC
        subst hC
        exact ⟨clMachine, na_Machine_o⟩ }
  refine ⟨_, fun s v => .of_eq rfl, fun base _ _ => FnOk.imp (ok_law T) fun vs H Q E hq => hq _ (by exact rfl)⟩
end Lw
namespace Lw
open PySem PySem.Spec PyProof.Rows L2 SI
theorem head_end {w : World} {K : PySem.W.Frag} {h : Heap} {mg : Str → Option Value} {fa : Addr} (c : Hd.Says dat K h) (G : h.Ns mainGlobals mg) (hmg : mg "law" = some (.ref fa)) : LamX.LawAtS PySem.Challenge.rw_tellontree_k80_whole_sums_by_all_schedul w K (L2.CX (PySem.Challenge.rw_tellontree_k80_whole_sums_by_all_schedul).prog w) 26 63 "_law_script" mg fa h := by
  have c0 : Hd.SaysL (chk0 K) := ⟨c.b 0⟩
  have c1 : Hd.SaysL (chk1 K) := ⟨c.b 1⟩
  have c2 : Hd.SaysL (chk2 K) := ⟨c.b 2⟩
  have c3 : Hd.SaysL (chk3 K) := ⟨c.b 3⟩
  have c4 : Hd.SaysL (chk4 K) := ⟨c.b 4⟩
  obtain ⟨oc0, od0, sl0, dc0, pm0, an0, ct0, l0⟩ := c.f 0 (d := dk0) rfl
  obtain ⟨oc1, od1, sl1, dc1, pm1, an1, ct1, l1⟩ := c.f 1 (d := dk1) rfl
  obtain ⟨oc2, od2, sl2, dc2, pm2, an2, ct2, l2⟩ := c.f 2 (d := dk2) rfl
  obtain ⟨oc3, od3, sl3, dc3, pm3, an3, ct3, l3⟩ := c.f 3 (d := dk3) rfl
  obtain ⟨oc4, od4, sl4, dc4, pm4, an4, ct4, l4⟩ := c.f 4 (d := dk4) rfl
  obtain ⟨oc5, od5, sl5, dc5, pm5, an5, ct5, l5⟩ := c.f 5 (d := dk5) rfl
  obtain ⟨oc6, od6, sl6, dc6, pm6, an6, ct6, l6⟩ := c.f 6 (d := dk6) rfl
  obtain ⟨oc7, od7, sl7, dc7, pm7, an7, ct7, l7⟩ := c.f 7 (d := dk7) rfl
  obtain ⟨oc8, od8, sl8, dc8, pm8, an8, ct8, l8⟩ := c.f 8 (d := dk8) rfl
  obtain ⟨oc9, od9, sl9, dc9, pm9, an9, ct9, l9⟩ := c.f 9 (d := dk9) rfl
  obtain ⟨oc10, od10, sl10, dc10, pm10, an10, ct10, l10⟩ := c.f 10 (d := dk10) rfl
  obtain ⟨oc11, od11, sl11, dc11, pm11, an11, ct11, l11⟩ := c.f 11 (d := dk11) rfl
  obtain ⟨oc12, od12, sl12, dc12, pm12, an12, ct12, l12⟩ := c.f 12 (d := dk12) rfl
  obtain ⟨oc13, od13, sl13, dc13, pm13, an13, ct13, l13⟩ := c.f 13 (d := dk13) rfl
  obtain ⟨oc14, od14, sl14, dc14, pm14, an14, ct14, l14⟩ := c.f 14 (d := dk14) rfl
  obtain ⟨oc15, od15, sl15, dc15, pm15, an15, ct15, l15⟩ := c.f 15 (d := dk15) rfl
  obtain ⟨fd, hb, hF⟩ := all_mk (l := PySem.Challenge.rw_tellontree_k80_whole_sums_by_all_schedul) (w := w) c.inn G hmg
    (c0.e 0)
    (c0.e 1)
    (c0.e 2)
    (c0.e 3)
    (c0.e 4)
    (c0.e 5)
    (l0)
    (c0.b 6)
    (c0.b 7)
    (c0.e 8)
    (l1)
    (c0.b 9)
    (c0.b 10)
    (c0.e 11)
    (l2)
    (c0.b 12)
    (c0.b 13)
    (c0.e 14)
    (l3)
    (c0.b 15)
    (c0.b 16)
    (c0.e 17)
    (l4)
    (c0.b 18)
    (c0.b 19)
    (c0.e 20)
    (l5)
    (c0.b 21)
    (c0.b 22)
    (c0.e 23)
    (l6)
    (c0.b 24)
    (c1.b 0)
    (c1.e 1)
    (l7)
    (c1.b 2)
    (c1.b 3)
    (c1.e 4)
    (l8)
    (c1.b 5)
    (c1.b 6)
    (c1.e 7)
    (l9)
    (c1.b 8)
    (c1.b 9)
    (c1.e 10)
    (l10)
    (c1.b 11)
    (c1.b 12)
    (c1.e 13)
    (l11)
    (c1.b 14)
    (c1.b 15)
    (c1.e 16)
    (l12)
    (c1.b 17)
    (c1.b 18)
    (c1.e 19)
    (l13)
    (c1.b 20)
    (c1.b 21)
    (c1.e 22)
    (l14)
    (c1.b 23)
    (c1.b 24)
    (c2.e 0)
    (l15)
    (c2.b 1)
    (c2.b 2)
    (c2.e 3)
    (c2.e 4)
    (c2.e 5)
    (c2.e 6)
    (c2.e 7)
    (c2.e 8)
    (c2.e 9)
    (c2.e 10)
    (c2.e 11)
    (c2.e 12)
    (c2.e 13)
    (c2.b 14)
    (c2.b 15)
    (c2.b 16)
    (c2.b 17)
    (c2.b 18)
    (c2.b 19)
    (c2.e 20)
    (c2.e 21)
    (c2.e 22)
    (c2.e 23)
    (c2.e 24)
    (c3.b 0)
    (c3.b 1)
    (c3.b 2)
    (c3.e 3)
    (c3.e 4)
    (c3.e 5)
    (c3.e 6)
    (c3.e 7)
    (c3.b 8)
    (c3.e 9)
    (c3.e 10)
    (c3.b 11)
    (c3.b 12)
    (c3.b 13)
    (c3.e 14)
    (c3.e 15)
    (c3.b 16)
    (c3.b 17)
    (c3.b 18)
    (c3.e 19)
    (c3.e 20)
    (c3.e 21)
    (c3.b 22)
    (c3.e 23)
    (c3.e 24)
    (c4.b 0)
    (c4.b 1)
  exact ⟨fd, [], spLaw K, (fun _ h => by cases h), (fun _ h => by cases h), (fun _ h => by cases h), hb, (fun H a ns hl hb _ hS => law_start (ts := []) (c4.b 2) (fun _ h => by cases h) hl hb hS), fun base X G _ => hF base X G⟩
end Lw
open PySem PySem.W PyProof.Rows
set_option maxHeartbeats 0 in
theorem PySem.Challenge.cw_tellontree_k80_whole_sums_by_all_schedul_holds : PySem.Challenge.rw_tellontree_k80_whole_sums_by_all_schedul.Holds := by
  w_on; o_law
  refine HandSHeadRun.head_any (r := OpenLaw.row PySem.Challenge.rw_tellontree_k80_whole_sums_by_all_schedul) (q := view (OpenLaw.row PySem.Challenge.rw_tellontree_k80_whole_sums_by_all_schedul).prog [26]) (H := Hd.hook 0 4000 Lw.dat) (ob := Hd.ob 0 4000 Lw.dat) (M := 40000) (loose := Lw.nmL) (d := HandSHeadRun.topDef (OpenLaw.row PySem.Challenge.rw_tellontree_k80_whole_sums_by_all_schedul).prog 26) (kwd := []) (fun s => Hd.ob_eq s)
    (by kernel_rfl) (fun s => by kernel_rfl) Lw.head_run (by kernel_rfl) (by kernel_rfl) (by kernel_rfl) (by rfl) (by first | assumption | decide +kernel) (by decide +kernel) ⟨rfl, rfl, rfl, rfl, rfl, by decide +kernel⟩ ?hw ?hc
  case hw => w_witness2
  case hc =>
    refine LamX.walk_ofTsE (l := PySem.Challenge.rw_tellontree_k80_whole_sums_by_all_schedul) (n := 63) (k := 26) (x := "_law_script") (CX := fun w => L2.CX (PySem.Challenge.rw_tellontree_k80_whole_sums_by_all_schedul).prog w) rfl (by decide) (by kernel_rfl) ⟨rfl, by decide, by decide⟩ ?F (fun _ _ _ _ _ h => Lw.cx_none h)
    intro w mg fa h Y G hmg0
    obtain ⟨K, c⟩ := Y
    have hmg : mg ("law" : PySem.Str) = some (.ref fa) := by
      have e : (HandSHeadRun.topDef (OpenLaw.row PySem.Challenge.rw_tellontree_k80_whole_sums_by_all_schedul).prog 26).name = ("law" : PySem.Str) := by kernel_rfl
      rw [← e]
      exact hmg0
    exact ⟨K, c.inn, Lw.head_end c G hmg⟩
