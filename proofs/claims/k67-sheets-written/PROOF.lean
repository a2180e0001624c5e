import PyProof.Rows.All
import Wide.All
import OpenK.AllK
import Wide.FinOn
import HandS.ForMost
import HandS.Exc
import HandS.WordsExc
import HandS.TryOnly
import HandS.Wide
import HandS.ExcValue
import HandS.Lambda
import HandS.ExcIs
import HandS.ExcInit
import HandS.IsInst
import HandS.ClsMeth
import HandS.TupAny
import HandS.TupLe
import HandS.OwnEq
import HandS.ExcField
import HandS.TryMany
import KE.KExcInit
import KE.KOpsOwn
import HandS.Iter
import KE.GoesMore
import PyProof.EnumMake
import HandS.Defaults
import KE.KTupSum
import HandS.More
import HandS.SetFor
import KE.SortKeyHeap
import HandS.SortKw
import HandS.Head0
import HandS.Head1
import HandS.Head2
import HandS.HeadHook1
import HandS.HeadWalk
import KE.KNestM
import HandS.SortInts
import HandS.Dict
import HandS.SetKeys
import HandS.Conv
import HandS.Deep
import KE.DataMinMax
import KE.DataFind
import HandS.Text
import HandS.FStr
import HandS.StrMore
import HandS.RaiseMore
import KE.KUnpackStar
import PySem.Challenge.RW_tellontree_k67_sheets_written
import HandS.Style
import HandS.GenList
import PyProof.MaxThree
import PyProof.SeqI3
import HandS.Star
import HandS.DeepEq
import KE.KEqNest
import PyProof.NeKinds
import PyProof.EqLayable
import HandS.TupMul
import HandS.EndBits
set_option Elab.async false
set_option linter.all false
set_option maxRecDepth 100000
set_option maxHeartbeats 8000000
/-! pure data, a store of tracked objects, and how they stand in the layer's heap -/
namespace SI
open PySem PySem.Spec PyProof.Rows L2

/-- pure data; ref n: the n-th tracked object -/
inductive D where
  | non | bl (b : Bool) | int (i : Int) | str (x : Str) | ty (n : String) | gl (a : Addr) | ref (n : Nat)
  | tup (xs : List D) | lst (xs : List D) | rdl (xs : List D)
  | dk (ks : List Key) (vs : List D) | dt (ks : List (List Int)) (vs : List D)
  | ins (C : Addr) (fs : List Str) (vs : List D)
  | exc (a C : Addr) (od : Option Addr) (fs : List Str) (vs : List D)
  | err (C : Addr)
  | erd (C : Addr) (fs : List Str) (vs : List D)
  | adr (a : Addr) (d : D)
/-- a tracked object -/
inductive O where
  | lst (xs : List D) | dk (ks : List Key) (vs : List D) | dt (ks : List (List Int)) (vs : List D)
  | ins (C : Addr) (fs : List Str) (vs : List D) | gone
mutual
noncomputable def D.beq : D → D → Bool
  | .non, .non => true
  | .bl a, .bl b => a == b
  | .int a, .int b => a == b
  | .str a, .str b => decide (a = b)
  | .ty a, .ty b => a == b
  | .gl a, .gl b => a == b
  | .ref a, .ref b => a == b
  | .tup a, .tup b => D.beqs a b
  | .lst a, .lst b => D.beqs a b
  | .rdl a, .rdl b => D.beqs a b
  | .dk k a, .dk l b => decide (k = l) && D.beqs a b
  | .dt k a, .dt l b => decide (k = l) && D.beqs a b
  | .ins C k a, .ins E l b => decide (C = E) && (decide (k = l) && D.beqs a b)
  | .err C, .err E => decide (C = E)
  | .erd C k a, .erd E l b => decide (C = E) && (decide (k = l) && D.beqs a b)
  | .adr a x, .adr b y => decide (a = b) && D.beq x y
  | .exc x C o k a, .exc y E p l b => decide (x = y) && (decide (C = E) && (decide (o = p) && (decide (k = l) && D.beqs a b)))
  | _, _ => false
noncomputable def D.beqs : List D → List D → Bool
  | [], [] => true
  | x :: xs, y :: ys => D.beq x y && D.beqs xs ys
  | _, _ => false
end
mutual
theorem D.beq_iff : ∀ a b : D, D.beq a b = true ↔ a = b
  | .non, b => by cases b <;> simp [D.beq]
  | .bl _, b => by cases b <;> simp [D.beq]
  | .int _, b => by cases b <;> simp [D.beq]
  | .str _, b => by cases b <;> simp [D.beq]
  | .ty _, b => by cases b <;> simp [D.beq]
  | .gl _, b => by cases b <;> simp [D.beq]
  | .ref _, b => by cases b <;> simp [D.beq]
  | .tup xs, b => by cases b <;> simp [D.beq, D.beqs_iff xs]
  | .lst xs, b => by cases b <;> simp [D.beq, D.beqs_iff xs]
  | .rdl xs, b => by cases b <;> simp [D.beq, D.beqs_iff xs]
  | .dk _ xs, b => by cases b <;> simp [D.beq, D.beqs_iff xs]
  | .dt _ xs, b => by cases b <;> simp [D.beq, D.beqs_iff xs]
  | .ins _ _ xs, b => by cases b <;> simp [D.beq, D.beqs_iff xs]
  | .exc _ _ _ _ xs, b => by cases b <;> simp [D.beq, D.beqs_iff xs]
  | .err _, b => by cases b <;> simp [D.beq]
  | .erd _ _ xs, b => by cases b <;> simp [D.beq, D.beqs_iff xs]
  | .adr _ x, b => by cases b <;> simp [D.beq, D.beq_iff x]
theorem D.beqs_iff : ∀ a b : List D, D.beqs a b = true ↔ a = b
  | [], b => by cases b <;> simp [D.beqs]
  | x :: xs, b => by cases b <;> simp [D.beqs, D.beq_iff x, D.beqs_iff xs]
end
noncomputable instance : DecidableEq D := fun a b => decidable_of_iff _ (D.beq_iff a b)
noncomputable def O.beq : O → O → Bool
  | .lst a, .lst b => D.beqs a b
  | .dk k a, .dk l b => decide (k = l) && D.beqs a b
  | .dt k a, .dt l b => decide (k = l) && D.beqs a b
  | .ins C k a, .ins E l b => decide (C = E) && (decide (k = l) && D.beqs a b)
  | .gone, .gone => true
  | _, _ => false
theorem O.beq_iff (a b : O) : O.beq a b = true ↔ a = b := by
  cases a <;> cases b <;> simp [O.beq, D.beqs_iff]
noncomputable instance : DecidableEq O := fun a b => decidable_of_iff _ (O.beq_iff a b)
mutual
/-- every ref in it is below n -/
noncomputable def D.bel (n : Nat) : D → Bool
  | .ref k => decide (k < n)
  | .tup xs => D.bels n xs
  | .lst xs => D.bels n xs
  | .rdl xs => D.bels n xs
  | .dk _ xs => D.bels n xs
  | .dt _ xs => D.bels n xs
  | .ins _ _ xs => D.bels n xs
  | .exc _ _ _ _ xs => D.bels n xs
  | .erd _ _ xs => D.bels n xs
  | .adr _ d => D.bel n d
  | _ => true
noncomputable def D.bels (n : Nat) : List D → Bool
  | [] => true
  | x :: xs => D.bel n x && D.bels n xs
end
noncomputable def O.bel (n : Nat) : O → Bool
  | .lst xs => D.bels n xs
  | .dk _ xs => D.bels n xs
  | .dt _ xs => D.bels n xs
  | .ins _ _ xs => D.bels n xs
  | .gone => true
noncomputable abbrev S := List O
noncomputable abbrev Mu := List (Option Addr)

/-- at a stands u, and a is not tracked -/
noncomputable def Live (mu : Mu) (a : Addr) : Prop := some a ∈ mu
noncomputable def Fix (mu : Mu) (H : Hp) (a : Addr) (u : HO) : Prop := H a = some u ∧ ¬ Live mu a
noncomputable def FixR (mu : Mu) (H : Hp) (a : Addr) (u : HO) : Prop := Rd H a u ∧ ¬ Live mu a
noncomputable def KTup (K : PySem.W.Frag) (a : Addr) (xs : List V) : Prop :=
  ∃ (o : Obj) (its : Array Value) (n : Nat), K.lookup a = some o ∧ o.cls = .type "tuple" ∧ o.data = .seq its n ∧ its.size ≤ sizeLine ∧ Vals xs its.toList
noncomputable def KLst (K : PySem.W.Frag) (a : Addr) (xs : List V) : Prop :=
  ∃ (o : Obj) (its : Array Value) (n : Nat), K.lookup a = some o ∧ o.cls = .type "list" ∧ o.dict = none ∧ o.data = .seq its n ∧ its.size ≤ sizeLine ∧ Vals xs its.toList

/-- at b stands the tuple of ints k, a constant of the text or a made one -/
noncomputable def KeyA (K : PySem.W.Frag) (mu : Mu) (H : Hp) (k : List Int) (b : Addr) : Prop := KTup K b (k.map V.int) ∨ Fix mu H b (.tup (k.map V.int))
noncomputable def Keys (K : PySem.W.Frag) (mu : Mu) (H : Hp) (ks : List (List Int)) (bs : List Addr) : Prop := Paired (KeyA K mu H) ks bs
noncomputable def xsOf (ks : List (List Int)) (bs : List Addr) (us : List Value) : List (List Int × Addr × Value) := ks.zip (bs.zip us)
/-- a dict at a: its keys are the tuples of ints ks, which stand at bs -/
noncomputable def dtH (a : Addr) (ks : List (List Int)) (bs : List Addr) (vs : List V) : HO := .ext fun h => ∃ us, Vals vs us ∧ ks.length = bs.length ∧ ks.length = us.length ∧ ks.Nodup ∧ ks.length ≤ sizeLine ∧ (a == sysModules) = false ∧
  ∃ o es ep, h.get? a = some o ∧ o.ExactDict ∧ o.data = .dict es ep ∧ ∀ (P : Program) (w : World), es.toList = (xsOf ks bs us).map (entryOfKey (tupleKind (PySem.intKind P w)))

noncomputable def tyNames : List String := ["NoneType", "bool", "int", "str", "list", "tuple", "dict"]
/-- an own exception class: what isinstance asks of it -/
structure ErrK (K : PySem.W.Frag) (C : Addr) : Prop where
  ex : ExcC K C
  ny : ∀ n ∈ tyNames, PySem.W.kitOne K (.ref C) (.type n) = some false
mutual
noncomputable def RelD (K : PySem.W.Frag) (mu : Mu) (H : Hp) : D → V → Prop
  | .non, v => v = .non
  | .bl b, v => v = .bl b
  | .int i, v => v = .int i
  | .str x, v => v = .str x
  | .ty n, v => v = .ty n
  | .gl a, v => v = .ref a
  | .ref n, v => ∃ a, mu[n]? = some (some a) ∧ v = .ref a
  | .tup xs, v => ∃ a vs, v = .ref a ∧ (KTup K a vs ∨ Fix mu H a (.tup vs)) ∧ RelDs K mu H xs vs
  | .lst xs, v => ∃ a vs, v = .ref a ∧ Fix mu H a (.lst vs) ∧ RelDs K mu H xs vs
  | .rdl xs, v => ∃ a vs, v = .ref a ∧ (KLst K a vs ∨ FixR mu H a (.lst vs)) ∧ RelDs K mu H xs vs
  | .dk ks ds, v => ∃ a vs, v = .ref a ∧ Fix mu H a (.dK (ks.zip vs)) ∧ ks.length = vs.length ∧ RelDs K mu H ds vs
  | .dt ks ds, v => ∃ a bs vs, v = .ref a ∧ Fix mu H a (dtH a ks bs vs) ∧ Keys K mu H ks bs ∧ ks.length = vs.length ∧ RelDs K mu H ds vs
  | .ins C fs ds, v => ∃ a dx vs, v = .ref a ∧ H a = some (.ins C dx (fs.zip vs)) ∧ ¬ Live mu a ∧ fs.length = vs.length ∧ RelDs K mu H ds vs
  | .err C, v => ∃ a, v = .ref a ∧ Fix mu H a (ExO (.ref C) a) ∧ ErrK K C
  | .erd C fs ds, v => ∃ a dx vs, v = .ref a ∧ Fix mu H a (exo a C (some dx)) ∧ Fix mu H dx (exd dx (fs.zip vs)) ∧ ErrK K C ∧ fs.length = vs.length ∧ RelDs K mu H ds vs
  | .adr a d, v => v = .ref a ∧ RelD K mu H d v
  | .exc a C od fs ds, v => v = .ref a ∧ ∃ vs, ((fs = [] ∧ od = none) ∨ ∃ d, od = some d ∧ H d = some (.xd (fs.zip vs)) ∧ ¬ Live mu d) ∧ fs.length = vs.length ∧ RelDs K mu H ds vs
noncomputable def RelDs (K : PySem.W.Frag) (mu : Mu) (H : Hp) : List D → List V → Prop
  | [], vs => vs = []
  | x :: xs, vs => ∃ v r, vs = v :: r ∧ RelD K mu H x v ∧ RelDs K mu H xs r
end

/-- from one state of the heap to a later one: what is not tracked stays, what is tracked stays tracked -/
structure Ge (mu : Mu) (H : Hp) (mu' : Mu) (H' : Hp) : Prop where
  fr : ∀ a o, H a = some o → ¬ Live mu a → (∀ ps, o ≠ .tbl ps) → H' a = some o ∧ ¬ Live mu' a
  rf : ∀ (n : Nat) (a : Addr), mu[n]? = some (some a) → mu'[n]? = some (some a)
theorem Ge.refl (mu : Mu) (H : Hp) : Ge mu H mu H := ⟨fun _ _ h n _ => ⟨h, n⟩, fun _ _ h => h⟩
theorem Ge.trans {mu mu1 mu2 : Mu} {H H1 H2 : Hp} (a : Ge mu H mu1 H1) (b : Ge mu1 H1 mu2 H2) : Ge mu H mu2 H2 :=
  ⟨fun c o h n q => b.fr c o (a.fr c o h n q).1 (a.fr c o h n q).2 q, fun n c h => b.rf n c (a.rf n c h)⟩
theorem Ge.fix {mu mu' : Mu} {H H' : Hp} (g : Ge mu H mu' H') {a : Addr} {u : HO} (h : Fix mu H a u) (q : ∀ ps, u ≠ .tbl ps := by exact fun _ z => by cases z) : Fix mu' H' a u := g.fr a u h.1 h.2 q
theorem Ge.fixR {mu mu' : Mu} {H H' : Hp} (g : Ge mu H mu' H') {a : Addr} {u : HO} (h : FixR mu H a u) (q : ∀ ps, u ≠ .tbl ps := by exact fun _ z => by cases z) : FixR mu' H' a u := by
  obtain ⟨h, n⟩ := h
  rcases h with h | ⟨o, h⟩
  · exact ⟨.inl (g.fr _ _ h n q).1, (g.fr _ _ h n q).2⟩
  · exact ⟨.inr ⟨o, (g.fr _ _ h n fun _ z => by cases z).1⟩, (g.fr _ _ h n fun _ z => by cases z).2⟩
mutual
theorem RelD.mono {K : PySem.W.Frag} {mu mu' : Mu} {H H' : Hp} (g : Ge mu H mu' H') : ∀ (d : D) (v : V), RelD K mu H d v → RelD K mu' H' d v
  | .non, _, h => by simpa only [RelD] using h
  | .bl _, _, h => by simpa only [RelD] using h
  | .int _, _, h => by simpa only [RelD] using h
  | .str _, _, h => by simpa only [RelD] using h
  | .ty _, _, h => by simpa only [RelD] using h
  | .gl _, _, h => by simpa only [RelD] using h
  | .ref n, v, h => by
    simp only [RelD] at h ⊢
    obtain ⟨a, e, r⟩ := h
    exact ⟨a, g.rf n a e, r⟩
  | .tup xs, v, h => by
    simp only [RelD] at h ⊢
    obtain ⟨a, vs, e, r, t⟩ := h
    exact ⟨a, vs, e, r.imp id (fun z => g.fix z), RelDs.mono g xs vs t⟩
  | .lst xs, v, h => by
    simp only [RelD] at h ⊢
    obtain ⟨a, vs, e, r, t⟩ := h
    exact ⟨a, vs, e, g.fix r, RelDs.mono g xs vs t⟩
  | .rdl xs, v, h => by
    simp only [RelD] at h ⊢
    obtain ⟨a, vs, e, r, t⟩ := h
    exact ⟨a, vs, e, r.imp id (fun z => g.fixR z), RelDs.mono g xs vs t⟩
  | .dk ks xs, v, h => by
    simp only [RelD] at h ⊢
    obtain ⟨a, vs, e, r, l, t⟩ := h
    exact ⟨a, vs, e, g.fix r, l, RelDs.mono g xs vs t⟩
  | .dt ks xs, v, h => by
    simp only [RelD] at h ⊢
    obtain ⟨a, bs, vs, e, r, kk, l, t⟩ := h
    exact ⟨a, bs, vs, e, g.fix r, Paired.mapP kk fun _ _ z => z.imp id (fun z => g.fix z), l, RelDs.mono g xs vs t⟩
  | .ins C fs xs, v, h => by
    simp only [RelD] at h ⊢
    obtain ⟨a, dx, vs, e, r, nl, l, t⟩ := h
    exact ⟨a, dx, vs, e, (g.fr _ _ r nl fun _ z => by cases z).1, (g.fr _ _ r nl fun _ z => by cases z).2, l, RelDs.mono g xs vs t⟩
  | .exc a C od fs xs, v, h => by
    simp only [RelD] at h ⊢
    obtain ⟨e, vs, r, l, t⟩ := h
    exact ⟨e, vs, r.imp id fun ⟨d, e1, e2, e3⟩ => ⟨d, e1, (g.fr _ _ e2 e3 fun _ z => by cases z).1, (g.fr _ _ e2 e3 fun _ z => by cases z).2⟩, l, RelDs.mono g xs vs t⟩
  | .err C, v, h => by
    simp only [RelD] at h ⊢
    obtain ⟨a, e, r, t⟩ := h
    exact ⟨a, e, g.fix r, t⟩
  | .erd C fs xs, v, h => by
    simp only [RelD] at h ⊢
    obtain ⟨a, dx, vs, e, r, rd, k, l, t⟩ := h
    exact ⟨a, dx, vs, e, g.fix r, g.fix rd, k, l, RelDs.mono g xs vs t⟩
  | .adr a d, v, h => by
    simp only [RelD] at h ⊢
    exact ⟨h.1, RelD.mono g d v h.2⟩
theorem RelDs.mono {K : PySem.W.Frag} {mu mu' : Mu} {H H' : Hp} (g : Ge mu H mu' H') : ∀ (ds : List D) (vs : List V), RelDs K mu H ds vs → RelDs K mu' H' ds vs
  | [], vs, h => by simpa only [RelDs] using h
  | x :: xs, vs, h => by
    simp only [RelDs] at h ⊢
    obtain ⟨v, r, e, h1, h2⟩ := h
    exact ⟨v, r, e, RelD.mono g x v h1, RelDs.mono g xs r h2⟩
end
theorem RelDs.length {K : PySem.W.Frag} {mu : Mu} {H : Hp} : ∀ {ds : List D} {vs : List V}, RelDs K mu H ds vs → ds.length = vs.length
  | [], vs, h => by
    simp only [RelDs] at h
    rw [h]
    rfl
  | x :: xs, vs, h => by
    simp only [RelDs] at h
    obtain ⟨v, r, rfl, _, h2⟩ := h
    rw [List.length_cons, List.length_cons, RelDs.length h2]
theorem RelDs.get {K : PySem.W.Frag} {mu : Mu} {H : Hp} : ∀ {ds : List D} {vs : List V} {i : Nat} {d : D}, RelDs K mu H ds vs → ds[i]? = some d → ∃ v, vs[i]? = some v ∧ RelD K mu H d v
  | [], vs, i, d, h, e => by simp at e
  | x :: xs, vs, 0, d, h, e => by
    simp only [RelDs] at h
    obtain ⟨v, r, rfl, h1, h2⟩ := h
    have e' : x = d := by simpa using e
    subst e'
    exact ⟨v, rfl, h1⟩
  | x :: xs, vs, i + 1, d, h, e => by
    simp only [RelDs] at h
    obtain ⟨v, r, rfl, h1, h2⟩ := h
    obtain ⟨w, e1, e2⟩ := RelDs.get (i := i) (d := d) h2 (by simpa using e)
    exact ⟨w, by simpa using e1, e2⟩
theorem RelDs.nil {K : PySem.W.Frag} {mu : Mu} {H : Hp} : RelDs K mu H [] [] := by simp only [RelDs]
theorem RelDs.cons {K : PySem.W.Frag} {mu : Mu} {H : Hp} {d : D} {v : V} {ds : List D} {vs : List V} (h : RelD K mu H d v) (t : RelDs K mu H ds vs) : RelDs K mu H (d :: ds) (v :: vs) := by
  simp only [RelDs]
  exact ⟨v, vs, rfl, h, t⟩
theorem RelDs.append {K : PySem.W.Frag} {mu : Mu} {H : Hp} : ∀ {ds es : List D} {vs us : List V}, RelDs K mu H ds vs → RelDs K mu H es us → RelDs K mu H (ds ++ es) (vs ++ us)
  | [], es, vs, us, h, k => by
    simp only [RelDs] at h
    subst h
    exact k
  | x :: xs, es, vs, us, h, k => by
    simp only [RelDs] at h
    obtain ⟨v, r, rfl, h1, h2⟩ := h
    exact .cons h1 (RelDs.append h2 k)
theorem RelDs.set {K : PySem.W.Frag} {mu : Mu} {H : Hp} {d : D} {v : V} (hd : RelD K mu H d v) : ∀ {ds : List D} {vs : List V} (i : Nat), RelDs K mu H ds vs → RelDs K mu H (ds.set i d) (vs.set i v)
  | [], vs, i, h => by
    simp only [RelDs] at h
    subst h
    exact .nil
  | x :: xs, vs, 0, h => by
    simp only [RelDs] at h
    obtain ⟨w, r, rfl, h1, h2⟩ := h
    exact .cons hd h2
  | x :: xs, vs, i + 1, h => by
    simp only [RelDs] at h
    obtain ⟨w, r, rfl, h1, h2⟩ := h
    exact .cons h1 (RelDs.set hd i h2)
theorem RelDs.take {K : PySem.W.Frag} {mu : Mu} {H : Hp} : ∀ {ds : List D} {vs : List V} (n : Nat), RelDs K mu H ds vs → RelDs K mu H (ds.take n) (vs.take n)
  | _, _, 0, _ => by simpa using RelDs.nil
  | [], vs, n + 1, h => by
    simp only [RelDs] at h
    subst h
    exact .nil
  | x :: xs, vs, n + 1, h => by
    simp only [RelDs] at h
    obtain ⟨w, r, rfl, h1, h2⟩ := h
    exact .cons h1 (RelDs.take n h2)
theorem RelDs.drop {K : PySem.W.Frag} {mu : Mu} {H : Hp} : ∀ {ds : List D} {vs : List V} (n : Nat), RelDs K mu H ds vs → RelDs K mu H (ds.drop n) (vs.drop n)
  | _, _, 0, h => h
  | [], vs, n + 1, h => by
    simp only [RelDs] at h
    subst h
    exact .nil
  | x :: xs, vs, n + 1, h => by
    simp only [RelDs] at h
    obtain ⟨w, r, rfl, h1, h2⟩ := h
    exact RelDs.drop n h2
theorem RelDs.ints {K : PySem.W.Frag} {mu : Mu} {H : Hp} : ∀ (ns : List Int), RelDs K mu H (ns.map D.int) (ns.map V.int)
  | [] => .nil
  | n :: r => .cons (by simp only [RelD]) (RelDs.ints r)

/-- what a tracked object is -/
noncomputable def OR (K : PySem.W.Frag) (mu : Mu) (H : Hp) (a : Addr) : O → Prop
  | .lst xs => ∃ vs, H a = some (.lst vs) ∧ RelDs K mu H xs vs
  | .dk ks ds => ∃ vs, H a = some (.dK (ks.zip vs)) ∧ ks.length = vs.length ∧ RelDs K mu H ds vs
  | .dt ks ds => ∃ bs vs, H a = some (dtH a ks bs vs) ∧ Keys K mu H ks bs ∧ ks.length = vs.length ∧ RelDs K mu H ds vs
  | .ins C fs ds => ∃ dx vs, H a = some (.ins C dx (fs.zip vs)) ∧ fs.length = vs.length ∧ RelDs K mu H ds vs
  | .gone => True
theorem OR.mono {K : PySem.W.Frag} {mu mu' : Mu} {H H' : Hp} {a : Addr} (g : Ge mu H mu' H') (e : H' a = H a) : ∀ {o : O}, OR K mu H a o → OR K mu' H' a o
  | .lst xs, ⟨vs, h, r⟩ => ⟨vs, e.trans h, r.mono g⟩
  | .dk ks ds, ⟨vs, h, l, r⟩ => ⟨vs, e.trans h, l, r.mono g⟩
  | .dt ks ds, ⟨bs, vs, h, kk, l, r⟩ => ⟨bs, vs, e.trans h, Paired.mapP kk fun _ _ z => z.imp id (fun z => g.fix z), l, r.mono g⟩
  | .ins C fs ds, ⟨dx, vs, h, l, r⟩ => ⟨dx, vs, e.trans h, l, r.mono g⟩
  | .gone, _ => trivial

/-- the defs whose lambdas are served: their code objects' tables are in the heap -/
noncomputable def tabNs : List Str := ["by_start", "crossings"]
/-- the table at P: each code object that it tells bears the name q -/
noncomputable def TabG (mu : Mu) (H : Hp) (P : Addr) (q : Str) : Prop := ¬ Live mu P ∧ ∃ ps : Array Value, H P = some (.tbl ps) ∧ TriplesOk ps.toList ∧ ∀ (pos : Pos) (cv : Value), codeAmong pos ps.toList = some cv → ∃ c, cv = .ref c ∧ H c = some (LamX.CodeO c q) ∧ ¬ Live mu c
theorem TabG.mono {mu mu' : Mu} {H H' : Hp} (f : ∀ a o, H a = some o → ¬ Live mu a → H' a = some o ∧ ¬ Live mu' a) {P : Addr} {q : Str} (h : TabG mu H P q) : TabG mu' H' P q := by
  obtain ⟨n, ps, h1, h2, h3⟩ := h
  exact ⟨(f _ _ h1 n).2, ps, (f _ _ h1 n).1, h2, fun pos cv hc => by
    obtain ⟨c, e, h4, h5⟩ := h3 pos cv hc
    exact ⟨c, e, f _ _ h4 h5⟩⟩
noncomputable def TabK (K : PySem.W.Frag) (mu : Mu) (H : Hp) : Prop := ∀ (c : Addr) (oc : Obj) (vs : Array Value) (q : Str) (t : Tok) (P : Addr), K.lookup c = some oc → oc.data = .fields vs → vs[1]? = some (.str q t) → vs[11]? = some (.ref P) → q ∈ tabNs → TabG mu H P ((q ++ ".<locals>.") ++ "<lambda>")
theorem TabK.mono {K : PySem.W.Frag} {mu mu' : Mu} {H H' : Hp} (f : ∀ a o, H a = some o → ¬ Live mu a → H' a = some o ∧ ¬ Live mu' a) (h : TabK K mu H) : TabK K mu' H' := fun c oc vs q t P h1 h2 h3 h4 h5 => (h c oc vs q t P h1 h2 h3 h4 h5).mono f
structure Sim (K : PySem.W.Frag) (mu : Mu) (s : S) (H : Hp) : Prop where
  tab : TabK K mu H
  len : mu.length = s.length
  inj : ∀ (i j : Nat) (a : Addr), mu[i]? = some (some a) → mu[j]? = some (some a) → i = j
  dom : ∀ a, Live mu a → ∃ o, H a = some o
  obj : ∀ (n : Nat) (o : O), s[n]? = some o → o = .gone ∨ ∃ a, mu[n]? = some (some a) ∧ OR K mu H a o
theorem live_at {mu : Mu} {n : Nat} {a : Addr} (h : mu[n]? = some (some a)) : Live mu a := List.mem_of_getElem? h
theorem live_iff {mu : Mu} {a : Addr} : Live mu a ↔ ∃ n : Nat, mu[n]? = some (some a) := List.mem_iff_getElem?
theorem live_app {mu : Mu} {a p : Addr} : Live (mu ++ [some p]) a ↔ Live mu a ∨ a = p := by
  unfold Live
  simp
section
variable {K : PySem.W.Frag} {mu : Mu} {s : S} {H : Hp} {p : Addr} {u : HO}
theorem Sim.fresh (m : Sim K mu s H) (hp : H p = none) : ¬ Live mu p := fun z => by
  obtain ⟨o, e⟩ := m.dom p z
  rw [hp] at e
  cases e
/-- a new object that is not tracked -/
theorem fr_pure (hp : H p = none) : ∀ a o, H a = some o → ¬ Live mu a → upd H p u a = some o ∧ ¬ Live mu a := fun a o h n => ⟨by rw [upd_ne (ne_of_none h hp)]; exact h, n⟩
theorem Ge.pure (m : Sim K mu s H) (hp : H p = none) : Ge mu H mu (upd H p u) :=
  ⟨fun a o h n _ => ⟨by rw [upd_ne (ne_of_none h hp)]; exact h, n⟩, fun _ _ h => h⟩
theorem Sim.pure (m : Sim K mu s H) (hp : H p = none) : Sim K mu s (upd H p u) where
  tab := m.tab.mono (fr_pure hp)
  len := m.len
  inj := m.inj
  dom := fun a l => by
    obtain ⟨o, e⟩ := m.dom a l
    exact ⟨o, by rw [upd_ne (ne_of_none e hp)]; exact e⟩
  obj := fun n o e => by
    rcases m.obj n o e with z | ⟨a, e1, r⟩
    · exact .inl z
    · refine .inr ⟨a, e1, r.mono (Ge.pure m hp) ?_⟩
      obtain ⟨ob, e2⟩ := m.dom a (live_at e1)
      exact upd_ne (ne_of_none e2 hp)
/-- a new tracked object -/
theorem fr_track (hp : H p = none) : ∀ a o, H a = some o → ¬ Live mu a → upd H p u a = some o ∧ ¬ Live (mu ++ [some p]) a := fun a o h n => ⟨by rw [upd_ne (ne_of_none h hp)]; exact h, fun z => (live_app.mp z).elim n (fun e => ne_of_none h hp e)⟩
theorem Ge.track (m : Sim K mu s H) (hp : H p = none) : Ge mu H (mu ++ [some p]) (upd H p u) :=
  ⟨fun a o h n _ => ⟨by rw [upd_ne (ne_of_none h hp)]; exact h, fun z => (live_app.mp z).elim n (fun e => ne_of_none h hp e)⟩,
   fun n a h => by
    have hn : n < mu.length := (List.getElem?_eq_some_iff.mp h).1
    rw [List.getElem?_append_left hn]
    exact h⟩
theorem Sim.track {o : O} (m : Sim K mu s H) (hp : H p = none) (ho : OR K (mu ++ [some p]) (upd H p u) p o) : Sim K (mu ++ [some p]) (s ++ [o]) (upd H p u) where
  tab := m.tab.mono (fr_track hp)
  len := by
    rw [List.length_append, List.length_append, m.len]
    rfl
  inj := fun i j a h1 h2 => by
    rcases Nat.lt_or_ge i mu.length with hi | hi <;> rcases Nat.lt_or_ge j mu.length with hj | hj
    · rw [List.getElem?_append_left hi] at h1
      rw [List.getElem?_append_left hj] at h2
      exact m.inj i j a h1 h2
    · rw [List.getElem?_append_left hi] at h1
      rw [List.getElem?_append_right hj] at h2
      have e : p = a := by
        cases q : j - mu.length with
        | zero =>
          rw [q] at h2
          simpa using h2
        | succ k =>
          rw [q] at h2
          simp at h2
      subst e
      exact absurd (live_at h1) (m.fresh hp)
    · rw [List.getElem?_append_right hi] at h1
      rw [List.getElem?_append_left hj] at h2
      have e : p = a := by
        cases q : i - mu.length with
        | zero =>
          rw [q] at h1
          simpa using h1
        | succ k =>
          rw [q] at h1
          simp at h1
      subst e
      exact absurd (live_at h2) (m.fresh hp)
    · have e1 := (List.getElem?_eq_some_iff.mp h1).1
      have e2 := (List.getElem?_eq_some_iff.mp h2).1
      rw [List.length_append, List.length_singleton] at e1 e2
      omega
  dom := fun a l => by
    rcases live_app.mp l with l | e
    · obtain ⟨o, e⟩ := m.dom a l
      exact ⟨o, by rw [upd_ne (ne_of_none e hp)]; exact e⟩
    · subst e
      exact ⟨u, upd_same⟩
  obj := fun n o' e => by
    rcases Nat.lt_or_ge n s.length with hn | hn
    · rw [List.getElem?_append_left hn] at e
      rcases m.obj n o' e with z | ⟨a, e1, r⟩
      · exact .inl z
      · refine .inr ⟨a, (Ge.track (u := u) m hp).rf n a e1, r.mono (Ge.track m hp) ?_⟩
        obtain ⟨ob, e2⟩ := m.dom a (live_at e1)
        exact upd_ne (ne_of_none e2 hp)
    · have hl := (List.getElem?_eq_some_iff.mp e).1
      rw [List.length_append, List.length_singleton] at hl
      have en : n = s.length := by omega
      subst en
      rw [List.getElem?_append_right (Nat.le_refl _), Nat.sub_self] at e
      have e' : o = o' := by simpa using e
      subst e'
      refine .inr ⟨p, ?_, ho⟩
      rw [← m.len, List.getElem?_append_right (Nat.le_refl _), Nat.sub_self]
      rfl
/-- a tracked object changes -/
theorem fr_put {n : Nat} {a : Addr} (h : mu[n]? = some (some a)) : ∀ b o, H b = some o → ¬ Live mu b → upd H a u b = some o ∧ ¬ Live mu b := fun b o e nl => ⟨by rw [upd_ne (fun z => nl (by rw [z]; exact live_at h))]; exact e, nl⟩
theorem Ge.put {n : Nat} {a : Addr} (h : mu[n]? = some (some a)) : Ge mu H mu (upd H a u) :=
  ⟨fun b o e nl _ => ⟨by rw [upd_ne (fun z => nl (by rw [z]; exact live_at h))]; exact e, nl⟩, fun _ _ h => h⟩
theorem Sim.put {n : Nat} {a : Addr} {o : O} (m : Sim K mu s H) (h : mu[n]? = some (some a)) (ho : OR K mu (upd H a u) a o) : Sim K mu (s.set n o) (upd H a u) where
  tab := m.tab.mono (fr_put h)
  len := by rw [List.length_set]; exact m.len
  inj := m.inj
  dom := fun b l => by
    by_cases hb : b = a
    · subst hb
      exact ⟨u, upd_same⟩
    · obtain ⟨o, e⟩ := m.dom b l
      exact ⟨o, by rw [upd_ne hb]; exact e⟩
  obj := fun k o' e => by
    by_cases hk : n = k
    · subst hk
      have hl : n < s.length := by
        rw [← m.len]
        exact (List.getElem?_eq_some_iff.mp h).1
      rw [List.getElem?_set_self hl] at e
      cases e
      exact .inr ⟨a, h, ho⟩
    · rw [List.getElem?_set_ne hk] at e
      rcases m.obj k o' e with z | ⟨b, e1, r⟩
      · exact .inl z
      · refine .inr ⟨b, e1, r.mono (Ge.put h) (upd_ne fun z => ?_)⟩
        subst z
        exact hk (m.inj n k b h e1)
/-- what is behind a length is forgotten -/
theorem Sim.cut {n : Nat} (m : Sim K mu s H) (hr : ∀ k o, k < n → s[k]? = some o → o = .gone ∨ ∃ a, mu[k]? = some (some a) ∧ OR K (mu.take n) H a o) : Sim K (mu.take n) (s.take n) H where
  tab := m.tab.mono fun a o h q => ⟨h, fun z => q (List.mem_of_mem_take z)⟩
  len := by rw [List.length_take, List.length_take, m.len]
  inj := fun i j a h1 h2 => by
    rw [List.getElem?_take] at h1 h2
    split at h1 <;> split at h2 <;> first | (exact m.inj i j a h1 h2) | (cases h1) | (cases h2)
  dom := fun a l => m.dom a (List.mem_of_mem_take l)
  obj := fun k o e => by
    rw [List.getElem?_take] at e
    split at e
    · rename_i hk
      rcases hr k o hk e with z | ⟨a, e1, r⟩
      · exact .inl z
      · exact .inr ⟨a, by rw [List.getElem?_take, if_pos hk]; exact e1, r⟩
    · cases e
end

mutual
theorem RelD.bel {K : PySem.W.Frag} {mu : Mu} {H : Hp} : ∀ (d : D) (v : V), RelD K mu H d v → d.bel mu.length = true
  | .non, _, h => by simp only [D.bel]
  | .bl _, _, h => by simp only [D.bel]
  | .int _, _, h => by simp only [D.bel]
  | .str _, _, h => by simp only [D.bel]
  | .ty _, _, h => by simp only [D.bel]
  | .gl _, _, h => by simp only [D.bel]
  | .ref n, v, h => by
    simp only [RelD] at h
    obtain ⟨a, e, r⟩ := h
    simp only [D.bel, decide_eq_true_eq]
    exact (List.getElem?_eq_some_iff.mp e).1
  | .tup xs, v, h => by
    simp only [RelD] at h
    obtain ⟨a, vs, e, r, t⟩ := h
    simp only [D.bel]
    exact RelDs.belows xs vs t
  | .lst xs, v, h => by
    simp only [RelD] at h
    obtain ⟨a, vs, e, r, t⟩ := h
    simp only [D.bel]
    exact RelDs.belows xs vs t
  | .rdl xs, v, h => by
    simp only [RelD] at h
    obtain ⟨a, vs, e, r, t⟩ := h
    simp only [D.bel]
    exact RelDs.belows xs vs t
  | .dk ks xs, v, h => by
    simp only [RelD] at h
    obtain ⟨a, vs, e, r, l, t⟩ := h
    simp only [D.bel]
    exact RelDs.belows xs vs t
  | .dt ks xs, v, h => by
    simp only [RelD] at h
    obtain ⟨a, bs, vs, e, r, kk, l, t⟩ := h
    simp only [D.bel]
    exact RelDs.belows xs vs t
  | .ins C fs xs, v, h => by
    simp only [RelD] at h
    obtain ⟨a, dx, vs, e, r, nl, l, t⟩ := h
    simp only [D.bel]
    exact RelDs.belows xs vs t
  | .exc a C od fs xs, v, h => by
    simp only [RelD] at h
    obtain ⟨e, vs, r, l, t⟩ := h
    simp only [D.bel]
    exact RelDs.belows xs vs t
  | .err _, _, h => by simp only [D.bel]
  | .erd C fs xs, v, h => by
    simp only [RelD] at h
    obtain ⟨a, dx, vs, e, r, rd, k, l, t⟩ := h
    simp only [D.bel]
    exact RelDs.belows xs vs t
  | .adr a d, v, h => by
    simp only [RelD] at h
    simp only [D.bel]
    exact RelD.bel d v h.2
theorem RelDs.belows {K : PySem.W.Frag} {mu : Mu} {H : Hp} : ∀ (ds : List D) (vs : List V), RelDs K mu H ds vs → D.bels mu.length ds = true
  | [], vs, h => by simp only [D.bels]
  | x :: xs, vs, h => by
    simp only [RelDs] at h
    obtain ⟨v, r, e, h1, h2⟩ := h
    simp only [D.bels, Bool.and_eq_true]
    exact ⟨RelD.bel x v h1, RelDs.belows xs r h2⟩
end
theorem not_live_take {mu : Mu} {n : Nat} {a : Addr} (h : ¬ Live mu a) : ¬ Live (mu.take n) a := fun z => h (List.mem_of_mem_take z)
theorem Fix.cut {mu : Mu} {H : Hp} {a : Addr} {u : HO} {n : Nat} (h : Fix mu H a u) : Fix (mu.take n) H a u := ⟨h.1, not_live_take h.2⟩
theorem FixR.cut {mu : Mu} {H : Hp} {a : Addr} {u : HO} {n : Nat} (h : FixR mu H a u) : FixR (mu.take n) H a u := ⟨h.1, not_live_take h.2⟩
mutual
theorem RelD.cut {K : PySem.W.Frag} {mu : Mu} {H : Hp} {n : Nat} : ∀ (d : D) (v : V), RelD K mu H d v → d.bel n = true → RelD K (mu.take n) H d v
  | .non, _, h, _ => by simpa only [RelD] using h
  | .bl _, _, h, _ => by simpa only [RelD] using h
  | .int _, _, h, _ => by simpa only [RelD] using h
  | .str _, _, h, _ => by simpa only [RelD] using h
  | .ty _, _, h, _ => by simpa only [RelD] using h
  | .gl _, _, h, _ => by simpa only [RelD] using h
  | .ref k, v, h, b => by
    simp only [D.bel, decide_eq_true_eq] at b
    simp only [RelD] at h ⊢
    obtain ⟨a, e, r⟩ := h
    exact ⟨a, by rw [List.getElem?_take, if_pos b]; exact e, r⟩
  | .tup xs, v, h, b => by
    simp only [D.bel] at b
    simp only [RelD] at h ⊢
    obtain ⟨a, vs, e, r, t⟩ := h
    exact ⟨a, vs, e, r.imp id Fix.cut, RelDs.cut xs vs t b⟩
  | .lst xs, v, h, b => by
    simp only [D.bel] at b
    simp only [RelD] at h ⊢
    obtain ⟨a, vs, e, r, t⟩ := h
    exact ⟨a, vs, e, r.cut, RelDs.cut xs vs t b⟩
  | .rdl xs, v, h, b => by
    simp only [D.bel] at b
    simp only [RelD] at h ⊢
    obtain ⟨a, vs, e, r, t⟩ := h
    exact ⟨a, vs, e, r.imp id FixR.cut, RelDs.cut xs vs t b⟩
  | .dk ks xs, v, h, b => by
    simp only [D.bel] at b
    simp only [RelD] at h ⊢
    obtain ⟨a, vs, e, r, l, t⟩ := h
    exact ⟨a, vs, e, r.cut, l, RelDs.cut xs vs t b⟩
  | .dt ks xs, v, h, b => by
    simp only [D.bel] at b
    simp only [RelD] at h ⊢
    obtain ⟨a, bs, vs, e, r, kk, l, t⟩ := h
    exact ⟨a, bs, vs, e, r.cut, Paired.mapP kk fun _ _ z => z.imp id Fix.cut, l, RelDs.cut xs vs t b⟩
  | .ins C fs xs, v, h, b => by
    simp only [D.bel] at b
    simp only [RelD] at h ⊢
    obtain ⟨a, dx, vs, e, r, nl, l, t⟩ := h
    exact ⟨a, dx, vs, e, r, not_live_take nl, l, RelDs.cut xs vs t b⟩
  | .exc a C od fs xs, v, h, b => by
    simp only [D.bel] at b
    simp only [RelD] at h ⊢
    obtain ⟨e, vs, r, l, t⟩ := h
    exact ⟨e, vs, r.imp id fun ⟨d, e1, e2, e3⟩ => ⟨d, e1, e2, not_live_take e3⟩, l, RelDs.cut xs vs t b⟩
  | .err C, v, h, b => by
    simp only [RelD] at h ⊢
    obtain ⟨a, e, r, t⟩ := h
    exact ⟨a, e, r.cut, t⟩
  | .erd C fs xs, v, h, b => by
    simp only [D.bel] at b
    simp only [RelD] at h ⊢
    obtain ⟨a, dx, vs, e, r, rd, k, l, t⟩ := h
    exact ⟨a, dx, vs, e, r.cut, rd.cut, k, l, RelDs.cut xs vs t b⟩
  | .adr a d, v, h, b => by
    simp only [D.bel] at b
    simp only [RelD] at h ⊢
    exact ⟨h.1, RelD.cut d v h.2 b⟩
theorem RelDs.cut {K : PySem.W.Frag} {mu : Mu} {H : Hp} {n : Nat} : ∀ (ds : List D) (vs : List V), RelDs K mu H ds vs → D.bels n ds = true → RelDs K (mu.take n) H ds vs
  | [], vs, h, _ => by simpa only [RelDs] using h
  | x :: xs, vs, h, b => by
    simp only [D.bels, Bool.and_eq_true] at b
    simp only [RelDs] at h ⊢
    obtain ⟨v, r, e, h1, h2⟩ := h
    exact ⟨v, r, e, RelD.cut x v h1 b.1, RelDs.cut xs r h2 b.2⟩
end
theorem OR.cut {K : PySem.W.Frag} {mu : Mu} {H : Hp} {n : Nat} {a : Addr} : ∀ {o : O}, OR K mu H a o → o.bel n = true → OR K (mu.take n) H a o
  | .lst xs, ⟨vs, h, r⟩, b => ⟨vs, h, r.cut _ _ (by simpa only [O.bel] using b)⟩
  | .dk ks ds, ⟨vs, h, l, r⟩, b => ⟨vs, h, l, r.cut _ _ (by simpa only [O.bel] using b)⟩
  | .dt ks ds, ⟨bs, vs, h, kk, l, r⟩, b => ⟨bs, vs, h, Paired.mapP kk fun _ _ z => z.imp id Fix.cut, l, r.cut _ _ (by simpa only [O.bel] using b)⟩
  | .ins C fs ds, ⟨dx, vs, h, l, r⟩, b => ⟨dx, vs, h, l, r.cut _ _ (by simpa only [O.bel] using b)⟩
  | .gone, _, _ => trivial
theorem OR.below {K : PySem.W.Frag} {mu : Mu} {H : Hp} {a : Addr} : ∀ {o : O}, OR K mu H a o → o.bel mu.length = true
  | .lst xs, ⟨vs, h, r⟩ => by simpa only [O.bel] using r.belows _ _
  | .dk ks ds, ⟨vs, h, l, r⟩ => by simpa only [O.bel] using r.belows _ _
  | .dt ks ds, ⟨bs, vs, h, kk, l, r⟩ => by simpa only [O.bel] using r.belows _ _
  | .ins C fs ds, ⟨dx, vs, h, l, r⟩ => by simpa only [O.bel] using r.belows _ _
  | .gone, _ => rfl
theorem Sim.below {K : PySem.W.Frag} {mu : Mu} {s : S} {H : Hp} (m : Sim K mu s H) {o : O} (ho : o ∈ s) : o.bel s.length = true := by
  obtain ⟨n, e⟩ := List.mem_iff_getElem?.mp ho
  rcases m.obj n o e with z | ⟨a, e1, r⟩
  · subst z
    rfl
  · rw [← m.len]
    exact r.below
/-- the state behind a def whose own objects are forgotten -/
theorem Sim.back {K : PySem.W.Frag} {mu : Mu} {s : S} {H : Hp} {n : Nat} (m : Sim K mu s H) (hb : ∀ o ∈ s.take n, o.bel n = true) : Sim K (mu.take n) (s.take n) H :=
  m.cut fun k o hk e => by
    rcases m.obj k o e with z | ⟨a, e1, r⟩
    · exact .inl z
    · refine .inr ⟨a, e1, r.cut (hb o ?_)⟩
      exact List.mem_of_getElem? (i := k) (by rw [List.getElem?_take, if_pos hk]; exact e)
theorem Ge.back {mu mu' : Mu} {H H' : Hp} (g : Ge mu H mu' H') : Ge mu H (mu'.take mu.length) H' :=
  ⟨fun a o h n q => ⟨(g.fr a o h n q).1, not_live_take (g.fr a o h n q).2⟩, fun n a h => by
    have hn := (List.getElem?_eq_some_iff.mp h).1
    rw [List.getElem?_take, if_pos hn]
    exact g.rf n a h⟩

/-- the def's names -/
noncomputable abbrev Lc := List (Option D)
structure LR (K : PySem.W.Frag) (mu : Mu) (H : Hp) (L : Lc) (σ : L2.St) : Prop where
  len : L.length = σ.length
  at_ : ∀ (i : Nat) (d : D), L[i]? = some (some d) → ∃ v, σ[i]? = some (some v) ∧ RelD K mu H d v
theorem LR.mono {K : PySem.W.Frag} {mu mu' : Mu} {H H' : Hp} {L : Lc} {σ : L2.St} (g : Ge mu H mu' H') (h : LR K mu H L σ) : LR K mu' H' L σ :=
  ⟨h.len, fun i d e => by
    obtain ⟨v, e1, r⟩ := h.at_ i d e
    exact ⟨v, e1, r.mono g⟩⟩
theorem LR.set {K : PySem.W.Frag} {mu : Mu} {H : Hp} {L : Lc} {σ : L2.St} {d : D} {v : V} (h : LR K mu H L σ) (i : Nat) (r : RelD K mu H d v) : LR K mu H (L.set i (some d)) (σ.set i (some v)) :=
  ⟨by rw [List.length_set, List.length_set]; exact h.len, fun j d' e => by
    by_cases hj : i = j
    · subst hj
      have hl : i < L.length := by
        have := (List.getElem?_eq_some_iff.mp e).1
        rwa [List.length_set] at this
      rw [List.getElem?_set_self hl] at e
      cases e
      exact ⟨v, by rw [List.getElem?_set_self (by rw [← h.len]; exact hl)], r⟩
    · rw [List.getElem?_set_ne hj] at e
      obtain ⟨v', e1, r'⟩ := h.at_ j d' e
      exact ⟨v', by rw [List.getElem?_set_ne hj]; exact e1, r'⟩⟩
theorem LR.del {K : PySem.W.Frag} {mu : Mu} {H : Hp} {L : Lc} {σ : L2.St} {x : Option V} (h : LR K mu H L σ) (i : Nat) : LR K mu H (L.set i none) (σ.set i x) :=
  ⟨by rw [List.length_set, List.length_set]; exact h.len, fun j d' e => by
    by_cases hj : i = j
    · subst hj
      have hl : i < L.length := by
        have := (List.getElem?_eq_some_iff.mp e).1
        rwa [List.length_set] at this
      rw [List.getElem?_set_self hl] at e
      cases e
    · rw [List.getElem?_set_ne hj] at e
      obtain ⟨v', e1, r'⟩ := h.at_ j d' e
      exact ⟨v', by rw [List.getElem?_set_ne hj]; exact e1, r'⟩⟩

/-! ### results -/
inductive R (α : Type) where
  | ok (a : α) (s : S) | ex (C : Addr) (fs : List Str) (vs : List D) (s : S) | bad
inductive RS where
  | nx (L : Lc) (s : S) | rt (d : D) (s : S) | bk (L : Lc) (s : S) | ct (L : Lc) (s : S) | ex (C : Addr) (fs : List Str) (vs : List D) (L : Lc) (s : S) | bad
noncomputable abbrev F (α : Type) := Lc → S → R α
noncomputable abbrev FS := Lc → S → RS
noncomputable def R.bind {α β : Type} (r : R α) (k : α → S → R β) : R β := match r with
  | .ok a s => k a s
  | .ex C fs vs s => .ex C fs vs s
  | .bad => .bad
noncomputable def RS.bind (r : RS) (k : Lc → S → RS) : RS := match r with
  | .nx L s => k L s
  | r => r
noncomputable def R.bindS {α : Type} (L : Lc) (r : R α) (k : α → S → RS) : RS := match r with
  | .ok a s => k a s
  | .ex C fs vs s => .ex C fs vs L s
  | .bad => .bad

/-- an exception's fields -/
noncomputable def XR (K : PySem.W.Frag) (mu : Mu) (H : Hp) (fs : List Str) (ds : List D) (od : Option Addr) : Prop :=
  (fs = [] ∧ ds = [] ∧ od = none) ∨ ∃ d vs, od = some d ∧ H d = some (.xd (fs.zip vs)) ∧ ¬ Live mu d ∧ fs.length = vs.length ∧ RelDs K mu H ds vs
theorem XR.mono {K : PySem.W.Frag} {mu mu' : Mu} {H H' : Hp} {fs : List Str} {ds : List D} {od : Option Addr} (g : Ge mu H mu' H') (h : XR K mu H fs ds od) : XR K mu' H' fs ds od := by
  rcases h with h | ⟨d, vs, e, h, n, l, r⟩
  · exact .inl h
  · exact .inr ⟨d, vs, e, (g.fr _ _ h n fun _ z => by cases z).1, (g.fr _ _ h n fun _ z => by cases z).2, l, r.mono g⟩

section
variable (K : PySem.W.Frag) (W : WX)
noncomputable def Post {α β : Type} (rel : Mu → Hp → α → β → Prop) (σ : L2.St) (mu : Mu) (H : Hp) (Q : β → Hp → Prop) : R α → Prop
  | .ok d s' => ∀ mu' H' v, Ge mu H mu' H' → Sim K mu' s' H' → rel mu' H' d v → Q v H'
  | .ex C fs ds s' => ∀ mu' H' od, Ge mu H mu' H' → Sim K mu' s' H' → XR K mu' H' fs ds od → W (.ref C) od σ H'
  | .bad => False
noncomputable def PostS (D : Ends) (mu : Mu) (H : Hp) : RS → Prop
  | .nx L' s' => ∀ mu' σ' H', Ge mu H mu' H' → Sim K mu' s' H' → LR K mu' H' L' σ' → D.nx σ' H'
  | .rt d s' => ∀ mu' H' v, Ge mu H mu' H' → Sim K mu' s' H' → RelD K mu' H' d v → D.rt v H'
  | .bk L' s' => ∀ mu' σ' H', Ge mu H mu' H' → Sim K mu' s' H' → LR K mu' H' L' σ' → D.bk σ' H'
  | .ct L' s' => ∀ mu' σ' H', Ge mu H mu' H' → Sim K mu' s' H' → LR K mu' H' L' σ' → D.ct σ' H'
  | .ex C fs ds L' s' => ∀ mu' σ' H' od, Ge mu H mu' H' → Sim K mu' s' H' → LR K mu' H' L' σ' → XR K mu' H' fs ds od → W (.ref C) od σ' H'
  | .bad => False
noncomputable def tE (f : F D) : TE := fun σ H Q => ∃ mu s L, Sim K mu s H ∧ LR K mu H L σ ∧ Post K W (RelD K) σ mu H Q (f L s)
noncomputable def tA (f : F (List D)) : TA := fun σ H Q => ∃ mu s L, Sim K mu s H ∧ LR K mu H L σ ∧ Post K W (RelDs K) σ mu H Q (f L s)
noncomputable def tT (f : F Bool) : TT := fun σ H Q => ∃ mu s L, Sim K mu s H ∧ LR K mu H L σ ∧ Post K W (fun _ _ (a b : Bool) => a = b) σ mu H Q (f L s)
noncomputable def tS (f : FS) : TS := fun D σ H => ∃ mu s L, Sim K mu s H ∧ LR K mu H L σ ∧ PostS K W D mu H (f L s)
end
section
variable {K : PySem.W.Frag} {W : WX}
theorem Post.ge {α β : Type} {rel : Mu → Hp → α → β → Prop} {σ : L2.St} {mu mu1 : Mu} {H H1 : Hp} {Q : β → Hp → Prop} {r : R α} (g : Ge mu H mu1 H1) (h : Post K W rel σ mu H Q r) : Post K W rel σ mu1 H1 Q r := by
  cases r with
  | ok d s' => exact fun mu' H' v g' m r => h mu' H' v (g.trans g') m r
  | ex C fs ds s' => exact fun mu' H' od g' m x => h mu' H' od (g.trans g') m x
  | bad => exact h
theorem PostS.ge {D : Ends} {mu mu1 : Mu} {H H1 : Hp} {r : RS} (g : Ge mu H mu1 H1) (h : PostS K W D mu H r) : PostS K W D mu1 H1 r := by
  cases r with
  | nx L s => exact fun mu' σ' H' g' => h mu' σ' H' (g.trans g')
  | rt L s => exact fun mu' H' v g' => h mu' H' v (g.trans g')
  | bk L s => exact fun mu' σ' H' g' => h mu' σ' H' (g.trans g')
  | ct L s => exact fun mu' σ' H' g' => h mu' σ' H' (g.trans g')
  | ex C fs ds L s => exact fun mu' σ' H' od g' => h mu' σ' H' od (g.trans g')
  | bad => exact h
/-- one part, then the rest -/
theorem Post.step {α β γ δ : Type} {rel : Mu → Hp → α → β → Prop} {rel2 : Mu → Hp → γ → δ → Prop} {σ : L2.St} {mu : Mu} {H : Hp} {Q : δ → Hp → Prop} {Q1 : β → Hp → Prop} {r : R α} {k : α → S → R γ}
    (h : Post K W rel2 σ mu H Q (r.bind k))
    (hk : ∀ d s' mu' H' v, Ge mu H mu' H' → Sim K mu' s' H' → rel mu' H' d v → Post K W rel2 σ mu' H' Q (k d s') → Q1 v H') : Post K W rel σ mu H Q1 r := by
  cases r with
  | ok d s' => exact fun mu' H' v g m q => hk d s' mu' H' v g m q (Post.ge (r := k d s') g h)
  | ex C fs ds s' => exact h
  | bad => exact h
theorem Post.stepS {α β : Type} {rel : Mu → Hp → α → β → Prop} {σ : L2.St} {L : Lc} {mu : Mu} {H : Hp} {D : Ends} {Q1 : β → Hp → Prop} {r : R α} {k : α → S → RS} (hL : LR K mu H L σ)
    (h : PostS K W D mu H (r.bindS L k))
    (hk : ∀ d s' mu' H' v, Ge mu H mu' H' → Sim K mu' s' H' → rel mu' H' d v → PostS K W D mu' H' (k d s') → Q1 v H') : Post K W rel σ mu H Q1 r := by
  cases r with
  | ok d s' => exact fun mu' H' v g m q => hk d s' mu' H' v g m q (PostS.ge (r := k d s') g h)
  | ex C fs ds s' => exact fun mu' H' od g m x => h mu' σ H' od g m (hL.mono g) x
  | bad => exact h
theorem PE.weak {X : Cx} {e : Expr} {t t' : TE} (h : PE X e t) (w : ∀ σ H Q, t' σ H Q → t σ H Q) : PE X e t' := ⟨fun pins s σ H Q I q => h.run pins s σ H Q I (w σ H Q q)⟩
theorem PT.weak {X : Cx} {e : Expr} {t t' : TT} (h : PT X e t) (w : ∀ σ H Q, t' σ H Q → t σ H Q) : PT X e t' := ⟨fun pins s σ H Q I q => h.run pins s σ H Q I (w σ H Q q)⟩
theorem PA.weak {X : Cx} {e : List Expr} {t t' : TA} (h : PA X e t) (w : ∀ σ H Q, t' σ H Q → t σ H Q) : PA X e t' := ⟨fun pos pins s σ H Q I q => h.run pos pins s σ H Q I (w σ H Q q)⟩
theorem PS.weak {X : Cx} {e : Stmt} {t t' : TS} (h : PS X e t) (w : ∀ D σ H, t' D σ H → t D σ H) : PS X e t' := ⟨fun pins s σ H D I q => h.run pins s σ H D I (w D σ H q)⟩
theorem PSs.weak {X : Cx} {e : List Stmt} {t t' : TS} (h : PSs X e t) (w : ∀ D σ H, t' D σ H → t D σ H) : PSs X e t' := ⟨fun pins s σ H D I q => h.run pins s σ H D I (w D σ H q)⟩
end
end SI

namespace SI
open PySem PySem.Spec PyProof.Rows L2
/-! ### readings of the parts -/
section
variable {X : Cx} {W : WX}

/-! names and constants -/
noncomputable def fVar (i : Nat) : F D := fun L s => match L[i]? with
  | some (some d) => .ok d s
  | _ => .bad
theorem pE_var (i : Nat) {x : Str} {pos : Pos} (hN : X.N[i]? = some x := by rfl) (hv : Vis X.env.scope x := by first | exact Or.inl rfl | exact Or.inr (Or.inl rfl) | exact Or.inr (Or.inr rfl)) (hd : (x == ("__debug__" : Str)) = false := by decide)
    (hcd : (x == ("__classdict__" : Str)) = false := by decide) : PE X (.Name x pos) (tE X.K W (fVar i)) := by
  refine PE.weak (pe_var hN hv hd hcd) fun σ H Q h => ?_
  obtain ⟨mu, s, L, m, l, p⟩ := h
  unfold fVar at p
  cases e : L[i]? with
  | none =>
    rw [e] at p
    exact p.elim
  | some od =>
    cases od with
    | none =>
      rw [e] at p
      exact p.elim
    | some d =>
      rw [e] at p
      obtain ⟨v, e1, r⟩ := l.at_ i d e
      exact ⟨v, e1, p mu H v (Ge.refl _ _) m r⟩
noncomputable def fC (d : D) : F D := fun _ s => .ok d s
theorem weakC {d : D} {v : V} {e : Expr} (h : PE X e (tC v)) (r : ∀ mu H, RelD X.K mu H d v) : PE X e (tE X.K W (fC d)) := by
  refine PE.weak h fun σ H Q h => ?_
  obtain ⟨mu, s, L, m, l, p⟩ := h
  exact p mu H v (Ge.refl _ _) m (r mu H)
theorem pE_int {i j pos} : PE X (.Constant (.int i) j pos) (tE X.K W (fC (.int i))) := weakC pe_int fun _ _ => by simp only [RelD]
theorem pE_bl {b j pos} : PE X (.Constant (.bool b) j pos) (tE X.K W (fC (.bl b))) := weakC pe_bl fun _ _ => by simp only [RelD]
theorem pE_non {j pos} : PE X (.Constant .none j pos) (tE X.K W (fC .non)) := weakC pe_non fun _ _ => by simp only [RelD]
theorem pE_str {x j pos} : PE X (.Constant (.str x) j pos) (tE X.K W (fC (.str x))) := weakC pe_str fun _ _ => by simp only [RelD]
/-- a module's int -/
theorem pE_gint {x : Str} {i : Int} {t : Tok} {pos : Pos} (hm : X.mg x = some (.int i t)) (hg : Gl X x := by rfl) (hd : (x == ("__debug__" : Str)) = false := by decide) : PE X (.Name x pos) (tE X.K W (fC (.int i))) :=
  weakC (pe_glob (v := .int i) hg hm ⟨t, rfl⟩ hd) fun _ _ => by simp only [RelD]
/-- a built-in class -/
theorem pE_ty {x : Str} {n : String} {pos : Pos} (hm : X.mg x = none) (hv : bootBuiltins x = some (.type n)) (hg : Gl X x := by rfl) (hn : x ≠ "__name__" := by decide) (hd : (x == ("__debug__" : Str)) = false := by decide) : PE X (.Name x pos) (tE X.K W (fC (.ty n))) :=
  weakC (pe_bltn (v := .ty n) hg hm hv rfl hn hd) fun _ _ => by simp only [RelD]

/-! ### operators by values -/
noncomputable def fOp (o : S → D → D → Option D) (f g : F D) : F D := fun L s => (f L s).bind fun a s1 => (g L s1).bind fun b s2 => match o s2 a b with
  | some d => .ok d s2
  | none => .bad
noncomputable def OpL (K : PySem.W.Frag) (r : R2) (o : S → D → D → Option D) : Prop :=
  ∀ (mu : Mu) (s : S) (H : Hp) (a b d : D) (x y : V) (Q : VK), Sim K mu s H → RelD K mu H a x → RelD K mu H b y → o s a b = some d →
    (∀ mu' H' v, Ge mu H mu' H' → Sim K mu' s H' → RelD K mu' H' d v → Q v H') → r x y H Q
variable {a b c e : Expr} {f g h : F D} {pos : Pos}
theorem weak_op {r : R2} {o : S → D → D → Option D} (hl : OpL X.K r o) (σ : L2.St) (H : Hp) (Q : VK) (hq : tE X.K W (fOp o f g) σ H Q) : tOp r (tE X.K W f) (tE X.K W g) σ H Q := by
  obtain ⟨mu, s, L, m, l, p⟩ := hq
  refine ⟨mu, s, L, m, l, Post.step p fun d1 s1 mu1 H1 v1 g1 m1 r1 p1 => ?_⟩
  refine ⟨mu1, s1, L, m1, l.mono g1, Post.step p1 fun d2 s2 mu2 H2 v2 g2 m2 r2 p2 => ?_⟩
  cases eo : o s2 d1 d2 with
  | none =>
    rw [eo] at p2
    exact p2.elim
  | some d =>
    rw [eo] at p2
    exact hl mu2 s2 H2 d1 d2 d v1 v2 Q m2 (r1.mono g2) r2 eo fun mu' H' v g' m' r' => p2 mu' H' v g' m' r'
theorem pE_op {op : Operator} {r : R2} {o : S → D → D → Option D} (ho : OpR X (binaryOp op) r) (hl : OpL X.K r o) (ha : PE X a (tE X.K W f)) (hb : PE X b (tE X.K W g)) : PE X (.BinOp a op b pos) (tE X.K W (fOp o f g)) :=
  PE.weak (pe_op ho ha hb) fun σ H Q q => weak_op hl σ H Q q
theorem pE_cmp {op : CmpOp} {r : R2} {o : S → D → D → Option D} (ho : OpR X (compareOp op) r) (hl : OpL X.K r o) (ha : PE X a (tE X.K W f)) (hb : PE X b (tE X.K W g)) (hm : behindInMarks op b = false := by first | exact nomark _ | rfl) :
    PE X (.Compare a [op] [b] pos) (tE X.K W (fOp o f g)) :=
  PE.weak (pe_cmpR ho ha hb hm) fun σ H Q q => weak_op hl σ H Q q
theorem pE_ix {r : R2} {o : S → D → D → Option D} (ho : IxR X r) (hl : OpL X.K r o) (ha : PE X a (tE X.K W f)) (hb : PE X b (tE X.K W g)) (hs : PlainIx b := by exact fun _ _ => rfl) : PE X (.Subscript a b pos) (tE X.K W (fOp o f g)) :=
  PE.weak (pe_ix ho ha hb hs) fun σ H Q q => weak_op hl σ H Q q
theorem OpL.or {r r' : R2} {o o' : S → D → D → Option D} {K : PySem.W.Frag} (h : OpL K r o) (h' : OpL K r' o') : OpL K (fun x y H Q => r x y H Q ∨ r' x y H Q) (fun s a b => (o s a b).or (o' s a b)) := by
  intro mu s H a b d x y Q m ra rb e q
  dsimp only at e
  cases eo : o s a b with
  | some z =>
    rw [eo] at e
    exact .inl (h mu s H a b d x y Q m ra rb (by rw [eo]; exact e) q)
  | none =>
    rw [eo] at e
    exact .inr (h' mu s H a b d x y Q m ra rb e q)

/-! ints -/
noncomputable def dI2 (C : Int → Int → Bool) (g : Int → Int → D) (_ : S) : D → D → Option D
  | .int i, .int j => if C i j = true then some (g i j) else none
  | _, _ => none
noncomputable def yes2 (_ _ : Int) : Bool := true
theorem rel_int {K : PySem.W.Frag} {mu : Mu} {H : Hp} {i : Int} {v : V} : RelD K mu H (.int i) v ↔ v = .int i := by simp only [RelD]
theorem rel_bl {K : PySem.W.Frag} {mu : Mu} {H : Hp} {i : Bool} {v : V} : RelD K mu H (.bl i) v ↔ v = .bl i := by simp only [RelD]
theorem rel_str {K : PySem.W.Frag} {mu : Mu} {H : Hp} {i : Str} {v : V} : RelD K mu H (.str i) v ↔ v = .str i := by simp only [RelD]
theorem rel_non {K : PySem.W.Frag} {mu : Mu} {H : Hp} {v : V} : RelD K mu H .non v ↔ v = .non := by simp only [RelD]
theorem opl_I {K : PySem.W.Frag} {C : Int → Int → Prop} {Cb : Int → Int → Bool} {g : Int → Int → V} {gd : Int → Int → D} (hc : ∀ i j, Cb i j = true → C i j) (hg : ∀ mu H i j, RelD K mu H (gd i j) (g i j)) : OpL K (rI C g) (dI2 Cb gd) := by
  intro mu s H a b d x y Q m ra rb e q
  cases a <;> simp only [dI2] at e <;> try cases e
  cases b <;> simp only [dI2] at e <;> try cases e
  rename_i i j
  split at e
  · rename_i hh
    cases e
    exact ⟨i, j, rel_int.mp ra, rel_int.mp rb, hc i j hh, q mu H _ (Ge.refl _ _) m (hg mu H i j)⟩
  · cases e
theorem opl_I0 {K : PySem.W.Frag} {g : Int → Int → V} {gd : Int → Int → D} (hg : ∀ mu H i j, RelD K mu H (gd i j) (g i j)) : OpL K (rI0 g) (dI2 yes2 gd) := by
  intro mu s H a b d x y Q m ra rb e q
  cases a <;> simp only [dI2] at e <;> try cases e
  cases b <;> simp only [dI2] at e <;> try cases e
  rename_i i j
  exact ⟨i, j, rel_int.mp ra, rel_int.mp rb, q mu H _ (Ge.refl _ _) m (hg mu H i j)⟩
noncomputable def dSub : S → D → D → Option D := dI2 yes2 fun i j => .int (i - j)
noncomputable def mulOk (i j : Int) : Bool := decide (i.natAbs.log2 + j.natAbs.log2 < 100000000)
noncomputable def MulP (i j : Int) : Prop := i.natAbs.log2 + j.natAbs.log2 < 100000000
theorem bits_le_log (x : Int) : Builtin.Int.intBits x ≤ x.natAbs.log2 + 1 := by
  unfold Builtin.Int.intBits
  by_cases h : (x == 0) = true
  · rw [if_pos h]
    exact Nat.zero_le _
  · rw [if_neg h]
    exact Nat.le_refl _
theorem MulP.ok {i j : Int} (h : MulP i j) : IntMulOk i j := fun z => by
  have h1 := bits_le_log i
  have h2 := bits_le_log j
  have h3 : i.natAbs.log2 + j.natAbs.log2 < 100000000 := h
  have z2 := (Bool.and_eq_true_iff.mp z).2
  have z4 : ((Builtin.Int.intBits i + Builtin.Int.intBits j : Nat) : Int) > bitsLine := of_decide_eq_true z2
  have e0 : bitsLine = 134217728 := by decide
  rw [e0] at z4
  omega
theorem op_mulX : OpR X (binaryOp .Mult) (rI MulP fun i j => .int (i * j)) := opI fun i j t u Q s E hc q => mul_int q (MulP.ok hc)
noncomputable def divOk (_ j : Int) : Bool := decide (0 < j ∧ j.natAbs.log2 < 9000)
noncomputable def modOk (_ j : Int) : Bool := decide (0 < j)
noncomputable def dDiv : S → D → D → Option D := dI2 divOk fun i j => .int (i / j)
noncomputable def dMod : S → D → D → Option D := dI2 modOk fun i j => .int (i % j)
noncomputable def dAddI : S → D → D → Option D := dI2 yes2 fun i j => .int (i + j)
noncomputable def dLt : S → D → D → Option D := dI2 yes2 fun i j => .bl (decide (i < j))
noncomputable def dLe : S → D → D → Option D := dI2 yes2 fun i j => .bl (decide (i ≤ j))
noncomputable def dGt : S → D → D → Option D := dI2 yes2 fun i j => .bl (decide (j < i))
noncomputable def dGe : S → D → D → Option D := dI2 yes2 fun i j => .bl (decide (j ≤ i))
noncomputable def powOk (i j : Int) : Bool := decide (0 ≤ j ∧ j ≤ 1000000 ∧ i.natAbs < 2 ^ 64)
noncomputable def dPow : S → D → D → Option D := dI2 powOk fun i j => .int (i ^ j.toNat)
theorem pE_sub (ha : PE X a (tE X.K W f)) (hb : PE X b (tE X.K W g)) : PE X (.BinOp a .Sub b pos) (tE X.K W (fOp dSub f g)) := pE_op op_sub (opl_I0 fun _ _ _ _ => by simp only [RelD]) ha hb
theorem pE_div (ha : PE X a (tE X.K W f)) (hb : PE X b (tE X.K W g)) : PE X (.BinOp a .FloorDiv b pos) (tE X.K W (fOp dDiv f g)) := pE_op op_fdivW (opl_I (Cb := divOk) (fun i j h => by unfold divOk at h; have h2 := of_decide_eq_true h; exact h2) fun _ _ _ _ => by simp only [RelD]) ha hb
theorem pE_mod (ha : PE X a (tE X.K W f)) (hb : PE X b (tE X.K W g)) : PE X (.BinOp a .Mod b pos) (tE X.K W (fOp dMod f g)) := pE_op op_mod (opl_I (fun i j h => of_decide_eq_true h) fun _ _ _ _ => by simp only [RelD]) ha hb
theorem pE_pow (ha : PE X a (tE X.K W f)) (hb : PE X b (tE X.K W g)) : PE X (.BinOp a .Pow b pos) (tE X.K W (fOp dPow f g)) := pE_op op_pow (opl_I (Cb := powOk) (fun i j h => by unfold powOk at h; have h2 := of_decide_eq_true h; exact h2) fun _ _ _ _ => by simp only [RelD]) ha hb
/-- a < b < c -/
noncomputable def fChain (o o' : S → D → D → Option D) (f g h : F D) : F D := fun L s => (f L s).bind fun a s1 => (g L s1).bind fun b s2 => match o s2 a b with
  | some (.bl true) => (h L s2).bind fun c s3 => match o' s3 b c with
    | some d => .ok d s3
    | none => .bad
  | some (.bl false) => .ok (.bl false) s2
  | _ => .bad
theorem pE_chain {op op' : CmpOp} {r r' : R2} {o o' : S → D → D → Option D} {h : F D} (ho : OpR X (compareOp op) r) (ho' : OpR X (compareOp op') r') (hl : OpL X.K r o) (hl' : OpL X.K r' o') (ha : PE X a (tE X.K W f)) (hb : PE X b (tE X.K W g)) (hc : PE X c (tE X.K W h))
    (hx : PE X (.Compare a [op, op'] [b, c] pos) (tChain r r' (tE X.K W f) (tE X.K W g) (tE X.K W h))) : PE X (.Compare a [op, op'] [b, c] pos) (tE X.K W (fChain o o' f g h)) := by
  refine PE.weak hx fun σ H Q hq => ?_
  obtain ⟨mu, s, L, m, l, p⟩ := hq
  refine ⟨mu, s, L, m, l, Post.step p fun d1 s1 mu1 H1 v1 g1 m1 r1 p1 => ?_⟩
  refine ⟨mu1, s1, L, m1, l.mono g1, Post.step p1 fun d2 s2 mu2 H2 v2 g2 m2 r2 p2 => ?_⟩
  cases eo : o s2 d1 d2 with
  | none =>
    rw [eo] at p2
    exact p2.elim
  | some d =>
    rw [eo] at p2
    refine hl mu2 s2 H2 d1 d2 d v1 v2 _ m2 (r1.mono g2) r2 eo fun mu' H' v g' m' r' => ?_
    cases d <;> try exact p2.elim
    rename_i bb
    have ev := rel_bl.mp r'
    refine ⟨bb, ev, ?_⟩
    cases bb with
    | false => exact p2 mu' H' _ g' m' (rel_bl.mpr rfl)
    | true =>
      show tE X.K W h σ H' _
      refine ⟨mu', s2, L, m', ((l.mono g1).mono g2).mono g', Post.step (Post.ge g' p2) fun d3 s3 mu3 H3 v3 g3 m3 r3 p3 => ?_⟩
      cases eo' : o' s3 d2 d3 with
      | none =>
        rw [eo'] at p3
        exact p3.elim
      | some d =>
        rw [eo'] at p3
        exact hl' mu3 s3 H3 d2 d3 d v2 v3 Q m3 ((r2.mono g').mono g3) r3 eo' fun mu4 H4 v4 g4 m4 r4 => p3 mu4 H4 v4 g4 m4 r4
/-! ### truth -/
noncomputable def fNotV (f : F D) : F D := fun L s => (f L s).bind fun a s1 => match a with
  | .bl b => .ok (.bl (!b)) s1
  | _ => .bad
theorem pE_not (ha : PE X a (tE X.K W f)) : PE X (.UnaryOp .Not a pos) (tE X.K W (fNotV f)) := by
  refine PE.weak (pe_not ha) fun σ H Q hq => ?_
  obtain ⟨mu, s, L, m, l, p⟩ := hq
  refine ⟨mu, s, L, m, l, Post.step p fun d1 s1 mu1 H1 v1 g1 m1 r1 p1 => ?_⟩
  cases d1 <;> try exact p1.elim
  rename_i bb
  exact ⟨bb, rel_bl.mp r1, p1 mu1 H1 _ (Ge.refl _ _) m1 (rel_bl.mpr rfl)⟩
noncomputable def fAndV (f g : F D) : F D := fun L s => (f L s).bind fun a s1 => match a with
  | .bl true => g L s1
  | .bl false => .ok (.bl false) s1
  | _ => .bad
noncomputable def fOrV (f g : F D) : F D := fun L s => (f L s).bind fun a s1 => match a with
  | .bl true => .ok (.bl true) s1
  | .bl false => g L s1
  | _ => .bad
theorem pE_one {op} (h : PE X a (tE X.K W f)) : PE X (.BoolOp op [a] pos) (tE X.K W f) := pe_one h
theorem pE_and {rest : List Expr} (ha : PE X a (tE X.K W f)) (hb : PE X (.BoolOp .And (b :: rest) pos) (tE X.K W g)) : PE X (.BoolOp .And (a :: b :: rest) pos) (tE X.K W (fAndV f g)) := by
  refine PE.weak (pe_and ha hb) fun σ H Q hq => ?_
  obtain ⟨mu, s, L, m, l, p⟩ := hq
  refine ⟨mu, s, L, m, l, Post.step p fun d1 s1 mu1 H1 v1 g1 m1 r1 p1 => ?_⟩
  cases d1 <;> try exact p1.elim
  rename_i bb
  refine ⟨bb, rel_bl.mp r1, ?_⟩
  cases bb with
  | true => exact ⟨mu1, s1, L, m1, l.mono g1, p1⟩
  | false => exact p1 mu1 H1 _ (Ge.refl _ _) m1 (rel_bl.mpr rfl)
/-! tests -/
noncomputable def fTst (f : F D) : F Bool := fun L s => (f L s).bind fun a s1 => match a with
  | .bl b => .ok b s1
  | _ => .bad
noncomputable def fNot (t : F Bool) : F Bool := fun L s => (t L s).bind fun b s1 => .ok (!b) s1
noncomputable def fAnd (t u : F Bool) : F Bool := fun L s => (t L s).bind fun b s1 => if b = true then u L s1 else .ok false s1
noncomputable def fOr (t u : F Bool) : F Bool := fun L s => (t L s).bind fun b s1 => if b = true then .ok true s1 else u L s1
noncomputable def fIf (t : F Bool) (f g : F D) : F D := fun L s => (t L s).bind fun b s1 => if b = true then f L s1 else g L s1
variable {t u : F Bool}
theorem pT_val (h : PE X e (tE X.K W f)) (he : ∀ whole, isTrue e X.env whole = (do let v ← whole; standAt e.pos; holding [v] (truthy v)) := by intro _; rfl) : PT X e (tT X.K W (fTst f)) := by
  refine PT.weak (pt_val h he) fun σ H Q hq => ?_
  obtain ⟨mu, s, L, m, l, p⟩ := hq
  refine ⟨mu, s, L, m, l, Post.step p fun d1 s1 mu1 H1 v1 g1 m1 r1 p1 => ?_⟩
  cases d1 <;> try exact p1.elim
  rename_i bb
  exact ⟨bb, rel_bl.mp r1, p1 mu1 H1 _ (Ge.refl _ _) m1 rfl⟩
theorem tT_step {α : Type} {t : F Bool} {L : Lc} {s : S} {mu : Mu} {H : Hp} {σ : L2.St} {k : Bool → S → R α} {β : Type} {rel : Mu → Hp → α → β → Prop} {Q : β → Hp → Prop} {Q1 : Bool → Hp → Prop}
    (p : Post X.K W rel σ mu H Q ((t L s).bind k)) (hk : ∀ b s' mu' H', Ge mu H mu' H' → Sim X.K mu' s' H' → Post X.K W rel σ mu' H' Q (k b s') → Q1 b H') : Post X.K W (fun _ _ (a b : Bool) => a = b) σ mu H Q1 (t L s) :=
  Post.step p fun d s' mu' H' v g m e p' => by
    subst e
    exact hk d s' mu' H' g m p'
theorem pT_not (ha : PT X a (tT X.K W t)) : PT X (.UnaryOp .Not a pos) (tT X.K W (fNot t)) := by
  refine PT.weak (pt_not ha) fun σ H Q hq => ?_
  obtain ⟨mu, s, L, m, l, p⟩ := hq
  exact ⟨mu, s, L, m, l, tT_step p fun b s1 mu1 H1 g1 m1 p1 => p1 mu1 H1 _ (Ge.refl _ _) m1 rfl⟩
theorem PW.weak {X : Cx} {e : Expr} {t t' : TT} (h : PW X e t) (w : ∀ σ H Q, t' σ H Q → t σ H Q) : PW X e t' := ⟨fun wh pins s σ H Q I q => h.run wh pins s σ H Q I (w σ H Q q)⟩
theorem pW_and1 (ha : PT X a (tT X.K W t)) : PW X (.BoolOp .And [a] pos) (tT X.K W t) := pw_and1 ha
theorem pW_or1 (ha : PT X a (tT X.K W t)) : PW X (.BoolOp .Or [a] pos) (tT X.K W t) := pw_or1 ha
theorem pW_and {rest : List Expr} (ha : PT X a (tT X.K W t)) (hb : PW X (.BoolOp .And (b :: rest) pos) (tT X.K W u)) : PW X (.BoolOp .And (a :: b :: rest) pos) (tT X.K W (fAnd t u)) := by
  refine PW.weak (pw_and ha hb) fun σ H Q hq => ?_
  obtain ⟨mu, s, L, m, l, p⟩ := hq
  refine ⟨mu, s, L, m, l, tT_step p fun b s1 mu1 H1 g1 m1 p1 => ?_⟩
  cases b with
  | true => exact ⟨mu1, s1, L, m1, l.mono g1, p1⟩
  | false => exact p1 mu1 H1 _ (Ge.refl _ _) m1 rfl
theorem pW_or {rest : List Expr} (ha : PT X a (tT X.K W t)) (hb : PW X (.BoolOp .Or (b :: rest) pos) (tT X.K W u)) : PW X (.BoolOp .Or (a :: b :: rest) pos) (tT X.K W (fOr t u)) := by
  refine PW.weak (pw_or ha hb) fun σ H Q hq => ?_
  obtain ⟨mu, s, L, m, l, p⟩ := hq
  refine ⟨mu, s, L, m, l, tT_step p fun b s1 mu1 H1 g1 m1 p1 => ?_⟩
  cases b with
  | false => exact ⟨mu1, s1, L, m1, l.mono g1, p1⟩
  | true => exact p1 mu1 H1 _ (Ge.refl _ _) m1 rfl
/-! ### arguments, displays -/
noncomputable def fNil : F (List D) := fun _ s => .ok [] s
noncomputable def fCons (f : F D) (r : F (List D)) : F (List D) := fun L s => (f L s).bind fun a s1 => (r L s1).bind fun as s2 => .ok (a :: as) s2
variable {fa : F (List D)} {es : List Expr}
theorem pA_nil : PA X [] (tA X.K W fNil) := by
  refine PA.weak pa_nil fun σ H Q hq => ?_
  obtain ⟨mu, s, L, m, l, p⟩ := hq
  exact p mu H _ (Ge.refl _ _) m .nil
theorem pA_cons (ha : PE X e (tE X.K W f)) (hr : PA X es (tA X.K W fa)) (hs : starEach (e :: es) X.env = (false, eval e X.env) :: starEach es X.env := by rfl) : PA X (e :: es) (tA X.K W (fCons f fa)) := by
  refine PA.weak (pa_cons ha hr hs) fun σ H Q hq => ?_
  obtain ⟨mu, s, L, m, l, p⟩ := hq
  refine ⟨mu, s, L, m, l, Post.step p fun d1 s1 mu1 H1 v1 g1 m1 r1 p1 => ?_⟩
  refine ⟨mu1, s1, L, m1, l.mono g1, Post.step p1 fun d2 s2 mu2 H2 v2 g2 m2 r2 p2 => ?_⟩
  exact p2 mu2 H2 _ (Ge.refl _ _) m2 (.cons (r1.mono g2) r2)
noncomputable def big : Nat := 1000000
theorem big_le {n : Nat} (h : n ≤ big) : n ≤ sizeLine := by
  rw [sizeLine_eq]
  unfold big at h
  omega
/-- a tuple; a list that is never changed; a list that is tracked -/
noncomputable def fTup (fa : F (List D)) : F D := fun L s => (fa L s).bind fun ds s1 => if ds.length ≤ big then .ok (.tup ds) s1 else .bad
noncomputable def fLst (fa : F (List D)) : F D := fun L s => (fa L s).bind fun ds s1 => if ds.length ≤ big then .ok (.lst ds) s1 else .bad
noncomputable def fLstT (fa : F (List D)) : F D := fun L s => (fa L s).bind fun ds s1 => if ds.length ≤ big then .ok (.ref s1.length) (s1 ++ [.lst ds]) else .bad
theorem rel_tup {K : PySem.W.Frag} {mu : Mu} {s : S} {H : Hp} {p : Addr} {ds : List D} {vs : List V} (m : Sim K mu s H) (hp : H p = none) (r : RelDs K mu H ds vs) : RelD K mu (upd H p (.tup vs)) (.tup ds) (.ref p) := by
  simp only [RelD]
  exact ⟨p, vs, rfl, .inr ⟨upd_same, m.fresh hp⟩, r.mono (Ge.pure m hp)⟩
theorem rel_lst {K : PySem.W.Frag} {mu : Mu} {s : S} {H : Hp} {p : Addr} {ds : List D} {vs : List V} (m : Sim K mu s H) (hp : H p = none) (r : RelDs K mu H ds vs) : RelD K mu (upd H p (.lst vs)) (.lst ds) (.ref p) := by
  simp only [RelD]
  exact ⟨p, vs, rfl, ⟨upd_same, m.fresh hp⟩, r.mono (Ge.pure m hp)⟩
theorem pE_tup {x1} (h : PA X es (tA X.K W fa)) : PE X (.Tuple es x1 pos) (tE X.K W (fTup fa)) := by
  refine PE.weak (pe_tup h) fun σ H Q hq => ?_
  obtain ⟨mu, s, L, m, l, p⟩ := hq
  refine ⟨mu, s, L, m, l, Post.step p fun d1 s1 mu1 H1 v1 g1 m1 r1 p1 => ?_⟩
  split at p1
  · rename_i hb
    exact ⟨by rw [← r1.length]; exact big_le hb, fun q hq => p1 mu1 _ _ (Ge.pure m1 hq) (m1.pure hq) (rel_tup m1 hq r1)⟩
  · exact p1.elim
theorem pE_lst (h : PA X es (tA X.K W fa)) : PE X (.List es pos) (tE X.K W (fLst fa)) := by
  refine PE.weak (pe_lst h) fun σ H Q hq => ?_
  obtain ⟨mu, s, L, m, l, p⟩ := hq
  refine ⟨mu, s, L, m, l, Post.step p fun d1 s1 mu1 H1 v1 g1 m1 r1 p1 => ?_⟩
  split at p1
  · rename_i hb
    exact ⟨by rw [← r1.length]; exact big_le hb, fun q hq => p1 mu1 _ _ (Ge.pure m1 hq) (m1.pure hq) (rel_lst m1 hq r1)⟩
  · exact p1.elim
theorem rel_ref_last {K : PySem.W.Frag} {mu : Mu} {s : S} {H H' : Hp} {p : Addr} (m : Sim K mu s H) : RelD K (mu ++ [some p]) H' (.ref s.length) (.ref p) := by
  simp only [RelD]
  exact ⟨p, by rw [← m.len, List.getElem?_append_right (Nat.le_refl _), Nat.sub_self]; rfl, rfl⟩
theorem pE_lstT (h : PA X es (tA X.K W fa)) : PE X (.List es pos) (tE X.K W (fLstT fa)) := by
  refine PE.weak (pe_lst h) fun σ H Q hq => ?_
  obtain ⟨mu, s, L, m, l, p⟩ := hq
  refine ⟨mu, s, L, m, l, Post.step p fun d1 s1 mu1 H1 v1 g1 m1 r1 p1 => ?_⟩
  split at p1
  · rename_i hb
    exact ⟨by rw [← r1.length]; exact big_le hb, fun q hq => p1 _ _ _ (Ge.track m1 hq) (m1.track hq ⟨v1, upd_same, r1.mono (Ge.track m1 hq)⟩) (rel_ref_last m1)⟩
  · exact p1.elim
/-! ### calls of built-ins by values -/
noncomputable def fCB (o : S → List D → Option D) (fa : F (List D)) : F D := fun L s => (fa L s).bind fun ds s1 => match o s1 ds with
  | some d => .ok d s1
  | none => .bad
noncomputable def CbL (K : PySem.W.Frag) (r : List V → Hp → VK → Prop) (o : S → List D → Option D) : Prop :=
  ∀ (mu : Mu) (s : S) (H : Hp) (ds : List D) (d : D) (vs : List V) (Q : VK), Sim K mu s H → RelDs K mu H ds vs → o s ds = some d →
    (∀ mu' H' v, Ge mu H mu' H' → Sim K mu' s H' → RelD K mu' H' d v → Q v H') → r vs H Q
theorem weak_cb {r : List V → Hp → VK → Prop} {o : S → List D → Option D} (hl : CbL X.K r o) (σ : L2.St) (H : Hp) (Q : VK) (hq : tE X.K W (fCB o fa) σ H Q) : tCB r (tA X.K W fa) σ H Q := by
  obtain ⟨mu, s, L, m, l, p⟩ := hq
  refine ⟨mu, s, L, m, l, Post.step p fun d1 s1 mu1 H1 v1 g1 m1 r1 p1 => ?_⟩
  cases eo : o s1 d1 with
  | none =>
    rw [eo] at p1
    exact p1.elim
  | some d =>
    rw [eo] at p1
    exact hl mu1 s1 H1 d1 d v1 Q m1 r1 eo fun mu' H' v g' m' r' => p1 mu' H' v g' m' r'
theorem pE_cb {id : String} {x : Str} {p : Pos} {r : List V → Hp → VK → Prop} {o : S → List D → Option D} (hc : CallR X (.builtin id) r) (hl : CbL X.K r o) (hm : X.mg x = none) (hv : bootBuiltins x = some (.builtin id)) (ha : PA X (e :: es) (tA X.K W fa)) (hg : Gl X x := by rfl)
    (hn : x ≠ "__name__" := by decide) (hdb : (x == ("__debug__" : Str)) = false := by decide)
    (he : starEach (e :: es) X.env = (false, eval e X.env) :: starEach es X.env := by rfl) (hpl : (backTo pos (starEach es X.env)).any (·.1) = false := by rfl) : PE X (.Call (.Name x p) (e :: es) [] pos) (tE X.K W (fCB o fa)) :=
  PE.weak (pe_callB hc hg hm hv ha hn hdb he hpl) fun σ H Q q => weak_cb hl σ H Q q
theorem pE_cty {T : String} {x : Str} {p : Pos} {r : List V → Hp → VK → Prop} {o : S → List D → Option D} (hc : CallR X (.type T) r) (hl : CbL X.K r o) (hm : X.mg x = none) (hv : bootBuiltins x = some (.type T)) (ha : PA X (e :: es) (tA X.K W fa)) (hg : Gl X x := by rfl)
    (hn : x ≠ "__name__" := by decide) (hdb : (x == ("__debug__" : Str)) = false := by decide)
    (he : starEach (e :: es) X.env = (false, eval e X.env) :: starEach es X.env := by rfl) (hpl : (backTo pos (starEach es X.env)).any (·.1) = false := by rfl) : PE X (.Call (.Name x p) (e :: es) [] pos) (tE X.K W (fCB o fa)) :=
  PE.weak (pe_callTy hc hg hm hv ha hn hdb he hpl) fun σ H Q q => weak_cb hl σ H Q q
end
end SI

namespace SI
open PySem PySem.Spec PyProof.Rows L2
section
variable {X : Cx} {W : WX} {a b c e : Expr} {f g h : F D} {t : F Bool} {fa : F (List D)} {es : List Expr} {pos : Pos} {st : Stmt} {sts : List Stmt} {u v : FS}
/-! ### statements -/
noncomputable def sBad : FS := fun _ _ => .bad
noncomputable def sNext : FS := fun L s => .nx L s
noncomputable def sSeq (u v : FS) : FS := fun L s => (u L s).bind v
noncomputable def sAsg (i : Nat) (f : F D) : FS := fun L s => (f L s).bindS L fun d s1 => .nx (L.set i (some d)) s1
noncomputable def sExpr (f : F D) : FS := fun L s => (f L s).bindS L fun _ s1 => .nx L s1
noncomputable def sRet (f : F D) : FS := fun L s => (f L s).bindS L fun d s1 => .rt d s1
noncomputable def sRetN : FS := fun _ s => .rt .non s
noncomputable def sIf (t : F Bool) (u v : FS) : FS := fun L s => (t L s).bindS L fun b s1 => if b = true then u L s1 else v L s1
noncomputable def sBreak : FS := fun L s => .bk L s
noncomputable def sCont : FS := fun L s => .ct L s
theorem pSs_bad : PSs X sts (tS X.K W sBad) := ⟨fun _ _ _ _ _ _ ⟨_, _, _, _, _, p⟩ => p.elim⟩
theorem pSs_nil : PSs X [] (tS X.K W sNext) := PSs.weak pss_nil fun D σ H ⟨mu, s, L, m, l, p⟩ => p mu σ H (Ge.refl _ _) m l
theorem pSs_cons (h1 : PS X st (tS X.K W u)) (h2 : PSs X sts (tS X.K W v)) : PSs X (st :: sts) (tS X.K W (sSeq u v)) := by
  refine PSs.weak (pss_cons h1 h2) fun D σ H ⟨mu, s, L, m, l, p⟩ => ⟨mu, s, L, m, l, ?_⟩
  unfold sSeq at p
  cases e : u L s with
  | nx L' s' =>
    rw [e] at p
    exact fun mu' σ' H' g' m' l' => ⟨mu', s', L', m', l', PostS.ge (r := v L' s') g' p⟩
  | rt d s' => rw [e] at p; exact p
  | bk d s' => rw [e] at p; exact p
  | ct d s' => rw [e] at p; exact p
  | ex C fs ds L' s' => rw [e] at p; exact p
  | bad => rw [e] at p; exact p.elim
theorem pSs_one (h1 : PS X st (tS X.K W u)) : PSs X [st] (tS X.K W u) := pss_one h1
theorem pS_set {i : Nat} {x : Str} {pos' : Pos} (hN : X.N.Nodup) (he : PE X e (tE X.K W f)) (hi : X.N[i]? = some x := by rfl) (hx : Loc X.env.scope x := by first | exact Or.inl rfl | exact Or.inr rfl)
    (hs : swapsWith e (some (.Name x pos')) pos.line X.env = pure false := by rfl) (hf : X.fn x = true ∨ X.env.scope.names.lookup x = some .local := by first | exact .inl rfl | exact .inr rfl | assumption) :
    PS X (.Assign [.Name x pos'] e pos) (tS X.K W (sAsg i f)) := by
  refine PS.weak (ps_set hN hi hx he hs hf) fun D σ H ⟨mu, s, L, m, l, p⟩ => ⟨mu, s, L, m, l, ?_⟩
  exact Post.stepS l p fun d s1 mu1 H1 v1 g1 m1 r1 p1 => p1 mu1 _ H1 (Ge.refl _ _) m1 ((l.mono g1).set i r1)
theorem pS_expr (he : PE X e (tE X.K W f)) (hs : swapsWith e none pos.line X.env = pure false := by rfl) : PS X (.Expr e pos) (tS X.K W (sExpr f)) := by
  refine PS.weak (ps_expr he hs) fun D σ H ⟨mu, s, L, m, l, p⟩ => ⟨mu, s, L, m, l, ?_⟩
  exact Post.stepS l p fun d s1 mu1 H1 v1 g1 m1 r1 p1 => p1 mu1 _ H1 (Ge.refl _ _) m1 (l.mono g1)
theorem pS_ret (he : PE X e (tE X.K W f)) : PS X (.Return (some e) pos) (tS X.K W (sRet f)) := by
  refine PS.weak (ps_ret he) fun D σ H ⟨mu, s, L, m, l, p⟩ => ⟨mu, s, L, m, l, ?_⟩
  exact Post.stepS l p fun d s1 mu1 H1 v1 g1 m1 r1 p1 => p1 mu1 H1 _ (Ge.refl _ _) m1 r1
theorem pS_if {c : Expr} {as bs : List Stmt} (hc : PT X c (tT X.K W t)) (ha : PSs X as (tS X.K W u)) (hb : PSs X bs (tS X.K W v)) : PS X (.If c as bs pos) (tS X.K W (sIf t u v)) := by
  refine PS.weak (ps_if hc ha hb) fun D σ H ⟨mu, s, L, m, l, p⟩ => ⟨mu, s, L, m, l, ?_⟩
  refine Post.stepS l p fun d s1 mu1 H1 v1 g1 m1 r1 p1 => ?_
  subst r1
  cases d with
  | true => exact ⟨mu1, s1, L, m1, l.mono g1, p1⟩
  | false => exact ⟨mu1, s1, L, m1, l.mono g1, p1⟩
/-! ### targets -/
noncomputable abbrev Tg := D → Lc → Option Lc
noncomputable def tG (K : PySem.W.Frag) (q : Tg) : TG := fun v σ H Q => ∃ mu s L d L', Sim K mu s H ∧ LR K mu H L σ ∧ RelD K mu H d v ∧ q d L = some L' ∧ ∀ σ', LR K mu H L' σ' → Q σ' H
noncomputable abbrev Tgs := List D → Lc → Option Lc
noncomputable def tGs (K : PySem.W.Frag) (q : Tgs) : TGs := fun vs σ H Q => ∃ mu s L ds L', Sim K mu s H ∧ LR K mu H L σ ∧ RelDs K mu H ds vs ∧ q ds L = some L' ∧ ∀ σ', LR K mu H L' σ' → Q σ' H
theorem PG.weak {X : Cx} {e : Expr} {t t' : TG} (h : PG X e t) (w : ∀ v σ H Q, t' v σ H Q → t v σ H Q) : PG X e t' := ⟨fun pins s σ H x u Q I r q => h.run pins s σ H x u Q I r (w _ _ _ _ q)⟩
theorem PGs.weak {X : Cx} {e : List Expr} {t t' : TGs} (h : PGs X e t) (w : ∀ v σ H Q, t' v σ H Q → t v σ H Q) : PGs X e t' := ⟨fun pins s σ H x u Q I r q => h.run pins s σ H x u Q I r (w _ _ _ _ q)⟩
noncomputable def gN (i : Nat) : Tg := fun d L => some (L.set i (some d))
noncomputable def gNl : Tgs := fun ds L => match ds with
  | [] => some L
  | _ => none
noncomputable def gCn (q : Tg) (r : Tgs) : Tgs := fun ds L => match ds with
  | d :: ds => (q d L).bind (r ds)
  | [] => none
noncomputable def gTp (r : Tgs) : Tg := fun d L => match d with
  | .tup ds => r ds L
  | _ => none
theorem pG_name {i : Nat} {x : Str} (hN : X.N.Nodup) (hi : X.N[i]? = some x := by rfl) (hx : Loc X.env.scope x := by first | exact Or.inl rfl | exact Or.inr rfl) (hf : X.fn x = true ∨ X.env.scope.names.lookup x = some .local := by first | exact .inl rfl | exact .inr rfl | assumption) : PG X (.Name x pos) (tG X.K (gN i)) := by
  refine PG.weak (pg_name hN hi hx hf) fun v σ H Q ⟨mu, s, L, d, L', m, l, r, e, q⟩ => ?_
  cases e
  exact q _ (l.set i r)
theorem pGs_nil : PGs X [] (tGs X.K gNl) := by
  refine PGs.weak pgs_nil fun v σ H Q ⟨mu, s, L, ds, L', m, l, r, e, q⟩ => ?_
  cases ds with
  | nil =>
    cases e
    simp only [RelDs] at r
    exact ⟨r, q _ l⟩
  | cons d ds => cases e
theorem pGs_cons {e : Expr} {es : List Expr} {q : Tg} {r : Tgs} (h1 : PG X e (tG X.K q)) (h2 : PGs X es (tGs X.K r)) (h3 : PGs X (e :: es) (gCons (tG X.K q) (tGs X.K r))) : PGs X (e :: es) (tGs X.K (gCn q r)) := by
  refine PGs.weak h3 fun v σ H Q ⟨mu, s, L, ds, L', m, l, rr, e, k⟩ => ?_
  cases ds with
  | nil => cases e
  | cons d ds =>
    simp only [RelDs] at rr
    obtain ⟨v1, vs, rfl, r1, r2⟩ := rr
    simp only [gCn] at e
    cases e1 : q d L with
    | none =>
      rw [e1] at e
      cases e
    | some L1 =>
      rw [e1] at e
      exact ⟨v1, vs, rfl, mu, s, L, d, L1, m, l, r1, e1, fun σ' l' => ⟨mu, s, L1, ds, L', m, l', r2, e, k⟩⟩
theorem sq_tup {K : PySem.W.Frag} {mu : Mu} {H : Hp} {ds : List D} {v : V} (h : RelD K mu H (.tup ds) v) : ∃ a vs, v = .ref a ∧ SqT K H a vs ∧ RelDs K mu H ds vs := by
  simp only [RelD] at h
  obtain ⟨a, vs, e, r, t⟩ := h
  refine ⟨a, vs, e, ?_, t⟩
  rcases r with r | r
  · exact .inr r
  · exact .inl (.inl r.1)
theorem sq_lst {K : PySem.W.Frag} {mu : Mu} {H : Hp} {ds : List D} {v : V} (h : RelD K mu H (.lst ds) v) : ∃ a vs, v = .ref a ∧ SqL K H a vs ∧ RelDs K mu H ds vs := by
  simp only [RelD] at h
  obtain ⟨a, vs, e, r, t⟩ := h
  exact ⟨a, vs, e, .of r.1, t⟩
theorem sq_rdl {K : PySem.W.Frag} {mu : Mu} {H : Hp} {ds : List D} {v : V} (h : RelD K mu H (.rdl ds) v) : ∃ a vs, v = .ref a ∧ SqL K H a vs ∧ RelDs K mu H ds vs := by
  simp only [RelD] at h
  obtain ⟨a, vs, e, r, t⟩ := h
  refine ⟨a, vs, e, ?_, t⟩
  rcases r with r | r
  · exact .inr r
  · exact .inl r.1
theorem sq_ref {K : PySem.W.Frag} {mu : Mu} {s : S} {H : Hp} {n : Nat} {ds : List D} {v : V} (m : Sim K mu s H) (h : RelD K mu H (.ref n) v) (e : s[n]? = some (.lst ds)) : ∃ a vs, v = .ref a ∧ mu[n]? = some (some a) ∧ H a = some (.lst vs) ∧ RelDs K mu H ds vs := by
  simp only [RelD] at h
  obtain ⟨a, ea, ev⟩ := h
  rcases m.obj n _ e with z | ⟨b, eb, r⟩
  · cases z
  · rw [ea] at eb
    cases eb
    obtain ⟨vs, h1, h2⟩ := r
    exact ⟨a, vs, ev, ea, h1, h2⟩
theorem pG_tup {es : List Expr} {k : Nat} {r : Tgs} {n : Nat} (h2 : PG X (.Tuple es k pos) (gTup X.K n (tGs X.K r))) (hn : ∀ ds L L', r ds L = some L' → ds.length = n) : PG X (.Tuple es k pos) (tG X.K (gTp r)) := by
  refine PG.weak h2 fun v σ H Q ⟨mu, s, L, d, L', m, l, rr, e, q⟩ => ?_
  cases d <;> simp only [gTp] at e <;> try cases e
  rename_i ds
  obtain ⟨a, vs, ev, sq, rs⟩ := sq_tup rr
  exact ⟨a, vs, ev, sq, by rw [← rs.length]; exact hn ds L L' e, mu, s, L, ds, L', m, l, rs, e, q⟩
theorem gNl_len {ds : List D} {L L' : Lc} (h : gNl ds L = some L') : ds.length = 0 := by
  cases ds with
  | nil => rfl
  | cons d ds => cases h
theorem gCn_len {q : Tg} {r : Tgs} {n : Nat} (hr : ∀ ds L L', r ds L = some L' → ds.length = n) : ∀ ds L L', gCn q r ds L = some L' → ds.length = n + 1 := fun ds L L' h => by
  cases ds with
  | nil => cases h
  | cons d ds =>
    simp only [gCn] at h
    cases e : q d L with
    | none =>
      rw [e] at h
      cases h
    | some L1 =>
      rw [e] at h
      rw [List.length_cons, hr ds L1 L' h]
/-- target = value -/
noncomputable def sAsgG (q : Tg) (f : F D) : FS := fun L s => (f L s).bindS L fun d s1 => match q d L with
  | some L' => .nx L' s1
  | none => .bad
theorem pS_asg {tg e : Expr} {q : Tg} (he : PE X e (tE X.K W f)) (hg : PG X tg (tG X.K q)) (hx : PS X (.Assign [tg] e pos) (tAsg (tE X.K W f) (tG X.K q))) : PS X (.Assign [tg] e pos) (tS X.K W (sAsgG q f)) := by
  refine PS.weak hx fun D σ H ⟨mu, s, L, m, l, p⟩ => ⟨mu, s, L, m, l, ?_⟩
  refine Post.stepS l p fun d s1 mu1 H1 v1 g1 m1 r1 p1 => ?_
  cases eq : q d L with
  | none =>
    rw [eq] at p1
    exact p1.elim
  | some L' =>
    rw [eq] at p1
    exact ⟨mu1, s1, L, d, L', m1, l.mono g1, r1, eq, fun σ' l' => p1 mu1 σ' H1 (Ge.refl _ _) m1 l'⟩
/-! ### loops -/
/-- what is walked: its items, and which tracked list they are of -/
structure Src where
  items : List D
  on : Option (Nat × List D)
noncomputable def chk (r : Src) (s : S) : Bool := match r.on with
  | none => true
  | some (n, xs) => decide (s[n]? = some (.lst xs))
/-- an iterator gives these items -/
noncomputable def ItR (K : PySem.W.Frag) (mu : Mu) (H : Hp) (J : It) (r : Src) : Prop :=
  ∀ mu' s' H', Ge mu H mu' H' → Sim K mu' s' H' → chk r s' = true → ∀ i : Nat,
    (∀ d, r.items[i]? = some d → J.go i H' ∧ ∀ x H2, J.yld i H' x H2 → Ge mu' H' mu' H2 ∧ Sim K mu' s' H2 ∧ RelD K mu' H2 d x) ∧ (r.items[i]? = none → J.stop i H')
noncomputable def tI (K : PySem.W.Frag) (W : WX) (f : F Src) : TI := fun σ H R => ∃ mu s L, Sim K mu s H ∧ LR K mu H L σ ∧ Post K W (fun mu' H' (r : Src) (J : It) => ItR K mu' H' J r) σ mu H R (f L s)
noncomputable def forL (q : Tg) (body : FS) (r : Src) : List D → Lc → S → RS
  | [], L, s => if chk r s = true then .nx L s else .bad
  | d :: ds, L, s => if chk r s = true then (match q d L with
    | none => .bad
    | some L1 => match body L1 s with
      | .nx L2 s2 => forL q body r ds L2 s2
      | .ct L2 s2 => forL q body r ds L2 s2
      | .bk L2 s2 => .nx L2 s2
      | x => x) else .bad
noncomputable def sFor (f : F Src) (q : Tg) (body : FS) : FS := fun L s => (f L s).bindS L fun r s1 => forL q body r r.items L s1
theorem pS_for {tg iter : Expr} {body : List Stmt} {fi : F Src} {q : Tg} {ub : FS} (hp : PassesOwn (model X.prog X.w) X.A X.env X.xe) (hc : X.calm = true) (hi : PI X tg iter (tI X.K W fi)) (hg : PG X tg (tG X.K q)) (hb : PSs X body (tS X.K W ub))
    (hs : ∀ x, foldedSetIterable iter X.env x = pure x := by intro _; rfl) : PS X (.For tg iter body [] pos) (tS X.K W (sFor fi q ub)) := by
  refine PS.weak (ps_for hp hc hi hg hb hs) fun D σ H ⟨mu, s, L, m, l, p⟩ => ⟨mu, s, L, m, l, ?_⟩
  refine Post.stepS l p fun r s1 mu1 H1 J g1 m1 ir p1 => ?_
  refine ⟨fun i n σ' H' => n = r.items.length - i ∧ i ≤ r.items.length ∧ ∃ mu' s' L', Ge mu1 H1 mu' H' ∧ Sim X.K mu' s' H' ∧ LR X.K mu' H' L' σ' ∧ PostS X.K W D mu' H' (forL q ub r (r.items.drop i) L' s'),
    ⟨_, rfl, Nat.zero_le _, mu1, s1, L, Ge.refl _ _, m1, l.mono g1, p1⟩, ?_⟩
  rintro i n σ' H' ⟨rfl, hi', mu', s', L', g', m', l', p'⟩
  by_cases hlt : i < r.items.length
  · have hd : r.items.drop i = r.items[i] :: r.items.drop (i + 1) := List.drop_eq_getElem_cons hlt
    rw [hd] at p'
    unfold forL at p'
    by_cases hk : chk r s' = true
    · rw [if_pos hk] at p'
      have hir := (ir mu' s' H' g' m' hk i).1 _ (List.getElem?_eq_getElem hlt)
      refine .inr ⟨hir.1, fun σ2 H2 => ∃ mu2 s2 L2, Ge mu1 H1 mu2 H2 ∧ Sim X.K mu2 s2 H2 ∧ LR X.K mu2 H2 L2 σ2 ∧ PostS X.K W D mu2 H2 (forL q ub r (r.items.drop (i + 1)) L2 s2), fun σ2 H2 n2 => ⟨_, ?_, rfl, hlt, n2⟩, fun x H2 hy => ?_⟩
      · omega
      · obtain ⟨g2, m2, r2⟩ := hir.2 x H2 hy
        cases eq : q r.items[i] L' with
        | none =>
          rw [eq] at p'
          exact p'.elim
        | some L1 =>
          rw [eq] at p'
          refine ⟨mu', s', L', _, L1, m2, l'.mono g2, r2, eq, fun σ3 l3 => ⟨mu', s', L1, m2, l3, ?_⟩⟩
          dsimp only at p'
          cases eb : ub L1 s' with
          | nx L2 s2 =>
            rw [eb] at p'
            exact fun mu4 σ4 H4 g4 m4 l4 => ⟨mu4, s2, L2, (g'.trans g2).trans g4, m4, l4, PostS.ge (g2.trans g4) p'⟩
          | ct L2 s2 =>
            rw [eb] at p'
            exact fun mu4 σ4 H4 g4 m4 l4 => ⟨mu4, s2, L2, (g'.trans g2).trans g4, m4, l4, PostS.ge (g2.trans g4) p'⟩
          | bk L2 s2 =>
            rw [eb] at p'
            exact fun mu4 σ4 H4 g4 m4 l4 => p' mu4 σ4 H4 (g2.trans g4) m4 l4
          | rt d s2 =>
            rw [eb] at p'
            exact fun mu4 H4 v4 g4 m4 r4 => p' mu4 H4 v4 (g2.trans g4) m4 r4
          | ex C fs ds L2 s2 =>
            rw [eb] at p'
            exact fun mu4 σ4 H4 od g4 m4 l4 x4 => p' mu4 σ4 H4 od (g2.trans g4) m4 l4 x4
          | bad =>
            rw [eb] at p'
            exact p'.elim
    · rw [if_neg hk] at p'
      exact p'.elim
  · have hd : r.items.drop i = [] := List.drop_eq_nil_of_le (by omega)
    rw [hd] at p'
    unfold forL at p'
    by_cases hk : chk r s' = true
    · rw [if_pos hk] at p'
      exact .inl ⟨(ir mu' s' H' g' m' hk i).2 (List.getElem?_eq_none (by omega)), p' mu' σ' H' (Ge.refl _ _) m' l'⟩
    · rw [if_neg hk] at p'
      exact p'.elim
/-! what is walked -/
noncomputable def iSeq (s : S) : D → Option Src
  | .lst xs => some ⟨xs, none⟩
  | .rdl xs => some ⟨xs, none⟩
  | .tup xs => some ⟨xs, none⟩
  | .ref n => match s[n]? with
    | some (.lst xs) => some ⟨xs, some (n, xs)⟩
    | _ => none
  | _ => none
noncomputable def fSrc (f : F D) : F Src := fun L s => (f L s).bind fun d s1 => match iSeq s1 d with
  | some r => .ok r s1
  | none => .bad
theorem PI.weak {X : Cx} {tg e : Expr} {t t' : TI} (h : PI X tg e t) (w : ∀ σ H R, t' σ H R → t σ H R) : PI X tg e t' := ⟨fun pins s σ H R I q => h.run pins s σ H R I (w _ _ _ q)⟩
theorem PI.or {X : Cx} {tg e : Expr} {t t' : TI} (h : PI X tg e t) (h' : PI X tg e t') : PI X tg e (fun σ H R => t σ H R ∨ t' σ H R) := ⟨fun pins s σ H R I q => q.elim (h.run pins s σ H R I) (h'.run pins s σ H R I)⟩
theorem itr_lst {K : PySem.W.Frag} {mu : Mu} {H : Hp} {ds : List D} {a : Addr} {vs : List V} (h : KLst K a vs ∨ FixR mu H a (.lst vs)) (rs : RelDs K mu H ds vs) : ItR K mu H (Itl K a) ⟨ds, none⟩ := by
  intro mu' s' H' g m _ i
  have sq : SqL K H' a vs := h.elim .inr fun z => .inl (g.fixR z).1
  have rs' := rs.mono g
  refine ⟨fun d e => ?_, fun e => ?_⟩
  · obtain ⟨v, ev, rv⟩ := rs'.get e
    refine ⟨⟨vs, v, sq, ev⟩, fun x H2 hy => ?_⟩
    obtain ⟨e2, hx⟩ := hy
    subst e2
    have := hx vs sq
    rw [ev] at this
    cases this
    exact ⟨Ge.refl _ _, m, rv⟩
  · refine ⟨vs, sq, ?_⟩
    have hl := rs'.length
    have := List.getElem?_eq_none_iff.mp e
    have e2 : ds.length ≤ i := this
    omega
theorem itr_tup {K : PySem.W.Frag} {mu : Mu} {H : Hp} {ds : List D} {a : Addr} {vs : List V} (h : KTup K a vs ∨ Fix mu H a (.tup vs)) (rs : RelDs K mu H ds vs) : ItR K mu H (Itt K a) ⟨ds, none⟩ := by
  intro mu' s' H' g m _ i
  have sq : SqT K H' a vs := h.elim .inr fun z => .inl (.inl (g.fix z).1)
  have rs' := rs.mono g
  refine ⟨fun d e => ?_, fun e => ?_⟩
  · obtain ⟨v, ev, rv⟩ := rs'.get e
    refine ⟨⟨vs, v, sq, ev⟩, fun x H2 hy => ?_⟩
    obtain ⟨e2, hx⟩ := hy
    subst e2
    have := hx vs sq
    rw [ev] at this
    cases this
    exact ⟨Ge.refl _ _, m, rv⟩
  · refine ⟨vs, sq, ?_⟩
    have hl := rs'.length
    have := List.getElem?_eq_none_iff.mp e
    have e2 : ds.length ≤ i := this
    omega
theorem itr_ref {K : PySem.W.Frag} {mu : Mu} {H : Hp} {ds : List D} {a : Addr} {n : Nat} (ha : mu[n]? = some (some a)) : ItR K mu H (Itl K a) ⟨ds, some (n, ds)⟩ := by
  intro mu' s' H' g m hk i
  have e : s'[n]? = some (.lst ds) := by
    simpa [chk] using hk
  have ha' := g.rf n a ha
  obtain ⟨b, vs, e1, e2, e3, rs'⟩ := sq_ref (v := .ref a) m (by simp only [RelD]; exact ⟨a, ha', rfl⟩) e
  cases e1
  have sq : SqL K H' a vs := .of e3
  refine ⟨fun d e => ?_, fun e => ?_⟩
  · obtain ⟨v, ev, rv⟩ := rs'.get e
    refine ⟨⟨vs, v, sq, ev⟩, fun x H2 hy => ?_⟩
    obtain ⟨e2, hx⟩ := hy
    subst e2
    have := hx vs sq
    rw [ev] at this
    cases this
    exact ⟨Ge.refl _ _, m, rv⟩
  · refine ⟨vs, sq, ?_⟩
    have hl := rs'.length
    have := List.getElem?_eq_none_iff.mp e
    have e2 : ds.length ≤ i := this
    omega
theorem pI_seq {tg l : Expr} (hl : PE X l (tE X.K W f)) : PI X tg l (tI X.K W (fSrc f)) := by
  refine PI.weak (PI.or (pi_list hl) (pi_tup hl)) fun σ H Rr ⟨mu, s, L, m, l, p⟩ => ?_
  unfold fSrc at p
  cases e : f L s with
  | bad =>
    rw [e] at p
    exact p.elim
  | ex C fs ds s' =>
    rw [e] at p
    exact .inl ⟨mu, s, L, m, l, by rw [e]; exact p⟩
  | ok d s1 =>
    rw [e] at p
    simp only [R.bind] at p
    cases d <;> simp only [iSeq] at p <;> try exact p.elim
    · rename_i n
      cases en : s1[n]? with
      | none =>
        rw [en] at p
        exact p.elim
      | some o =>
        rw [en] at p
        cases o <;> try exact p.elim
        rename_i ds
        refine .inl ⟨mu, s, L, m, l, ?_⟩
        rw [e]
        intro mu' H' v g' m' r'
        obtain ⟨a, vs, ev, ea, eh, rs⟩ := sq_ref m' r' en
        exact ⟨a, ev, ⟨vs, .of eh⟩, p mu' H' _ g' m' (itr_ref ea)⟩
    · rename_i ds
      refine .inr ⟨mu, s, L, m, l, ?_⟩
      rw [e]
      intro mu' H' v g' m' r'
      obtain ⟨a, vs, ev, sq, rs⟩ := sq_tup r'
      simp only [RelD] at r'
      obtain ⟨a', vs', e1, h1, rs'⟩ := r'
      rw [ev] at e1
      cases e1
      exact ⟨a, ev, ⟨vs, sq⟩, p mu' H' _ g' m' (itr_tup h1 rs')⟩
    · rename_i ds
      refine .inl ⟨mu, s, L, m, l, ?_⟩
      rw [e]
      intro mu' H' v g' m' r'
      obtain ⟨a, vs, ev, sq, rs⟩ := sq_lst r'
      simp only [RelD] at r'
      obtain ⟨a', vs', e1, h1, rs'⟩ := r'
      rw [ev] at e1
      cases e1
      exact ⟨a, ev, ⟨vs, sq⟩, p mu' H' _ g' m' (itr_lst (.inr ⟨.inl h1.1, h1.2⟩) rs')⟩
    · rename_i ds
      refine .inl ⟨mu, s, L, m, l, ?_⟩
      rw [e]
      intro mu' H' v g' m' r'
      obtain ⟨a, vs, ev, sq, rs⟩ := sq_rdl r'
      simp only [RelD] at r'
      obtain ⟨a', vs', e1, h1, rs'⟩ := r'
      rw [ev] at e1
      cases e1
      exact ⟨a, ev, ⟨vs, sq⟩, p mu' H' _ g' m' (itr_lst h1 rs')⟩
/-- range(n), range(a, b) -/
@[irreducible] def rgOk (i : Int) : Bool := decide (-(2 ^ 62) ≤ i ∧ i < 2 ^ 62)
theorem rgOk_d {i : Int} (h : rgOk i = true) : -(2 ^ 62) ≤ i ∧ i < 2 ^ 62 := by
  unfold rgOk at h
  exact of_decide_eq_true h
noncomputable def rgItems (lo : Int) (n : Nat) : List D := (List.range n).map fun (k : Nat) => .int (lo + (k : Int))
noncomputable def dRng1 : List D → Option Src
  | [.int j] => if rgOk j = true then some ⟨rgItems 0 j.toNat, none⟩ else none
  | _ => none
noncomputable def dRng2 : List D → Option Src
  | [.int i, .int j] => if rgOk i = true ∧ rgOk j = true then some ⟨rgItems i (j - i).toNat, none⟩ else none
  | _ => none
noncomputable def fRng (o : List D → Option Src) (fa : F (List D)) : F Src := fun L s => (fa L s).bind fun ds s1 => match o ds with
  | some r => .ok r s1
  | none => .bad
theorem itr_rng {K : PySem.W.Frag} {mu : Mu} {H : Hp} {lo : Int} {n : Nat} : ItR K mu H (Itr lo n) ⟨rgItems lo n, none⟩ := by
  intro mu' s' H' g m _ i
  have hl : (rgItems lo n).length = n := by simp [rgItems]
  refine ⟨fun d e => ?_, fun e => ?_⟩
  · have hi := (List.getElem?_eq_some_iff.mp e).1
    have hi' : i < n := by rw [← hl]; exact hi
    refine ⟨hi', fun x H2 hy => ?_⟩
    obtain ⟨rfl, rfl⟩ := hy
    have e2 : (rgItems lo n)[i]? = some (.int (lo + (i : Int))) := by
      unfold rgItems
      rw [List.getElem?_map, List.getElem?_range hi']
      rfl
    have e3 : some (D.int (lo + (i : Int))) = some d := e2.symm.trans e
    cases e3
    exact ⟨Ge.refl _ _, m, rel_int.mpr rfl⟩
  · have := List.getElem?_eq_none_iff.mp e
    show n ≤ i
    rw [← hl]
    exact this
theorem pI_rng1 {tg a : Expr} {p : Pos} (hm : X.mg "range" = none) (ha : PA X [a] (tA X.K W fa)) (hg : Gl X "range" := by rfl) (hs : starEach [a] X.env = [(false, eval a X.env)] := by rfl) : PI X tg (.Call (.Name "range" p) [a] [] pos) (tI X.K W (fRng dRng1 fa)) := by
  refine PI.weak (pi_range1 hg hm ha hs) fun σ H Rr ⟨mu, s, L, m, l, p⟩ => ⟨mu, s, L, m, l, Post.step p fun ds s1 mu1 H1 vs g1 m1 r1 p1 => ?_⟩
  rcases ds with _ | ⟨d, _ | ⟨d2, ds⟩⟩
  · exact p1.elim
  · cases d <;> simp only [dRng1] at p1 <;> try exact p1.elim
    rename_i j
    simp only [RelDs] at r1
    obtain ⟨v1, r, rfl, q1, rfl⟩ := r1
    rw [rel_int.mp q1]
    by_cases hj : rgOk j = true
    · rw [if_pos hj] at p1
      have hb : -(2 ^ 62) ≤ j ∧ j < 2 ^ 62 := rgOk_d hj
      exact ⟨j, rfl, hb.1, hb.2, p1 mu1 H1 _ (Ge.refl _ _) m1 itr_rng⟩
    · rw [if_neg hj] at p1
      exact p1.elim
  · cases d <;> exact p1.elim
/-! while -/
/-! ### defs -/
noncomputable def spI (K : PySem.W.Frag) (n : Nat) (G : List D → S → R D) : Sp := fun vs H Q E => ∃ mu s ds, Sim K mu s H ∧ RelDs K mu H ds vs ∧ ds.length = n ∧ Post K (fun c d _ H => E c d H) (RelD K) [] mu H Q (G ds s)
noncomputable def fCall (n : Nat) (G : List D → S → R D) (fa : F (List D)) : F D := fun L s => (fa L s).bind fun ds s1 => if ds.length = n then G ds s1 else .bad
theorem weak_call {n : Nat} {G : List D → S → R D} (σ : L2.St) (H : Hp) (Q : VK) (hq : tE X.K W (fCall n G fa) σ H Q) : tCallS (spI X.K n G) (WE W) (tA X.K W fa) σ H Q := by
  obtain ⟨mu, s, L, m, l, p⟩ := hq
  refine ⟨mu, s, L, m, l, Post.step p fun ds s1 mu1 H1 vs g1 m1 r1 p1 => ?_⟩
  by_cases hn : ds.length = n
  · rw [if_pos hn] at p1
    refine ⟨mu1, s1, ds, m1, r1, hn, ?_⟩
    cases eg : G ds s1 with
    | ok d s2 =>
      rw [eg] at p1
      exact p1
    | ex C fs ds s2 =>
      rw [eg] at p1
      exact p1
    | bad =>
      rw [eg] at p1
      exact p1.elim
  · rw [if_neg hn] at p1
    exact p1.elim
theorem pE_call {x : Str} {p : Pos} {k n : Nat} {fA : Addr} {fd : FuncData} {ps : List Str} {G : List D → S → R D} (Fo : FnOk X.prog X.w X.K X.mg X.base (L2.CX X.prog X.w) k fA fd ps (spI X.K n G)) (hr : Room k X.A) (hm : X.mg x = some (.ref fA)) (hk : PySem.W.keepIn X.K (.ref fA) = true) (hb : Binds X.K fd ps []) (tk : Takes X W)
    (ha : PA X (e :: es) (tA X.K W fa)) (hg : Gl X x := by rfl) (hdb : (x == ("__debug__" : Str)) = false := by decide) (he : starEach (e :: es) X.env = (false, eval e X.env) :: starEach es X.env := by rfl) (hpl : (backTo pos (starEach es X.env)).any (·.1) = false := by rfl) :
    PE X (.Call (.Name x p) (e :: es) [] pos) (tE X.K W (fCall n G fa)) :=
  PE.weak (pe_callS Fo hr hg hm hk hb (fun σ => passAt tk σ) ha hdb he hpl) fun σ H Q q => weak_call σ H Q q
/-- a def from its body -/
noncomputable def startD (N : Nat) (ds : List D) : Lc := ds.map some ++ List.replicate (N - ds.length) none
noncomputable def RS.fin : RS → R D
  | .nx _ s' => .ok .non s'
  | .rt d s' => .ok d s'
  | .ex C fs vs _ s' => .ex C fs vs s'
  | _ => .bad
noncomputable def runF (N : Nat) (body : FS) : List D → S → R D := fun ds s => (body (startD N ds) s).fin
theorem startD_lr {K : PySem.W.Frag} {mu : Mu} {H : Hp} {N : List Str} {ds : List D} {vs : List V} (r : RelDs K mu H ds vs) : LR K mu H (startD N.length ds) (L2.start N vs) where
  len := by
    unfold startD L2.start
    rw [List.length_append, List.length_append, List.length_map, List.length_map, List.length_replicate, List.length_replicate, r.length]
  at_ := fun i d e => by
    unfold startD at e
    rcases Nat.lt_or_ge i ds.length with hi | hi
    · rw [List.getElem?_append_left (by rw [List.length_map]; exact hi), List.getElem?_map, List.getElem?_eq_getElem hi] at e
      cases e
      obtain ⟨v, ev, rv⟩ := r.get (List.getElem?_eq_getElem hi)
      refine ⟨v, ?_, rv⟩
      unfold L2.start
      rw [List.getElem?_append_left (by rw [List.length_map, ← r.length]; exact hi), List.getElem?_map, ev]
      rfl
    · rw [List.getElem?_append_right (by rw [List.length_map]; exact hi), List.getElem?_replicate] at e
      split at e <;> cases e
theorem ok_fn {P : Program} {w : World} {K : PySem.W.Frag} {mg : Str → Option Value} {base : Heap} {x qual : Str} {st : Stmt} {f : Addr} {fd : FuncData} {N ps : List Str} {k : Nat} {fb : FS} (Fu : Fun K x qual st f fd) (Sc : FnScope N ps (defScope st))
    (hbody : ∀ (cdv : Value) (A : Around) (outer : List Env) (s : Shared) (H : Hp) (E : XK), Room k (A.deeper (envOfC qual (defScope st) s.heap.objs.size f cdv)) →
      Takes (cxOf (L2.CX P w) P w K mg base N qual (defScope st) f cdv A outer s H E) (fun cls d _ H => E cls d H) → PassesOwn (model P w) (A.deeper (envOfC qual (defScope st) s.heap.objs.size f cdv)) (cxOf (L2.CX P w) P w K mg base N qual (defScope st) f cdv A outer s H E).env (cxOf (L2.CX P w) P w K mg base N qual (defScope st) f cdv A outer s H E).xe →
      PSs (cxOf (L2.CX P w) P w K mg base N qual (defScope st) f cdv A outer s H E) (defBody st) (tS K (fun cls d _ H => E cls d H) fb)) :
    FnOk P w K mg base (L2.CX P w) (k + 1) f fd ps (spI K ps.length (runF N.length fb)) := by
  refine Fu.okX Sc (fun vs H Q E h => ?_) (fun cdv A outer s H vs Q E hr h => ?_)
  · obtain ⟨mu, s, ds, m, r, hl, _⟩ := h
    rw [← r.length, hl]
  · refine ⟨_, hbody cdv A outer s H E hr (takes_of rfl rfl rfl rfl) (passes_of rfl), ?_⟩
    obtain ⟨mu, s', ds, m, r, hl, p⟩ := h
    refine ⟨mu, s', startD N.length ds, m, startD_lr r, ?_⟩
    unfold runF at p
    cases eb : fb (startD N.length ds) s' with
    | nx L2 s2 =>
      rw [eb] at p
      exact fun mu4 σ4 H4 g4 m4 l4 => p mu4 H4 _ g4 m4 (rel_non.mpr rfl)
    | rt d s2 =>
      rw [eb] at p
      exact p
    | ex C fs ds L2 s2 =>
      rw [eb] at p
      exact fun mu4 σ4 H4 od g4 m4 l4 x4 => p mu4 H4 od g4 m4 x4
    | bk L2 s2 =>
      rw [eb] at p
      exact p.elim
    | ct L2 s2 =>
      rw [eb] at p
      exact p.elim
    | bad =>
      rw [eb] at p
      exact p.elim
end
end SI

namespace SI
open PySem PySem.Spec PyProof.Rows L2
section
variable {X : Cx} {W : WX} {a b c e : Expr} {f g h : F D} {t : F Bool} {fa : F (List D)} {es : List Expr} {pos : Pos} {st : Stmt} {sts : List Stmt} {u v : FS}
theorem PE.or {X : Cx} {e : Expr} {t t' : TE} (h : PE X e t) (h' : PE X e t') : PE X e (fun σ H Q => t σ H Q ∨ t' σ H Q) := ⟨fun pins s σ H Q I q => q.elim (h.run pins s σ H Q I) (h'.run pins s σ H Q I)⟩
theorem RelDs.atI {K : PySem.W.Frag} {mu : Mu} {H : Hp} {ds : List D} {vs : List V} {i : Int} {d : D} (r : RelDs K mu H ds vs) (h : L2.atI ds i = some d) : ∃ v, L2.atI vs i = some v ∧ RelD K mu H d v := by
  unfold L2.atI at h ⊢
  rw [← r.length]
  cases e : ixN ds.length i with
  | none =>
    rw [e] at h
    cases h
  | some j =>
    rw [e] at h
    exact r.get h
/-- list behind a value -/
noncomputable def lstOf (s : S) : D → Option (List D)
  | .lst xs => some xs
  | .rdl xs => some xs
  | .ref n => match s[n]? with
    | some (.lst xs) => some xs
    | _ => none
  | _ => none
noncomputable def seqOf (s : S) : D → Option (List D)
  | .lst xs => some xs
  | .rdl xs => some xs
  | .tup xs => some xs
  | .ref n => match s[n]? with
    | some (.lst xs) => some xs
    | _ => none
  | _ => none
theorem sq_lstOf {K : PySem.W.Frag} {mu : Mu} {s : S} {H : Hp} {d : D} {ds : List D} {v : V} (m : Sim K mu s H) (r : RelD K mu H d v) (h : lstOf s d = some ds) : ∃ a vs, v = .ref a ∧ SqL K H a vs ∧ RelDs K mu H ds vs := by
  cases d <;> simp only [lstOf] at h <;> try cases h
  · rename_i n
    cases en : s[n]? with
    | none =>
      rw [en] at h
      cases h
    | some o =>
      rw [en] at h
      cases o <;> try cases h
      obtain ⟨a, vs, ev, ea, eh, rs⟩ := sq_ref m r en
      exact ⟨a, vs, ev, .of eh, rs⟩
  · exact sq_lst r
  · exact sq_rdl r
theorem sq_seqOf {K : PySem.W.Frag} {mu : Mu} {s : S} {H : Hp} {d : D} {ds : List D} {v : V} (m : Sim K mu s H) (r : RelD K mu H d v) (h : seqOf s d = some ds) : ∃ a vs, v = .ref a ∧ (SqL K H a vs ∨ SqT K H a vs) ∧ RelDs K mu H ds vs := by
  cases d <;> simp only [seqOf] at h <;> try cases h
  · rename_i n
    cases en : s[n]? with
    | none =>
      rw [en] at h
      cases h
    | some o =>
      rw [en] at h
      cases o <;> try cases h
      obtain ⟨a, vs, ev, ea, eh, rs⟩ := sq_ref m r en
      exact ⟨a, vs, ev, .inl (.of eh), rs⟩
  · obtain ⟨a, vs, e1, e2, e3⟩ := sq_tup r
    exact ⟨a, vs, e1, .inr e2, e3⟩
  · obtain ⟨a, vs, e1, e2, e3⟩ := sq_lst r
    exact ⟨a, vs, e1, .inl e2, e3⟩
  · obtain ⟨a, vs, e1, e2, e3⟩ := sq_rdl r
    exact ⟨a, vs, e1, .inl e2, e3⟩
/-! ### subscripts -/
noncomputable def dIx (s : S) (a b : D) : Option D := match b with
  | .int i => match a with
    | .str z => if z.length ≤ big then (L2.atI z.cps.toList i).map fun c => .str ⟨#[c]⟩ else none
    | a => (seqOf s a).bind fun xs => L2.atI xs i
  | _ => none
theorem opl_ix {K : PySem.W.Frag} : OpL K (rIx K) dIx := by
  intro mu s H a b d x y Q m ra rb e q
  unfold dIx at e
  cases b <;> try cases e
  rename_i i
  have ey := rel_int.mp rb
  cases a
  case str z =>
    dsimp only at e
    split at e
    · rename_i hz
      cases ec : L2.atI z.cps.toList i with
      | none =>
        rw [ec] at e
        cases e
      | some c =>
        rw [ec] at e
        cases e
        exact .inr (.inr ⟨z, i, c, rel_str.mp ra, ey, big_le hz, ec, q mu H _ (Ge.refl _ _) m (rel_str.mpr rfl)⟩)
    · cases e
  all_goals
    dsimp only at e
    cases es : seqOf s _ with
    | none =>
      rw [es] at e
      cases e
    | some xs =>
      rw [es] at e
      obtain ⟨p, vs, ev, sq, rs⟩ := sq_seqOf m ra es
      obtain ⟨v, e1, e2⟩ := rs.atI e
      rcases sq with sq | sq
      · exact .inl ⟨p, vs, i, v, ev, ey, sq, e1, q mu H v (Ge.refl _ _) m e2⟩
      · exact .inr (.inl ⟨p, vs, i, v, ev, ey, sq, e1, q mu H v (Ge.refl _ _) m e2⟩)
theorem pE_sub2 (ha : PE X a (tE X.K W f)) (hb : PE X b (tE X.K W g)) (hs : PlainIx b := by exact fun _ _ => rfl) : PE X (.Subscript a b pos) (tE X.K W (fOp dIx f g)) := pE_ix ix_seq opl_ix ha hb hs
/-! ### stores: o[i] = v -/
noncomputable def PutL (K : PySem.W.Frag) (t : TSet) (o : S → D → D → D → Option S) : Prop :=
  ∀ (mu : Mu) (s s' : S) (H : Hp) (a b d : D) (x y z : V) (Q : Hp → Prop), Sim K mu s H → RelD K mu H a x → RelD K mu H b y → RelD K mu H d z → o s a b d = some s' →
    (∀ H', Ge mu H mu H' → Sim K mu s' H' → Q H') → t x y z H Q
noncomputable def dPut (s : S) (a b d : D) : Option S := match a, b with
  | .ref n, .int i => match s[n]? with
    | some (.lst xs) => (ixN xs.length i).bind fun j => some (s.set n (.lst (xs.set j d)))
    | _ => none
  | _, _ => none
theorem putl_list {K : PySem.W.Frag} : PutL K rSetL dPut := by
  intro mu s s' H a b d x y z Q m ra rb rd e q
  unfold dPut at e
  split at e
  · rename_i n i
    split at e
    · rename_i xs hn
      obtain ⟨p, vs, ev, ea, eh, rs⟩ := sq_ref m ra hn
      cases ej : ixN xs.length i with
      | none =>
        rw [ej] at e
        cases e
      | some j =>
        rw [ej] at e
        cases e
        refine ⟨p, vs, i, j, ev, rel_int.mp rb, eh, by rw [← rs.length]; exact ej, ?_⟩
        exact q _ (Ge.put ea) (m.put ea ⟨_, upd_same, (rs.set rd j).mono (Ge.put ea)⟩)
    · cases e
  · cases e
noncomputable def sPut (o : S → D → D → D → Option S) (fe fo fi : F D) : FS := fun L s => (fe L s).bindS L fun d s1 => (fo L s1).bindS L fun a s2 => (fi L s2).bindS L fun b s3 => match o s3 a b d with
  | some s' => .nx L s'
  | none => .bad
theorem pS_put {t : TSet} {o : S → D → D → D → Option S} {eo ei : Expr} {fo fi : F D} {p1 : Pos} (hl : PutL X.K t o) (hx : PS X (.Assign [.Subscript eo ei p1] e pos) (tAsg (tE X.K W f) (gSub (tE X.K W fo) (tE X.K W fi) t))) : PS X (.Assign [.Subscript eo ei p1] e pos) (tS X.K W (sPut o f fo fi)) := by
  refine PS.weak hx fun D σ H ⟨mu, s, L, m, l, p⟩ => ⟨mu, s, L, m, l, ?_⟩
  refine Post.stepS l p fun d s1 mu1 H1 v1 g1 m1 r1 p1 => ?_
  refine ⟨mu1, s1, L, m1, l.mono g1, Post.stepS (l.mono g1) p1 fun a s2 mu2 H2 v2 g2 m2 r2 p2 => ?_⟩
  refine ⟨mu2, s2, L, m2, (l.mono g1).mono g2, Post.stepS ((l.mono g1).mono g2) p2 fun b s3 mu3 H3 v3 g3 m3 r3 p3 => ?_⟩
  cases eo : o s3 a b d with
  | none =>
    rw [eo] at p3
    exact p3.elim
  | some s' =>
    rw [eo] at p3
    exact hl mu3 s3 s' H3 a b d v2 v3 v1 _ m3 (r2.mono g3) r3 ((r1.mono g2).mono g3) eo fun H' g' m' => p3 mu3 σ H' g' m' ((((l.mono g1).mono g2).mono g3).mono g')
/-! ### x op= e -/
noncomputable def sAug (o : S → D → D → Option D) (i : Nat) (f : F D) : FS := fun L s => match L[i]? with
  | some (some d0) => (f L s).bindS L fun d1 s1 => match o s1 d0 d1 with
    | some d => .nx (L.set i (some d)) s1
    | none => .bad
  | _ => .bad
theorem opl_ip {K : PySem.W.Frag} {gi : Int → Int → Int} : OpL K (ipI gi) (dI2 yes2 fun i j => .int (gi i j)) := by
  intro mu s H a b d x y Q m ra rb e q
  cases a <;> simp only [dI2] at e <;> try cases e
  cases b <;> simp only [dI2] at e <;> try cases e
  rename_i i j
  exact ⟨i, j, rel_int.mp ra, rel_int.mp rb, q mu H _ (Ge.refl _ _) m (rel_int.mpr rfl)⟩
/-! xs[i] op= e -/
theorem pget_list : PGet X (rIxL X.K) := by
  intro pins s σ H o i ov iv Q I ro ri hh
  obtain ⟨p, xs, k, z, rfl, rfl, hq, he, q⟩ := hh
  cases ro
  obtain ⟨t, rfl⟩ := ri
  obtain ⟨its, r, pl, hz⟩ := I.list hq
  obtain ⟨j, h1, h2, h3, h4, h5⟩ := atI_get he
  obtain ⟨w, ew, rw'⟩ := r.get h2
  have hl := r.length
  have hn := line63
  have done : EP X pins σ Q w s := ⟨z, H, I, rw', q⟩
  rcases Int.lt_or_le k 0 with h0 | h0
  · have hj : (k + (its.toArray.size : Int)).toNat = j := by
      rw [seqIndex_neg h0 h4] at h1
      rw [List.size_toArray, ← hl]
      exact Option.some.inj h1
    exact wpAny_getItem_list_neg pl.isList h0 (by rw [List.size_toArray] <;> omega) (by omega) (by rw [hj]; simpa using ew) done
  · have hj : k.toNat = j := by
      rw [seqIndex_of h0 h5] at h1
      exact Option.some.inj h1
    exact wpAny_getItem_list pl.isList h0 (by omega) (by rw [hj]; simpa using ew) done
noncomputable def dIxL (s : S) (a b : D) : Option D := match b with
  | .int i => (lstOf s a).bind fun xs => L2.atI xs i
  | _ => none
theorem opl_ixL {K : PySem.W.Frag} : OpL K (rIxL K) dIxL := by
  intro mu s H a b d x y Q m ra rb e q
  unfold dIxL at e
  cases b <;> try cases e
  rename_i i
  dsimp only at e
  cases es : lstOf s a with
  | none =>
    rw [es] at e
    cases e
  | some xs =>
    rw [es] at e
    obtain ⟨p, vs, ev, sq, rs⟩ := sq_lstOf m ra es
    obtain ⟨v, e1, e2⟩ := rs.atI e
    exact ⟨p, vs, i, v, ev, rel_int.mp rb, sq, e1, q mu H v (Ge.refl _ _) m e2⟩
noncomputable def sAugS (get op : S → D → D → Option D) (put : S → D → D → D → Option S) (fo fi fe : F D) : FS := fun L s => (fo L s).bindS L fun a s1 => (fi L s1).bindS L fun b s2 => match get s2 a b with
  | some d0 => (fe L s2).bindS L fun d1 s3 => match op s3 d0 d1 with
    | some d => match put s3 a b d with
      | some s' => .nx L s'
      | none => .bad
    | none => .bad
  | none => .bad
theorem pS_augS {eo ei : Expr} {fo fi : F D} {p1 : Pos} {op : Operator} {tg : V → V → Hp → VK → Prop} {ti : TIp} {ts : TSet} {get o : S → D → D → Option D} {put : S → D → D → D → Option S} (hg : OpL X.K tg get) (ho : OpL X.K ti o) (hp : PutL X.K ts put)
    (hx : PS X (.AugAssign (.Subscript eo ei p1) op e pos) (tAugS (tE X.K W fo) (tE X.K W fi) (tE X.K W f) tg ti ts)) : PS X (.AugAssign (.Subscript eo ei p1) op e pos) (tS X.K W (sAugS get o put fo fi f)) := by
  refine PS.weak hx fun D σ H ⟨mu, s, L, m, l, p⟩ => ⟨mu, s, L, m, l, ?_⟩
  refine Post.stepS l p fun a s1 mu1 H1 v1 g1 m1 r1 p1 => ?_
  refine ⟨mu1, s1, L, m1, l.mono g1, Post.stepS (l.mono g1) p1 fun b s2 mu2 H2 v2 g2 m2 r2 p2 => ?_⟩
  have r1' := r1.mono g2
  have l2 := (l.mono g1).mono g2
  cases eg : get s2 a b with
  | none =>
    rw [eg] at p2
    exact p2.elim
  | some d0 =>
    rw [eg] at p2
    refine hg mu2 s2 H2 a b d0 v1 v2 _ m2 r1' r2 eg fun mu3 H3 v3 g3 m3 r3 => ?_
    refine ⟨mu3, s2, L, m3, l2.mono g3, Post.stepS (l2.mono g3) (PostS.ge g3 p2) fun d1 s4 mu4 H4 v4 g4 m4 r4 p4 => ?_⟩
    cases eo : o s4 d0 d1 with
    | none =>
      rw [eo] at p4
      exact p4.elim
    | some d =>
      rw [eo] at p4
      refine ho mu4 s4 H4 d0 d1 d v3 v4 _ m4 (r3.mono g4) r4 eo fun mu5 H5 v5 g5 m5 r5 => ?_
      dsimp only at p4
      cases ep : put s4 a b d with
      | none =>
        rw [ep] at p4
        exact p4.elim
      | some s' =>
        rw [ep] at p4
        exact hp mu5 s4 s' H5 a b d v1 v2 v5 _ m5 (((r1'.mono g3).mono g4).mono g5) (((r2.mono g3).mono g4).mono g5) r5 ep fun H6 g6 m6 => p4 mu5 σ H6 (g5.trans g6) m6 ((((l2.mono g3).mono g4).mono g5).mono g6)
theorem pS_augSL {eo ei : Expr} {fo fi : F D} {p1 : Pos} (ho : PE X eo (tE X.K W fo)) (hi : PE X ei (tE X.K W fi)) (he : PE X e (tE X.K W f)) (ha : ∀ ov iv new, augStore ei ov iv new = (do holding [new, ov, iv] (setItem ov iv new); release [new, ov, iv] []; pure .next) := by intros; rfl) :
    PS X (.AugAssign (.Subscript eo ei p1) .Add e pos) (tS X.K W (sAugS dIxL dAddI dPut fo fi f)) := pS_augS opl_ixL opl_ip putl_list (ps_augS ho hi pget_list he ip_add set_list ha)
/-! ### built-ins -/
theorem rel1 {K : PySem.W.Frag} {mu : Mu} {H : Hp} {d : D} {vs : List V} (r : RelDs K mu H [d] vs) : ∃ v, vs = [v] ∧ RelD K mu H d v := by
  simp only [RelDs] at r
  obtain ⟨v, r', rfl, h1, rfl⟩ := r
  exact ⟨v, rfl, h1⟩
theorem rel2 {K : PySem.W.Frag} {mu : Mu} {H : Hp} {d d2 : D} {vs : List V} (r : RelDs K mu H [d, d2] vs) : ∃ v v2, vs = [v, v2] ∧ RelD K mu H d v ∧ RelD K mu H d2 v2 := by
  simp only [RelDs] at r
  obtain ⟨v, r', rfl, h1, v2, r'', rfl, h2, rfl⟩ := r
  exact ⟨v, v2, rfl, h1, h2⟩
noncomputable def bInt (_ : S) : List D → Option D
  | [.int i] => some (.int i)
  | [.bl k] => some (.int (if k = true then 1 else 0))
  | _ => none
theorem cbl_int {K : PySem.W.Frag} : CbL K (fun xs H Q => (∃ i, xs = [.int i] ∧ Q (.int i) H) ∨ ∃ k : Bool, xs = [.bl k] ∧ Q (.int (if k then 1 else 0)) H) bInt := by
  intro mu s H ds d vs Q m r e q
  rcases ds with _ | ⟨d1, _ | ⟨d2, ds⟩⟩
  · cases e
  · obtain ⟨v, rfl, r1⟩ := rel1 r
    cases d1 <;> simp only [bInt] at e <;> cases e
    · exact .inr ⟨_, by rw [rel_bl.mp r1], q mu H _ (Ge.refl _ _) m (rel_int.mpr rfl)⟩
    · exact .inl ⟨_, by rw [rel_int.mp r1], q mu H _ (Ge.refl _ _) m (rel_int.mpr rfl)⟩
  · cases d1 <;> cases e
theorem pE_int1 {p : Pos} (hm : X.mg "int" = none) (ha : PA X [e] (tA X.K W fa)) (hg : Gl X "int" := by rfl) (he : starEach [e] X.env = (false, eval e X.env) :: starEach [] X.env := by rfl) : PE X (.Call (.Name "int" p) [e] [] pos) (tE X.K W (fCB bInt fa)) :=
  pE_cty call_int1 cbl_int hm (by decide +kernel) ha hg (by decide) (by decide) he rfl
noncomputable def bLen (s : S) : List D → Option D
  | [.str z] => if z.length ≤ big then some (.int z.length) else none
  | [d] => (seqOf s d).map fun xs => .int xs.length
  | _ => none
theorem cbl_len {K : PySem.W.Frag} : CbL K (fun xs H Q => (∃ p ys, xs = [.ref p] ∧ (SqL K H p ys ∨ SqT K H p ys) ∧ Q (.int ys.length) H) ∨ ∃ z, xs = [.str z] ∧ z.length ≤ sizeLine ∧ Q (.int z.length) H) bLen := by
  intro mu s H ds d vs Q m r e q
  rcases ds with _ | ⟨d1, _ | ⟨d2, ds⟩⟩
  · cases e
  · obtain ⟨v, rfl, r1⟩ := rel1 r
    unfold bLen at e
    split at e
    · rename_i z heq
      cases heq
      split at e
      · rename_i hz
        cases e
        exact .inr ⟨z, by rw [rel_str.mp r1], big_le hz, q mu H _ (Ge.refl _ _) m (rel_int.mpr rfl)⟩
      · cases e
    · rename_i heq
      cases heq
      cases es : seqOf s d1 with
      | none =>
        rw [es] at e
        cases e
      | some xs =>
        rw [es] at e
        cases e
        obtain ⟨p, ys, ev, sq, rs⟩ := sq_seqOf m r1 es
        refine .inl ⟨p, ys, by rw [ev], sq, ?_⟩
        rw [← rs.length]
        exact q mu H _ (Ge.refl _ _) m (rel_int.mpr rfl)
    · cases e
  · unfold bLen at e
    split at e <;> first | (rename_i heq; cases heq) | cases e
theorem pE_len {p : Pos} (hm : X.mg "len" = none) (ha : PA X [e] (tA X.K W fa)) (hg : Gl X "len" := by rfl) (he : starEach [e] X.env = (false, eval e X.env) :: starEach [] X.env := by rfl) : PE X (.Call (.Name "len" p) [e] [] pos) (tE X.K W (fCB bLen fa)) :=
  pE_cb (call_len_seq.or call_len_str) cbl_len hm PySem.boot_len ha hg (by decide) (by decide) he rfl
/-! ### slices -/
noncomputable def fNo : F (Option Int) := fun _ s => .ok none s
noncomputable def fPt (f : F D) : F (Option Int) := fun L s => (f L s).bind fun d s1 => match d with
  | .int i => .ok (some i) s1
  | _ => .bad
noncomputable def tO (K : PySem.W.Frag) (W : WX) (f : F (Option Int)) : TO := fun σ H Q => ∃ mu s L, Sim K mu s H ∧ LR K mu H L σ ∧ Post K W (fun _ _ (a b : Option Int) => a = b) σ mu H Q (f L s)
theorem PO.weak {X : Cx} {e : Option Expr} {t t' : TO} (h : PO X e t) (w : ∀ σ H Q, t' σ H Q → t σ H Q) : PO X e t' := ⟨fun pins s σ H Q I q => h.run pins s σ H Q I (w _ _ _ q)⟩
theorem pO_none : PO X none (tO X.K W fNo) := PO.weak po_none fun σ H Q ⟨mu, s, L, m, l, p⟩ => p mu H _ (Ge.refl _ _) m rfl
theorem pO_some (hh : PE X e (tE X.K W f)) : PO X (some e) (tO X.K W (fPt f)) := by
  refine PO.weak (po_some hh) fun σ H Q ⟨mu, s, L, m, l, p⟩ => ⟨mu, s, L, m, l, Post.step p fun d s1 mu1 H1 v1 g1 m1 r1 p1 => ?_⟩
  cases d <;> try exact p1.elim
  exact ⟨_, rel_int.mp r1, p1 mu1 H1 _ (Ge.refl _ _) m1 rfl⟩
noncomputable def cutD (xs : List D) (lo hi : Option Int) : List D := (xs.drop (HT.sIx xs.length 0 lo)).take (HT.sIx xs.length xs.length hi - HT.sIx xs.length 0 lo)
theorem cut_rel {K : PySem.W.Frag} {mu : Mu} {H : Hp} {ds : List D} {vs : List V} (r : RelDs K mu H ds vs) (lo hi : Option Int) : RelDs K mu H (cutD ds lo hi) (cutV vs lo hi) := by
  unfold cutD cutV
  rw [r.length]
  exact (r.drop _).take _
/-- a slice: of a tuple a tuple, of a list a list that is never changed -/
noncomputable def dSl (s : S) (d : D) (lo hi : Option Int) : Option D := match d with
  | .tup xs => some (.tup (cutD xs lo hi))
  | d => (lstOf s d).map fun xs => .lst (cutD xs lo hi)
noncomputable def fSl (f : F D) (l h : F (Option Int)) : F D := fun L s => (f L s).bind fun d s1 => (l L s1).bind fun lo s2 => (h L s2).bind fun hi s3 => match dSl s3 d lo hi with
  | some r => .ok r s3
  | none => .bad
end
end SI

namespace SI
open PySem PySem.Spec PyProof.Rows L2
section
variable {X : Cx} {W : WX} {a b c e : Expr} {f g h : F D} {t : F Bool} {fa : F (List D)} {es : List Expr} {pos : Pos} {st : Stmt} {sts : List Stmt} {u v : FS}
/-! ### slices, tuples -/
theorem weak_sl {lo hi : Option Expr} {fl fh : F (Option Int)} {p2 : Pos} (he : PE X e (tE X.K W f)) (hl : PO X lo (tO X.K W fl)) (hh : PO X hi (tO X.K W fh)) : PE X (.Subscript e (.Slice lo hi none p2) pos) (tE X.K W (fSl f fl fh)) := by
  refine PE.weak (pe_slice (SlR.or sl_list sl_tupA) he hl hh) fun σ H Q ⟨mu, s, L, m, l, p⟩ => ⟨mu, s, L, m, l, Post.step p fun d s1 mu1 H1 v1 g1 m1 r1 p1 => ?_⟩
  refine ⟨mu1, s1, L, m1, l.mono g1, Post.step p1 fun o2 s2 mu2 H2 v2 g2 m2 r2 p2 => ?_⟩
  subst r2
  refine ⟨mu2, s2, L, m2, (l.mono g1).mono g2, Post.step p2 fun o3 s3 mu3 H3 v3 g3 m3 r3 p3 => ?_⟩
  subst r3
  have rd := (r1.mono g2).mono g3
  unfold dSl at p3
  split at p3
  · rename_i r heq
    split at heq
    · rename_i xs
      cases heq
      obtain ⟨a, vs, ev, sq, rs⟩ := sq_tup rd
      refine .inr ⟨a, vs, ev, sq, fun hw => ?_, fun hw q hq => ?_⟩
      · refine p3 mu3 H3 _ (Ge.refl _ _) m3 ?_
        have e1 : cutD xs o2 o3 = xs := by
          unfold cutD
          rw [rs.length, hw.1, hw.2, List.drop_zero, Nat.sub_zero, ← rs.length]
          exact List.take_length
        rw [e1, ← ev]
        exact rd
      · exact p3 mu3 _ _ (Ge.pure m3 hq) (m3.pure hq) (rel_tup m3 hq (cut_rel rs o2 o3))
    · rename_i hnt
      cases el : lstOf s3 d with
      | none =>
        rw [el] at heq
        cases heq
      | some xs =>
        rw [el] at heq
        cases heq
        obtain ⟨a, vs, ev, sq, rs⟩ := sq_lstOf m3 rd el
        exact .inl ⟨a, vs, ev, sq, fun q hq => p3 mu3 _ _ (Ge.pure m3 hq) (m3.pure hq) (rel_lst m3 hq (cut_rel rs o2 o3))⟩
  · exact p3.elim
/-! ### data that == tells apart -/
mutual
noncomputable def toPy (s : S) : D → Option PyData
  | .non => some .none
  | .bl b => some (.bool b)
  | .int i => some (.int i)
  | .str x => some (.str x)
  | .tup xs => (toPys s xs).map .tuple
  | .lst xs => (toPys s xs).map .list
  | _ => none
noncomputable def toPys (s : S) : List D → Option (List PyData)
  | [] => some []
  | x :: xs => match toPy s x, toPys s xs with
    | some y, some ys => some (y :: ys)
    | _, _ => none
end
/-- .. with the tracked lists of flat items -/
noncomputable def toPyT (s : S) : D → Option PyData
  | .ref n => match s[n]? with
    | some (.lst xs) => (toPys s xs).map .list
    | _ => none
  | d => toPy s d
mutual
theorem dp_of {K : PySem.W.Frag} {mu : Mu} {s : S} {H : Hp} : ∀ (d : D) (v : V) (y : PyData), RelD K mu H d v → toPy s d = some y → Dp K H v y
  | .non, v, y, r, e => by
    simp only [toPy] at e
    cases e
    rw [rel_non.mp r]
    exact .non
  | .bl b, v, y, r, e => by
    simp only [toPy] at e
    cases e
    rw [rel_bl.mp r]
    exact .bl _
  | .int b, v, y, r, e => by
    simp only [toPy] at e
    cases e
    rw [rel_int.mp r]
    exact .int _
  | .str b, v, y, r, e => by
    simp only [toPy] at e
    cases e
    rw [rel_str.mp r]
    exact .str _
  | .tup xs, v, y, r, e => by
    simp only [toPy] at e
    cases e1 : toPys s xs with
    | none =>
      rw [e1] at e
      cases e
    | some ys =>
      rw [e1] at e
      cases e
      obtain ⟨a, vs, ev, sq, rs⟩ := sq_tup r
      rw [ev]
      exact .tup sq (dps_of xs vs ys rs e1)
  | .lst xs, v, y, r, e => by
    simp only [toPy] at e
    cases e1 : toPys s xs with
    | none =>
      rw [e1] at e
      cases e
    | some ys =>
      rw [e1] at e
      cases e
      obtain ⟨a, vs, ev, sq, rs⟩ := sq_lst r
      rw [ev]
      exact .lst sq (dps_of xs vs ys rs e1)
  | .ty _, _, _, _, e => by simp only [toPy] at e; cases e
  | .rdl _, _, _, _, e => by simp only [toPy] at e; cases e
  | .gl _, _, _, _, e => by simp only [toPy] at e; cases e
  | .ref _, _, _, _, e => by simp only [toPy] at e; cases e
  | .dk _ _, _, _, _, e => by simp only [toPy] at e; cases e
  | .dt _ _, _, _, _, e => by simp only [toPy] at e; cases e
  | .ins _ _ _, _, _, _, e => by simp only [toPy] at e; cases e
theorem dps_of {K : PySem.W.Frag} {mu : Mu} {s : S} {H : Hp} : ∀ (ds : List D) (vs : List V) (ys : List PyData), RelDs K mu H ds vs → toPys s ds = some ys → DpAll K H vs ys
  | [], vs, ys, r, e => by
    simp only [toPys] at e
    cases e
    simp only [RelDs] at r
    subst r
    exact .nil
  | d :: ds, vs, ys, r, e => by
    simp only [toPys] at e
    simp only [RelDs] at r
    obtain ⟨v, vr, rfl, r1, r2⟩ := r
    cases e1 : toPy s d with
    | none =>
      rw [e1] at e
      cases e
    | some y =>
      cases e2 : toPys s ds with
      | none =>
        rw [e1, e2] at e
        cases e
      | some yr =>
        rw [e1, e2] at e
        cases e
        exact .cons (dp_of d v y r1 e1) (dps_of ds vr yr r2 e2)
end
theorem dp_ofT {K : PySem.W.Frag} {mu : Mu} {s : S} {H : Hp} {d : D} {v : V} {y : PyData} (m : Sim K mu s H) (r : RelD K mu H d v) (e : toPyT s d = some y) : Dp K H v y := by
  unfold toPyT at e
  split at e
  · rename_i n
    split at e
    · rename_i xs hn
      cases e1 : toPys s xs with
      | none =>
        rw [e1] at e
        cases e
      | some ys =>
        rw [e1] at e
        cases e
        obtain ⟨a, vs, ev, ea, eh, rs⟩ := sq_ref m r hn
        rw [ev]
        exact .lst (.of eh) (dps_of xs vs ys rs e1)
    · cases e
  · exact dp_of d v y r e
noncomputable def dEqD (neg : Bool) (s : S) (a b : D) : Option D := match toPyT s a, toPyT s b with
  | some x, some y => if SeqAt.shaped x = true ∧ SeqAt.shaped y = true then some (.bl (if neg = true then !PyData.eqv x y else PyData.eqv x y)) else none
  | _, _ => none
theorem opl_eqD {K : PySem.W.Frag} : OpL K (rEqD K) (dEqD false) := by
  intro mu s H a b d x y Q m ra rb e q
  unfold dEqD at e
  split at e
  · rename_i p1 p2 h1 h2
    split at e
    · rename_i hs
      cases e
      exact ⟨p1, p2, dp_ofT m ra h1, dp_ofT m rb h2, hs.1, hs.2, q mu H _ (Ge.refl _ _) m (rel_bl.mpr rfl)⟩
    · cases e
  · cases e
theorem opl_neD {K : PySem.W.Frag} : OpL K (rNeD K) (dEqD true) := by
  intro mu s H a b d x y Q m ra rb e q
  unfold dEqD at e
  split at e
  · rename_i p1 p2 h1 h2
    split at e
    · rename_i hs
      cases e
      exact ⟨p1, p2, dp_ofT m ra h1, dp_ofT m rb h2, hs.1, hs.2, q mu H _ (Ge.refl _ _) m (rel_bl.mpr rfl)⟩
    · cases e
  · cases e
theorem pE_eq {k : Nat} (hr : Room k X.A) (ha : PE X a (tE X.K W f)) (hb : PE X b (tE X.K W g)) : PE X (.Compare a [.Eq] [b] pos) (tE X.K W (fOp (dEqD false) f g)) := pE_cmp (op_eqD hr.units) opl_eqD ha hb
/-! is -/
noncomputable def dIs (neg : Bool) (_ : S) (a b : D) : Option D := match b with
  | .non => some (.bl (if neg = true then !decide (a = .non) else decide (a = .non)))
  | .bl k => match a with
    | .bl j => some (.bl (if neg = true then !decide (j = k) else decide (j = k)))
    | _ => none
  | _ => none
theorem rel_non_iff {K : PySem.W.Frag} {mu : Mu} {H : Hp} {d : D} {v : V} (r : RelD K mu H d v) : decide (v = .non) = decide (d = .non) := by
  cases d <;> simp only [RelD] at r
  case non => subst r; rfl
  case bl => subst r; rfl
  case int => subst r; rfl
  case str => subst r; rfl
  case ty => subst r; rfl
  case gl => subst r; rfl
  case exc => obtain ⟨rfl, _⟩ := r; rfl
  case err => obtain ⟨a, rfl, _⟩ := r; rfl
  case adr => obtain ⟨rfl, _⟩ := r; rfl
  all_goals (obtain ⟨a, r⟩ := r; first | (obtain ⟨_, rfl⟩ := r; rfl) | (obtain ⟨_, rfl, _⟩ := r; rfl) | (obtain ⟨_, _, rfl, _⟩ := r; rfl))
theorem opl_is {K : PySem.W.Frag} : OpL K (fun x y H Q => (y = .non ∧ Q (.bl (decide (x = .non))) H) ∨ ∃ a b, x = .bl a ∧ y = .bl b ∧ Q (.bl (decide (a = b))) H) (dIs false) := by
  intro mu s H a b d x y Q m ra rb e q
  cases b <;> simp only [dIs] at e <;> try cases e
  · refine .inl ⟨rel_non.mp rb, ?_⟩
    rw [rel_non_iff ra]
    exact q mu H _ (Ge.refl _ _) m (rel_bl.mpr (by simp))
  · cases a <;> try cases e
    exact .inr ⟨_, _, rel_bl.mp ra, rel_bl.mp rb, q mu H _ (Ge.refl _ _) m (rel_bl.mpr (by simp))⟩
theorem opl_isnot {K : PySem.W.Frag} : OpL K (fun x y H Q => (y = .non ∧ Q (.bl (!decide (x = .non))) H) ∨ ∃ a b, x = .bl a ∧ y = .bl b ∧ Q (.bl (!decide (a = b))) H) (dIs true) := by
  intro mu s H a b d x y Q m ra rb e q
  cases b <;> simp only [dIs] at e <;> try cases e
  · refine .inl ⟨rel_non.mp rb, ?_⟩
    rw [rel_non_iff ra]
    exact q mu H _ (Ge.refl _ _) m (rel_bl.mpr (by simp))
  · cases a <;> try cases e
    exact .inr ⟨_, _, rel_bl.mp ra, rel_bl.mp rb, q mu H _ (Ge.refl _ _) m (rel_bl.mpr (by simp))⟩
theorem pE_is (ha : PE X a (tE X.K W f)) (hb : PE X b (tE X.K W g)) : PE X (.Compare a [.Is] [b] pos) (tE X.K W (fOp (dIs false) f g)) := pE_cmp (op_isN.or op_is_bl) opl_is ha hb
theorem pE_isnot (ha : PE X a (tE X.K W f)) (hb : PE X b (tE X.K W g)) : PE X (.Compare a [.IsNot] [b] pos) (tE X.K W (fOp (dIs true) f g)) := pE_cmp (op_notN.or op_isnot_bl) opl_isnot ha hb
/-! ### instances -/
theorem zip_look {K : PySem.W.Frag} {mu : Mu} {H : Hp} {n : Str} : ∀ {fs : List Str} {ds : List D} {vs : List V} {d : D}, RelDs K mu H ds vs → (fs.zip ds).lookup n = some d → ∃ v, (fs.zip vs).lookup n = some v ∧ RelD K mu H d v
  | [], ds, vs, d, r, e => by simp at e
  | x :: fs, [], vs, d, r, e => by simp at e
  | x :: fs, y :: ds, vs, d, r, e => by
    simp only [RelDs] at r
    obtain ⟨v, vr, rfl, r1, r2⟩ := r
    simp only [List.zip_cons_cons, List.lookup_cons] at e ⊢
    cases hb : n == x with
    | true =>
      rw [hb] at e
      cases e
      exact ⟨v, rfl, r1⟩
    | false =>
      rw [hb] at e
      exact zip_look r2 e
noncomputable def insOf (s : S) : D → Option (Addr × List Str × List D)
  | .ins C fs vs => some (C, fs, vs)
  | .ref n => match s[n]? with
    | some (.ins C fs vs) => some (C, fs, vs)
    | _ => none
  | .adr _ (.ins C fs vs) => some (C, fs, vs)
  | _ => none
theorem ins_of {K : PySem.W.Frag} {mu : Mu} {s : S} {H : Hp} {d : D} {v : V} {C : Addr} {fs : List Str} {ds : List D} (m : Sim K mu s H) (r : RelD K mu H d v) (e : insOf s d = some (C, fs, ds)) :
    ∃ a dx vs, v = .ref a ∧ H a = some (.ins C dx (fs.zip vs)) ∧ fs.length = vs.length ∧ RelDs K mu H ds vs := by
  cases d <;> simp only [insOf] at e <;> try cases e
  · rename_i n
    cases en : s[n]? with
    | none =>
      rw [en] at e
      cases e
    | some o =>
      rw [en] at e
      cases o <;> cases e
      simp only [RelD] at r
      obtain ⟨a, ea, ev⟩ := r
      rcases m.obj n _ en with z | ⟨b, eb, r⟩
      · cases z
      · rw [ea] at eb
        cases eb
        obtain ⟨dx, vs, h1, h2, h3⟩ := r
        exact ⟨a, dx, vs, ev, h1, h2, h3⟩
  · simp only [RelD] at r
    obtain ⟨a, dx, vs, h1, h2, _, h3, h4⟩ := r
    exact ⟨a, dx, vs, h1, h2, h3, h4⟩
  · rename_i b d
    cases d <;> simp only [insOf] at e <;> try cases e
    simp only [RelD] at r
    obtain ⟨_, a, dx, vs, h1, h2, _, h3, h4⟩ := r
    exact ⟨a, dx, vs, h1, h2, h3, h4⟩
/-- o.n, o an instance of one of these classes -/
noncomputable def fFld (cs : List Addr) (n : Str) (f : F D) : F D := fun L s => (f L s).bind fun d s1 => match insOf s1 d with
  | some (C, fs, vs) => if C ∈ cs then (match (fs.zip vs).lookup n with
    | some r => .ok r s1
    | none => .bad) else .bad
  | none => .bad
theorem pE_fld {cs : List Addr} {n : Str} (hC : ∀ C ∈ cs, Cls X.K C ∧ NoAttr X.K C n) (he : PE X e (tE X.K W f)) (hb : attributeBase e n X.env (eval e X.env) = eval e X.env := by rfl) : PE X (.Attribute e n pos) (tE X.K W (fFld cs n f)) := by
  refine PE.weak (pe_fld he hb) fun σ H Q ⟨mu, s, L, m, l, p⟩ => ⟨mu, s, L, m, l, Post.step p fun d s1 mu1 H1 v1 g1 m1 r1 p1 => ?_⟩
  cases ei : insOf s1 d with
  | none =>
    rw [ei] at p1
    exact p1.elim
  | some z =>
    obtain ⟨C, fs, ds⟩ := z
    rw [ei] at p1
    dsimp only at p1
    split at p1
    · rename_i hc
      cases el : (fs.zip ds).lookup n with
      | none =>
        rw [el] at p1
        exact p1.elim
      | some r =>
        rw [el] at p1
        obtain ⟨a, dx, vs, ev, eh, hl, rs⟩ := ins_of m1 r1 ei
        obtain ⟨v, e1, e2⟩ := zip_look rs el
        exact ⟨a, C, dx, _, v, ev, eh, (hC C hc).1, (hC C hc).2, e1, p1 mu1 H1 v (Ge.refl _ _) m1 e2⟩
    · exact p1.elim
/-- o.n = e, o a tracked instance -/
noncomputable def putN (n : Str) (d : D) : List Str → List D → List Str × List D
  | g :: fs, x :: vs => if g = n then (g :: fs, d :: vs) else ((g :: (putN n d fs vs).1), (x :: (putN n d fs vs).2))
  | _, _ => ([n], [d])
theorem put_rel {K : PySem.W.Frag} {mu : Mu} {H : Hp} {n : Str} {d : D} {v : V} (r : RelD K mu H d v) : ∀ {fs : List Str} {ds : List D} {vs : List V}, fs.length = vs.length → RelDs K mu H ds vs →
    ∃ vs', putF n v (fs.zip vs) = (putN n d fs ds).1.zip vs' ∧ (putN n d fs ds).1.length = vs'.length ∧ RelDs K mu H (putN n d fs ds).2 vs' ∧ vs'.length ≤ vs.length + 1
  | [], ds, vs, hl, rs => by
    have e : vs = [] := by cases vs with
      | nil => rfl
      | cons => simp at hl
    subst e
    exact ⟨[v], by simp [putN, putF], by simp [putN], by simp only [putN]; exact .cons r .nil, by simp⟩
  | g :: fs, [], vs, hl, rs => by
    simp only [RelDs] at rs
    subst rs
    simp at hl
  | g :: fs, x :: ds, vs, hl, rs => by
    simp only [RelDs] at rs
    obtain ⟨w, vr, rfl, r1, r2⟩ := rs
    simp only [List.length_cons] at hl
    by_cases hg : g = n
    · refine ⟨v :: vr, ?_, ?_, ?_, by simp⟩
      · simp only [List.zip_cons_cons, putF, putN, hg, if_true]
      · simp only [putN, hg, if_true, List.length_cons]
        omega
      · simp only [putN, hg, if_true]
        exact .cons r r2
    · obtain ⟨vs', e1, e2, e3, e4⟩ := put_rel (n := n) (fs := fs) r (by omega) r2
      refine ⟨w :: vs', ?_, ?_, ?_, ?_⟩
      · simp only [List.zip_cons_cons, putF, putN, hg, if_false, e1]
      · simp only [putN, hg, if_false, List.length_cons]
        omega
      · simp only [putN, hg, if_false]
        exact .cons r1 e3
      · simp only [List.length_cons]
        omega
noncomputable def sFldT (cs : List Addr) (n : Str) (fo f : F D) : FS := fun L s => (f L s).bindS L fun d s1 => (fo L s1).bindS L fun o s2 => match o with
  | .ref k => match s2[k]? with
    | some (.ins C fs vs) => if C ∈ cs ∧ fs.length < 1000 then .nx L (s2.set k (.ins C (putN n d fs vs).1 (putN n d fs vs).2)) else .bad
    | _ => .bad
  | _ => .bad
theorem pS_fld {cs : List Addr} {n : Str} {eo : Expr} {fo : F D} {p1 : Pos} (hC : ∀ C ∈ cs, Cls X.K C ∧ NoAttr X.K C n) (ho : PE X eo (tE X.K W fo)) (he : PE X e (tE X.K W f)) (hs : swapsWith e (some (.Attribute eo n p1)) pos.line X.env = pure false := by rfl) :
    PS X (.Assign [.Attribute eo n p1] e pos) (tS X.K W (sFldT cs n fo f)) := by
  refine PS.weak (ps_fld ho he hs) fun D σ H ⟨mu, s, L, m, l, p⟩ => ⟨mu, s, L, m, l, ?_⟩
  refine Post.stepS l p fun d s1 mu1 H1 v1 g1 m1 r1 p1 => ?_
  refine ⟨mu1, s1, L, m1, l.mono g1, Post.stepS (l.mono g1) p1 fun o s2 mu2 H2 v2 g2 m2 r2 p2 => ?_⟩
  cases o <;> try exact p2.elim
  rename_i k
  dsimp only at p2
  cases ek : s2[k]? with
  | none =>
    rw [ek] at p2
    exact p2.elim
  | some ob =>
    rw [ek] at p2
    cases ob <;> try exact p2.elim
    rename_i C fs ds
    dsimp only at p2
    split at p2
    · rename_i hc
      simp only [RelD] at r2
      obtain ⟨a, ea, ev⟩ := r2
      rcases m2.obj k _ ek with z | ⟨b, eb, r⟩
      · cases z
      · rw [ea] at eb
        cases eb
        obtain ⟨dx, vs, h1, h2, h3⟩ := r
        obtain ⟨vs', e1, e2, e3, e4⟩ := put_rel (n := n) (r1.mono g2) h2 h3
        refine ⟨a, C, dx, _, ev, h1, (hC C hc.1).1, (hC C hc.1).2, ?_, ?_⟩
        · rw [List.length_zip]
          omega
        · rw [e1]
          exact p2 mu2 σ _ (Ge.put ea) (m2.put ea ⟨dx, vs', upd_same, e2, e3.mono (Ge.put ea)⟩) (((l.mono g1).mono g2).mono (Ge.put ea))
    · exact p2.elim
/-- C(..): a new instance; what its __init__ has made of it stays as it is -/
noncomputable def mkD (C : Addr) (n : Nat) (G : List D → S → R D) (ds : List D) (s1 : S) : R D := if ds.length + 1 = n then (match G (.ref s1.length :: ds) (s1 ++ [.ins C [] []]) with
  | .ok d s2 => match s2[s1.length]? with
    | some (.ins C' fs vs) => if d = .non ∧ C' = C ∧ s2.take s1.length = s1 ∧ D.bels s1.length vs = true then .ok (.ins C fs vs) s1 else .bad
    | _ => .bad
  | .ex C' fs vs s2 => if s2.take s1.length = s1 ∧ D.bels s1.length vs = true then .ex C' fs vs s1 else .bad
  | .bad => .bad) else .bad
noncomputable def fMake (C : Addr) (n : Nat) (G : List D → S → R D) (fa : F (List D)) : F D := fun L s => (fa L s).bind fun ds s1 => mkD C n G ds s1
theorem run_makeS {CX : CXT} {k : Nat} {C f : Addr} {fd : FuncData} {ps : List Str} {sp : Sp} {E : XK} {pins : List (Addr × Obj)} {σ : L2.St} {H : Hp} {s : Shared} {Q : VK} {us : List Value} {vs : List V} (M : Mk X.K C f) (Fo : FnOk X.prog X.w X.K X.mg X.base CX k f fd ps sp) (hr : Room (k + 1) X.A) (hb : Binds X.K fd ps [])
    (hx : PassesAt CX X σ E) (I : Inv X pins σ H s) (r : Vals vs us)
    (hh : ∀ x dx, H x = none → H dx = none → dx ≠ x → sp (.ref x :: vs) (upd (upd H dx (.own x)) x (.ins C dx [])) (fun v H2 => v = .non ∧ Q (.ref x) H2) E) :
    wpAny (model X.prog X.w) X.A (call (.ref C) us) (EP X pins σ Q) X.xe s := by
  have q0 := hh (s.heap.objs.size + 1) s.heap.objs.size (I.hok.fresh (Nat.le_succ _)) (I.hok.fresh (Nat.le_refl _)) (Nat.ne_of_lt (Nat.lt_succ_self _))
  have J := Inv.made (C := C) I
  have rr : Vals (V.ref (s.heap.objs.size + 1) :: vs) (Value.ref (s.heap.objs.size + 1) :: us) := .cons rfl r
  have hl : (Value.ref (s.heap.objs.size + 1) :: us).length = ps.length := by
    have z := rr.length
    rw [Fo.len _ _ _ _ q0] at z
    exact z.symm
  have hb' := hb ⟨_, _, _, _, _⟩ (Value.ref (s.heap.objs.size + 1) :: us) J.kIn (by rw [List.append_nil]; exact hl)
  rw [List.append_nil] at hb'
  refine wpAny_call (make_map (f := f) I.kIn M.makes M.init (beq_iff_eq.mp M.fn) (codeAny_mono (Fo.run _ X.stack _ _ ⟨Value.ref (s.heap.objs.size + 1) :: us, []⟩ _ _ _ E (hr.make C us []) (J.env0.make C us []) hb' rr q0) fun rs s' w => ?_))
  cases rs with
  | error er => exact hx pins _ _ er s' J w
  | ok fl =>
    cases fl with
    | ret z =>
      obtain ⟨v, H', J', rv, ev, q3⟩ := J.after w
      subst ev
      exact ⟨rv, ⟨V.ref (s.heap.objs.size + 1), H', J', rfl, q3⟩⟩
    | next => exact False.elim w
    | brk => exact False.elim w
    | cont => exact False.elim w
theorem weak_make {C : Addr} {n : Nat} {G : List D → S → R D} {ds : List D} {vs : List V} {s1 : S} {mu1 : Mu} {H1 : Hp} {σ : L2.St} {Q : VK} (m1 : Sim X.K mu1 s1 H1) (r1 : RelDs X.K mu1 H1 ds vs) (p1 : Post X.K W (RelD X.K) σ mu1 H1 Q (mkD C n G ds s1)) :
    ∀ x dx, H1 x = none → H1 dx = none → dx ≠ x → spI X.K n G (.ref x :: vs) (upd (upd H1 dx (.own x)) x (.ins C dx [])) (fun v H2 => v = .non ∧ Q (.ref x) H2) (WE W σ) := by
  intro x dx hx hd hne
  unfold mkD at p1
  split at p1
  · rename_i hn
    have hx1 : (upd H1 dx (.own x)) x = none := by rw [upd_ne (Ne.symm hne)]; exact hx
    have ma := m1.pure (u := .own x) hd
    have ga := Ge.pure (u := .own x) m1 hd
    have gb := Ge.track (u := .ins C dx []) ma hx1
    have mb : Sim X.K (mu1 ++ [some x]) (s1 ++ [.ins C [] []]) (upd (upd H1 dx (.own x)) x (.ins C dx [])) := ma.track hx1 ⟨dx, [], upd_same, rfl, .nil⟩
    have g0 := ga.trans gb
    have hlast : (mu1 ++ [some x])[s1.length]? = some (some x) := by
      rw [← m1.len, List.getElem?_append_right (Nat.le_refl _), Nat.sub_self]
      rfl
    refine ⟨_, _, .ref s1.length :: ds, mb, .cons (by simp only [RelD]; exact ⟨x, hlast, rfl⟩) (r1.mono g0), by rw [List.length_cons]; exact hn, ?_⟩
    have back : ∀ {mu2 : Mu} {s2 : S} {H2 : Hp}, Ge (mu1 ++ [some x]) (upd (upd H1 dx (.own x)) x (.ins C dx [])) mu2 H2 → Sim X.K mu2 s2 H2 → s2.take s1.length = s1 → Ge mu1 H1 (mu2.take s1.length) H2 ∧ Sim X.K (mu2.take s1.length) s1 H2 := fun {mu2 s2 H2} g2 m2 e => by
      refine ⟨?_, ?_⟩
      · have z := (g0.trans g2).back
        rw [m1.len] at z
        exact z
      · have z := m2.back (n := s1.length) (by rw [e]; exact fun o ho => m1.below ho)
        rw [e] at z
        exact z
    cases eg : G (.ref s1.length :: ds) (s1 ++ [.ins C [] []]) with
    | bad =>
      rw [eg] at p1
      exact p1.elim
    | ex C' fs ws s2 =>
      rw [eg] at p1
      dsimp only at p1
      split at p1
      · rename_i hc
        intro mu2 H2 od g2 m2 x2
        obtain ⟨g3, m3⟩ := back g2 m2 hc.1
        refine p1 _ H2 od g3 m3 ?_
        rcases x2 with x2 | ⟨d2, vs2, e2, h2, n2, l2, rr2⟩
        · exact .inl x2
        · exact .inr ⟨d2, vs2, e2, h2, not_live_take n2, l2, rr2.cut _ _ hc.2⟩
      · exact p1.elim
    | ok d s2 =>
      rw [eg] at p1
      dsimp only at p1
      cases e2 : s2[s1.length]? with
      | none =>
        rw [e2] at p1
        exact p1.elim
      | some ob =>
        rw [e2] at p1
        cases ob <;> try exact p1.elim
        rename_i C' fs ws
        dsimp only at p1
        split at p1
        · rename_i hc
          obtain ⟨hd0, hC', ht, hbl⟩ := hc
          subst hd0 hC'
          intro mu2 H2 v g2 m2 r2
          obtain ⟨g3, m3⟩ := back g2 m2 ht
          refine ⟨rel_non.mp r2, p1 _ H2 _ g3 m3 ?_⟩
          have hx2 := g2.rf s1.length x hlast
          rcases m2.obj s1.length _ e2 with z | ⟨b, eb, r⟩
          · cases z
          · rw [hx2] at eb
            cases eb
            obtain ⟨dx2, vs2, h1, h2, h3⟩ := r
            simp only [RelD]
            refine ⟨x, dx2, vs2, rfl, h1, fun z => ?_, h2, h3.cut _ _ hbl⟩
            obtain ⟨i, ei⟩ := live_iff.mp z
            rw [List.getElem?_take] at ei
            split at ei
            · rename_i hi
              have := m2.inj i s1.length x ei hx2
              omega
            · cases ei
        · exact p1.elim
  · exact p1.elim
theorem pE_make {x : Str} {p : Pos} {k n : Nat} {C fA : Addr} {fd : FuncData} {ps : List Str} {G : List D → S → R D} (M : Mk X.K C fA) (Fo : FnOk X.prog X.w X.K X.mg X.base (L2.CX X.prog X.w) k fA fd ps (spI X.K n G)) (hr : Room (k + 1) X.A) (hm : X.mg x = some (.ref C)) (hb : Binds X.K fd ps []) (tk : Takes X W)
    (ha : PA X (e :: es) (tA X.K W fa)) (hg : Gl X x := by rfl) (hdb : (x == ("__debug__" : Str)) = false := by decide) (he : starEach (e :: es) X.env = (false, eval e X.env) :: starEach es X.env := by rfl) (hpl : (backTo pos (starEach es X.env)).any (·.1) = false := by rfl) :
    PE X (.Call (.Name x p) (e :: es) [] pos) (tE X.K W (fMake C n G fa)) := by
  refine ⟨fun pins s σ H Q I hq => ?_⟩
  obtain ⟨mu, s', L, m, l, q⟩ := hq
  refine wpAny_Call_Name_kw (ld_glob I hg hm ?_ hdb)
  refine PySem.W.callWith_K (h₀ := X.base) I.ok.mod.kin M.kp (thn (ha.run pos pins s σ H _ I ⟨mu, s', L, m, l, Post.step q fun ds s1 mu1 H1 vs g1 m1 r1 p1 => weak_make m1 r1 p1⟩) fun us s1 ⟨vs, H1, I1, r, w⟩ => ⟨I1.kIn, ?_⟩) he hpl
  exact run_makeS M Fo hr hb (passAt tk σ) I1 r w
/-- .. the class in a name of the def -/
noncomputable def fMakeL (i : Nat) (C : Addr) (n : Nat) (G : List D → S → R D) (fa : F (List D)) : F D := fun L s => match L[i]? with
  | some (some (.gl C')) => if C' = C then fMake C n G fa L s else .bad
  | _ => .bad
end
end SI

/-! the class of an exception object, with or without fields -/
namespace PySem.W
open PySem PySem.Spec PySem.Calls PyProof.Rows
section
variable {prog : Program} {w : World} {A : Around} {E : Value → Shared → Prop} {s : Shared} {K : Frag} {x D : Addr} {ox : Obj} {od : Option Obj}
theorem clsX_found (T : L2.ExcC K D) : findObj K D od "__class__" = some (.bind (.builtin "getset_descriptor.__get__") (.builtin "object.__class__")) := by
  have hc : (clsIn K D).isSome = true := by
    obtain ⟨cd, hc, _⟩ := any_some T.hd
    rw [hc]
    rfl
  cases od with
  | none => exact findObj_dataN hc T.ha T.hn T.ht
  | some o => exact findObj_data hc T.ha T.hn T.ht
theorem clsX_ask (T : L2.ExcC K D) {Q : Option Value → Shared → Prop} (X : K.In s.heap) (I : InstAt s.heap x ox D od) (h : Q (some (.ref D)) { s with toks := s.toks + 1 }) : wpAny (model prog w) A (getAttr? (.ref x) "__class__") Q E s := by
  obtain ⟨hp, g, d, t, os⟩ := s
  have L0 := I.type (M := model prog w)
  have L1 := looks_findIn (M := model prog w) X T.hg
  have L2 := looks_findIn (M := model prog w) X T.hk
  have L3 := looks_find (M := model prog w) X I (clsX_found T)
  have sub : Looks (model prog w) hp (isInstance (.ref x) (.type "BaseException")) true := L0.andThen (looks_subIn X T.hs)
  have hx0 : (false && onTheHeap (Value.builtin "BaseException.__getattribute__")) = false := rfl
  have hx1 : (onTheHeap (Value.ref D) && Value.builtin "BaseException.__getattribute__" == Value.builtin "object.__getattribute__") = false := by
    rw [show (Value.builtin "BaseException.__getattribute__" == Value.builtin "object.__getattribute__") = false by decide +kernel]
    rfl
  unfold getAttr? getAttrBy? getAttrBy
  refine wpAny_bind (wpAny_mkText (wpAny_bind (wpAny_attempt (wpAny_holding (wpAny_bind (L0.at (wpAny_bind (L1.at ?_))))))))
  show wpAny _ _ (if (onTheHeap (Value.ref D) && Value.builtin "BaseException.__getattribute__" == Value.builtin "object.__getattribute__") = true then _ else _) _ _ _
  rw [hx1, if_neg Bool.false_ne_true]
  unfold getAttrByItsOwn hookBefore
  refine wpAny_bind ?_
  rw [if_pos (show onTheHeap (Value.ref D) = true from rfl)]
  refine L2.at ?_
  refine wpAny_bind (wpAny_attempt (wpAny_holding ?_))
  unfold callGetattribute
  rw [hx0, if_neg Bool.false_ne_true]
  unfold boundAndCalled
  rw [PySem.F.excAttr_ValueError.ga.bind (.ref x)]
  refine wpAny_bind (wpAny_pure ?_)
  show wpAny _ _ (call (.builtin "BaseException.__getattribute__") [.ref x, .str "__class__" t]) _ _ _
  refine wpAny_call (codeAny_call_builtin PySem.F.excAttr_ValueError.ga.plain PySem.F.entry_bexc_ga ?_)
  refine @check_slot (model prog w) _ _ ⟨hp, g, d, t + 1, os⟩ "BaseException.__getattribute__" "BaseException" "__getattribute__" (.ref x) [.str "__class__" t] [] _ (by decide +kernel) (by decide +kernel) sub (PySem.F.args_bexc_ga (.ref x) (.str "__class__" t)) ?_
  unfold Builtin.«object.__getattribute__»
  refine wpAny_bind (wpAny_of_eq (a := ((Value.ref x : Value), [Value.str "__class__" t])) (by first | rfl | (simp only [slotArgs]; rfl)) ?_)
  refine wpAny_bind (wpAny_pure (wpAny_bind (L0.at (wpAny_bind (L3.at ?_)))))
  show wpAny _ _ (holding [Value.builtin "object.__class__"] (call (.builtin "getset_descriptor.__get__") [.builtin "object.__class__", .ref x, .ref D]) >>= ret) _ _ _
  refine wpAny_bind (wpAny_holding (wpAny_call (class_get (s := ⟨hp, g, d, t + 1, os⟩) (ox := ox) (od := od) X I T.hm ?_)))
  refine wpAny_pure ?_
  show wpAny _ _ (handedOut (.ref D)) _ _ _
  rw [handedOut_of (v := .ref D) rfl]
  first
    | exact wpAny_pure (wpAny_pure h)
    | exact wpAny_pure h
    | exact wpAny_pure (wpAny_bind (wpAny_pure (wpAny_pure h)))
theorem clsX_kit (T : L2.ExcC K D) : KitX K (.ref x) (.ref D) (fun h => ∃ od, InstAt h x ox D od) where
  ty := fun _ _ _ ⟨_, I⟩ => I.type
  it := fun _ _ X _ => by
    obtain ⟨cd, hc, _⟩ := any_some T.hd
    unfold clsIn at hc
    split at hc
    · rename_i ho
      intro A' Q' E' s' k q
      unfold isType loadHead
      exact wpAny_bind (wpAny_loadPart (k _ _ (X _ _ ho)) (wpAny_pure q))
    · cases hc
  ne := (handS_kitx_exc (x := x) (ox := ox) T.hg T.hk T.hs T.hd T.ha T.hn T.ht T.hm).ne
  ca := fun X ⟨_, I⟩ k => clsX_ask T X I k
end
end PySem.W

namespace SI
open PySem PySem.Spec PyProof.Rows L2
section
variable {X : Cx} {W : WX} {a b c e : Expr} {f g h : F D} {t : F Bool} {fa : F (List D)} {es : List Expr} {pos : Pos} {st : Stmt} {sts : List Stmt} {u v : FS}
/-! ### types -/
noncomputable def tyD (s : S) : D → Option String
  | .non => some "NoneType"
  | .bl _ => some "bool"
  | .int _ => some "int"
  | .str _ => some "str"
  | .tup _ => some "tuple"
  | .lst _ => some "list"
  | .rdl _ => some "list"
  | .dk _ _ => some "dict"
  | .ref n => match s[n]? with
    | some (.lst _) => some "list"
    | some (.dk _ _) => some "dict"
    | _ => none
  | _ => none
theorem ty_of {K : PySem.W.Frag} {mu : Mu} {s : S} {H : Hp} {d : D} {v : V} {n : String} (m : Sim K mu s H) (r : RelD K mu H d v) (e : tyD s d = some n) : TyX K H v (.type n) := by
  cases d <;> simp only [tyD] at e <;> try cases e
  · rw [rel_non.mp r]; exact .base .non
  · rw [rel_bl.mp r]; exact .base (.bl _)
  · rw [rel_int.mp r]; exact .base (.int _)
  · rw [rel_str.mp r]; exact .base (.str _)
  · rename_i k
    simp only [RelD] at r
    obtain ⟨a, ea, rfl⟩ := r
    cases ek : s[k]? with
    | none =>
      rw [ek] at e
      cases e
    | some o =>
      rw [ek] at e
      rcases m.obj k _ ek with z | ⟨b, eb, ro⟩
      · subst z
        cases e
      · rw [ea] at eb
        cases eb
        cases o <;> cases e
        · obtain ⟨vs, h1, _⟩ := ro
          exact .base (.lst h1)
        · obtain ⟨vs, h1, _⟩ := ro
          exact .base (.dK h1)
  · simp only [RelD] at r
    obtain ⟨a, vs, rfl, h1, _⟩ := r
    rcases h1 with ⟨o, _, _, h1, h2, _⟩ | h1
    · exact .kTuple h1 h2
    · exact .base (.tup h1.1)
  · simp only [RelD] at r
    obtain ⟨a, vs, rfl, h1, _⟩ := r
    exact .base (.lst h1.1)
  · simp only [RelD] at r
    obtain ⟨a, vs, rfl, h1, _⟩ := r
    rcases h1 with ⟨o, _, _, h1, h2, _⟩ | ⟨h1 | ⟨o, h1⟩, _⟩
    · exact .kList h1 h2
    · exact .base (.lst h1)
    · exact .base (.frz h1)
  · simp only [RelD] at r
    obtain ⟨a, vs, rfl, h1, _⟩ := r
    exact .base (.dK h1.1)
theorem tyD_mem {s : S} {d : D} {n : String} (e : tyD s d = some n) : n ∈ tyNames := by
  cases d <;> simp only [tyD] at e <;> try cases e
  case ref k =>
    split at e <;> first | (cases e; decide) | cases e
  all_goals decide
noncomputable def nyB (K : PySem.W.Frag) (C : Addr) : Bool := tyNames.all fun n => PySem.W.kitOne K (.ref C) (.type n) == some false
noncomputable def ynB (K : PySem.W.Frag) (C : Addr) : Bool := tyNames.all fun n => PySem.W.kitOne K (.type n) (.ref C) == some false
noncomputable def nfB (K : PySem.W.Frag) (C : Addr) : Bool := tyNames.all fun n => PySem.W.notFirst K C (.type n)
/-- what the text says of an own class -/
structure InsTxt (K : PySem.W.Frag) (C : Addr) : Prop where
  cl : Cls K C
  ha : PySem.W.findIn K (.ref C) "__class__" = some (some (.builtin "object.__class__"))
  hn : PySem.W.specialIn K (.builtin "object.__class__") "__get__" = some (some (.builtin "getset_descriptor.__get__"))
  htk : PySem.W.takesIn K (.builtin "object.__class__") = some true
  hm : PySem.W.mroIn K C (.type "object") = some true
  noty : nyB K C = true
  tyno : ynB K C = true
  nf : nfB K C = true
theorem ty_ins {K : PySem.W.Frag} {mu : Mu} {s : S} {H : Hp} {d : D} {v : V} {C : Addr} {fs : List Str} {ds : List D} (T : InsTxt K C) (m : Sim K mu s H) (r : RelD K mu H d v) (e : insOf s d = some (C, fs, ds)) : TyX K H v (.ref C) := by
  obtain ⟨a, dx, vs, rfl, h1, _⟩ := ins_of m r e
  exact .base (.ins h1 T.cl T.ha T.hn T.htk T.hm)
/-- a value's type; an exception object that is not raised, too -/
inductive TyE (K : PySem.W.Frag) (H : Hp) : V → Value → Prop where
  | old {x : V} {t : Value} (h : TyX K H x t) : TyE K H x t
  | err {a C : Addr} (e : H a = some (ExO (.ref C) a)) (k : ErrK K C) : TyE K H (.ref a) (.ref C)
  | erd {a C dx : Addr} {fs : List (Str × V)} (e : H a = some (exo a C (some dx))) (ed : H dx = some (exd dx fs)) (k : ErrK K C) : TyE K H (.ref a) (.ref C)
theorem kit_ofE {pins : List (Addr × Obj)} {σ : L2.St} {H : Hp} {s : Shared} {x : V} {u t : Value} (I : Inv X pins σ H s) (rx : RelV x u) (ty : TyE X.K H x t) : ∃ P : Heap → Prop, PySem.W.KitX X.K u t P ∧ P s.heap ∧ u ≠ .builtin "__main__.__loader__#opaque" := by
  cases ty with
  | old h => exact kit_of I rx h
  | @err a C e k =>
    obtain rfl : u = Value.ref a := rx
    obtain ⟨⟨oe, vs, ho, hz, hd, _⟩, _, _⟩ := I.hok a _ e
    refine ⟨_, PySem.W.handS_kitx_exc (ox := oe) k.ex.hg k.ex.hk k.ex.hs k.ex.hd k.ex.ha k.ex.hn k.ex.ht k.ex.hm, ⟨ho, hz.1, ?_, by rw [hz.2]; trivial⟩, fun z => nomatch z⟩
    unfold PySem.W.notCls
    rw [hd] <;> rfl
  | @erd a C dx fs e ed k =>
    obtain rfl : u = Value.ref a := rx
    obtain ⟨t1, ho⟩ := exo_at I.hok e
    obtain ⟨mA, hns, rel⟩ := exd_at I.hok ed
    obtain ⟨oD, _, _, hoD, _, _⟩ := hns.count (within_of rel)
    exact ⟨_, PySem.W.clsX_kit k.ex, ⟨some oD, ho, rfl, rfl, hoD⟩, fun z => nomatch z⟩
/-- isinstance by one class, by a laid tuple, by a tuple of the written part -/
noncomputable def eIsi (K : PySem.W.Frag) : List V → Hp → VK → Prop := fun xs H Q => ∃ (x y : V) (t w : Value) (r : Bool), xs = [x, y] ∧ ClsV y w ∧ TyE K H x t ∧ PySem.W.kitOne K t w = some r ∧ Q (.bl r) H
noncomputable def eIsiT (K : PySem.W.Frag) : List V → Hp → VK → Prop := fun xs H Q => ∃ (x : V) (p : Addr) (ys : List V) (t : Value) (ws : List Value) (r : Bool), xs = [x, .ref p] ∧ H p = some (.tup ys) ∧ Paired ClsV ys ws ∧ TyE K H x t ∧ PySem.W.kitAny K t ws = some r ∧ Q (.bl r) H
noncomputable def eIsiK (K : PySem.W.Frag) : List V → Hp → VK → Prop := fun xs H Q => ∃ (x : V) (p : Addr) (od : Option Addr) (ws : List Value) (m : Nat) (ss : Array (Option Value)) (t : Value) (r : Bool), xs = [x, .ref p] ∧
  K.lookup p = some ⟨.type "tuple", od, .seq ws.toArray m, ss⟩ ∧ TyE K H x t ∧ PySem.W.kitAny K t ws = some r ∧ Q (.bl r) H
theorem call_isiE : CallR X (.builtin "isinstance") (eIsi X.K) := by
  intro pins s σ H xs us Q I rr hh
  obtain ⟨x, y, t, w, r, rfl, k, ty, e, q⟩ := hh
  obtain ⟨ux, uy, rfl, rx, ry⟩ := vals2 rr
  obtain rfl := k.eq ry
  obtain ⟨P, Z, hp, hn⟩ := kit_ofE I rx ty
  exact PySem.W.kia_one Z I.kIn hp e hn fun n => ⟨.bl r, H, I.tok n, rfl, q⟩
theorem call_isiTE : CallR X (.builtin "isinstance") (eIsiT X.K) := by
  intro pins s σ H xs us Q I rr hh
  obtain ⟨x, p, ys, t, ws, r, rfl, hT, k, ty, e, q⟩ := hh
  obtain ⟨ux, uy, rfl, rx, ry⟩ := vals2 rr
  obtain rfl : uy = Value.ref p := ry
  obtain ⟨P, Z, hp, hn⟩ := kit_ofE I rx ty
  obtain ⟨_, its, rv, ob, g1, g2, m, g3⟩ := (show ObjOk X.prog X.w H s.heap p (.tup ys) from I.hok p _ hT)
  obtain rfl := ClsV.all k rv
  obtain ⟨oc, od, dt, ss⟩ := ob
  dsimp only at g2 g3
  rw [g2, g3] at g1
  exact PySem.W.kia_tup Z I.kIn hp g1 e hn fun n => ⟨.bl r, H, I.tok n, rfl, q⟩
theorem call_isiKE : CallR X (.builtin "isinstance") (eIsiK X.K) := by
  intro pins s σ H xs us Q I rr hh
  obtain ⟨x, p, od, ws, m, ss, t, r, rfl, hk, ty, e, q⟩ := hh
  obtain ⟨ux, uy, rfl, rx, ry⟩ := vals2 rr
  obtain rfl : uy = Value.ref p := ry
  obtain ⟨P, Z, hp, hn⟩ := kit_ofE I rx ty
  exact PySem.W.kia_tup Z I.kIn hp (I.kIn _ _ hk) e hn fun n => ⟨.bl r, H, I.tok n, rfl, q⟩
/-- an exception object is of none of the built-in types asked here -/
noncomputable def errB : D → Option Bool
  | .err _ => some false
  | .erd _ _ _ => some false
  | _ => none
/-- isinstance(x, T): T a built-in class or one of the classes cs -/
noncomputable def isi1 (cs : List Addr) (s : S) (d c : D) : Option Bool := match c with
  | .ty n => if n ∈ tyNames then (match tyD s d with
    | some t => kitB t n
    | none => match insOf s d with
      | some (C, _, _) => if C ∈ cs then some false else none
      | none => errB d) else none
  | .gl C' => if C' ∈ cs then (match tyD s d with
    | some _ => some false
    | none => match insOf s d with
      | some (C, _, _) => if C = C' then some true else none
      | none => none) else none
  | _ => none
theorem isi1_ok {K : PySem.W.Frag} {mu : Mu} {s : S} {H : Hp} {cs : List Addr} {d c : D} {x y : V} {r : Bool} (hC : ∀ C ∈ cs, InsTxt K C) (m : Sim K mu s H) (rd : RelD K mu H d x) (rc : RelD K mu H c y) (e : isi1 cs s d c = some r) :
    ∃ t w, ClsV y w ∧ TyE K H x t ∧ PySem.W.kitOne K t w = some r := by
  cases c <;> simp only [isi1] at e <;> try cases e
  · rename_i n
    simp only [RelD] at rc
    subst rc
    split at e
    · rename_i hn
      cases et : tyD s d with
      | some t =>
        rw [et] at e
        exact ⟨_, _, .ty n, .old (ty_of m rd et), kit_ty e⟩
      | none =>
        rw [et] at e
        dsimp only at e
        cases ei : insOf s d with
        | none =>
          rw [ei] at e
          dsimp only at e
          cases d <;> try cases e
          · simp only [RelD] at rd
            obtain ⟨a, rfl, hf, hk⟩ := rd
            exact ⟨_, _, .ty n, .err hf.1 hk, hk.ny n hn⟩
          · simp only [RelD] at rd
            obtain ⟨a, dx, vs, rfl, hf, hfd, hk, _⟩ := rd
            exact ⟨_, _, .ty n, .erd hf.1 hfd.1 hk, hk.ny n hn⟩
        | some z =>
          obtain ⟨C, fs, ds⟩ := z
          rw [ei] at e
          dsimp only at e
          split at e
          · rename_i hc
            cases e
            refine ⟨_, _, .ty n, .old (ty_ins (hC C hc) m rd ei), ?_⟩
            have z := List.all_eq_true.mp (hC C hc).noty n hn
            exact beq_iff_eq.mp z
          · cases e
    · cases e
  · rename_i C'
    simp only [RelD] at rc
    subst rc
    split at e
    · rename_i hc
      cases et : tyD s d with
      | some t =>
        rw [et] at e
        cases e
        refine ⟨_, _, .own C', .old (ty_of m rd et), ?_⟩
        have z := List.all_eq_true.mp (hC C' hc).tyno t (tyD_mem et)
        exact beq_iff_eq.mp z
      | none =>
        rw [et] at e
        dsimp only at e
        cases ei : insOf s d with
        | none =>
          rw [ei] at e
          cases e
        | some z =>
          obtain ⟨C, fs, ds⟩ := z
          rw [ei] at e
          dsimp only at e
          split at e
          · rename_i h1
            cases e
            subst h1
            refine ⟨_, _, .own C, .old (ty_ins (hC C hc) m rd ei), ?_⟩
            unfold PySem.W.kitOne
            rw [if_pos (beq_self_eq_true _)]
          · cases e
    · cases e
noncomputable def bIsi (cs : List Addr) (s : S) : List D → Option D
  | [d, c] => (isi1 cs s d c).map .bl
  | _ => none
theorem cbl_isi {K : PySem.W.Frag} {cs : List Addr} (hC : ∀ C ∈ cs, InsTxt K C) : CbL K (eIsi K) (bIsi cs) := by
  intro mu s H ds d vs Q m r e q
  rcases ds with _ | ⟨d1, _ | ⟨d2, _ | ⟨d3, ds⟩⟩⟩
  · cases e
  · cases e
  · obtain ⟨v1, v2, rfl, r1, r2⟩ := rel2 r
    simp only [bIsi] at e
    cases ei : isi1 cs s d1 d2 with
    | none =>
      rw [ei] at e
      cases e
    | some k =>
      rw [ei] at e
      cases e
      obtain ⟨t, w, h1, h2, h3⟩ := isi1_ok hC m r1 r2 ei
      exact ⟨v1, v2, t, w, k, rfl, h1, h2, h3, q mu H _ (Ge.refl _ _) m (rel_bl.mpr rfl)⟩
  · cases e
theorem pE_isi {e2 : Expr} {p : Pos} {cs : List Addr} (hC : ∀ C ∈ cs, InsTxt X.K C) (hm : X.mg "isinstance" = none) (ha : PA X [e, e2] (tA X.K W fa)) (hg : Gl X "isinstance" := by rfl) (he : starEach [e, e2] X.env = (false, eval e X.env) :: starEach [e2] X.env := by rfl) (hpl : (backTo pos (starEach [e2] X.env)).any (·.1) = false := by rfl) :
    PE X (.Call (.Name "isinstance" p) [e, e2] [] pos) (tE X.K W (fCB (bIsi cs) fa)) :=
  pE_cb call_isiE (cbl_isi hC) hm (by decide +kernel) ha hg (by decide) (by decide) he hpl
/-- isinstance(x, (A, B)) -/
noncomputable def isiAny (cs : List Addr) (s : S) (d : D) : List D → Option Bool
  | [] => some false
  | c :: r => match isi1 cs s d c with
    | some true => some true
    | some false => isiAny cs s d r
    | none => none
noncomputable def bIsiT (cs : List Addr) (s : S) : List D → Option D
  | [d, .tup (c :: l)] => if ((c :: l).all fun c => (isi1 cs s d c).isSome) = true then (isiAny cs s d (c :: l)).map .bl else none
  | _ => none
theorem isiAny_ok {K : PySem.W.Frag} {mu : Mu} {s : S} {H : Hp} {cs : List Addr} {d : D} {x : V} {t0 : Value} (hC : ∀ C ∈ cs, InsTxt K C) (m : Sim K mu s H) (rd : RelD K mu H d x) (ht : ∀ c y w r, RelD K mu H c y → isi1 cs s d c = some r → ClsV y w → PySem.W.kitOne K t0 w = some r) :
    ∀ {l : List D} {ys : List V} {r : Bool}, RelDs K mu H l ys → (l.all fun c => (isi1 cs s d c).isSome) = true → isiAny cs s d l = some r → ∃ us, Paired ClsV ys us ∧ PySem.W.kitAny K t0 us = some r
  | [], ys, r, rl, _, e => by
    simp only [RelDs] at rl
    subst rl
    cases e
    exact ⟨[], .nil, rfl⟩
  | c :: l, ys, r, rl, ha, e => by
    simp only [RelDs] at rl
    obtain ⟨y, yr, rfl, rc, rr⟩ := rl
    simp only [List.all_cons, Bool.and_eq_true] at ha
    obtain ⟨k, ek⟩ := Option.isSome_iff_exists.mp ha.1
    obtain ⟨t, w, h1, h2, h3⟩ := isi1_ok hC m rd rc ek
    have h4 := ht c y w k rc ek h1
    unfold isiAny at e
    rw [ek] at e
    cases k with
    | true =>
      cases e
      -- the rest are classes, too
      have rest : ∀ {l : List D} {ys : List V}, RelDs K mu H l ys → (l.all fun c => (isi1 cs s d c).isSome) = true → ∃ us, Paired ClsV ys us := by
        intro l
        induction l with
        | nil =>
          intro ys rl _
          simp only [RelDs] at rl
          subst rl
          exact ⟨[], .nil⟩
        | cons c l ih =>
          intro ys rl ha
          simp only [RelDs] at rl
          obtain ⟨y, yr, rfl, rc, rr⟩ := rl
          simp only [List.all_cons, Bool.and_eq_true] at ha
          obtain ⟨k, ek⟩ := Option.isSome_iff_exists.mp ha.1
          obtain ⟨_, w, h1, _, _⟩ := isi1_ok hC m rd rc ek
          obtain ⟨us, hu⟩ := ih rr ha.2
          exact ⟨_, .cons h1 hu⟩
      obtain ⟨us, hu⟩ := rest rr ha.2
      refine ⟨_, .cons h1 hu, ?_⟩
      unfold PySem.W.kitAny
      rw [h4]
    | false =>
      dsimp only at e
      obtain ⟨us, hu, hk⟩ := isiAny_ok hC m rd ht rr ha.2 e
      refine ⟨_, .cons h1 hu, ?_⟩
      unfold PySem.W.kitAny
      rw [h4]
      exact hk
theorem isi1_ty {K : PySem.W.Frag} {mu : Mu} {s : S} {H : Hp} {cs : List Addr} {d : D} {x : V} (hC : ∀ C ∈ cs, InsTxt K C) (m : Sim K mu s H) (rd : RelD K mu H d x) {c : D} {r : Bool} (e : isi1 cs s d c = some r) :
    ∃ t0, TyE K H x t0 ∧ ∀ c y w r, RelD K mu H c y → isi1 cs s d c = some r → ClsV y w → PySem.W.kitOne K t0 w = some r := by
  have gen : ∀ t0 : Value, (∀ c y r, RelD K mu H c y → isi1 cs s d c = some r → ∃ w, ClsV y w ∧ PySem.W.kitOne K t0 w = some r) → ∀ c y w r, RelD K mu H c y → isi1 cs s d c = some r → ClsV y w → PySem.W.kitOne K t0 w = some r := fun t0 hh c y w r rc ec k => by
    obtain ⟨w', k', h⟩ := hh c y r rc ec
    have : w = w' := by
      cases k <;> cases k' <;> rfl
    rw [this]
    exact h
  cases et : tyD s d with
  | some t =>
    refine ⟨.type t, .old (ty_of m rd et), gen _ fun c y r rc ec => ?_⟩
    cases c <;> simp only [isi1, et] at ec <;> try cases ec
    · rename_i n
      simp only [RelD] at rc
      subst rc
      split at ec
      · exact ⟨_, .ty n, kit_ty ec⟩
      · cases ec
    · rename_i C'
      simp only [RelD] at rc
      subst rc
      split at ec
      · rename_i hc
        cases ec
        exact ⟨_, .own C', beq_iff_eq.mp (List.all_eq_true.mp (hC C' hc).tyno t (tyD_mem et))⟩
      · cases ec
  | none =>
    cases ei : insOf s d with
    | none =>
      cases eb : errB d with
      | none => cases c <;> simp only [isi1, et, ei, eb] at e <;> (first | cases e | (split at e <;> cases e))
      | some z =>
      cases d <;> try cases eb
      · rename_i C
        simp only [RelD] at rd
        obtain ⟨a, rfl, hf, hk⟩ := rd
        refine ⟨.ref C, .err hf.1 hk, gen _ fun c y r rc ec => ?_⟩
        cases c <;> simp only [isi1, et, ei, errB] at ec <;> try cases ec
        · rename_i n
          simp only [RelD] at rc
          subst rc
          split at ec
          · rename_i hn
            cases ec
            exact ⟨_, .ty n, hk.ny n hn⟩
          · cases ec
        · split at ec <;> cases ec
      · rename_i C fs ds
        simp only [RelD] at rd
        obtain ⟨a, dx, vs, rfl, hf, hfd, hk, _⟩ := rd
        refine ⟨.ref C, .erd hf.1 hfd.1 hk, gen _ fun c y r rc ec => ?_⟩
        cases c <;> simp only [isi1, et, ei, errB] at ec <;> try cases ec
        · rename_i n
          simp only [RelD] at rc
          subst rc
          split at ec
          · rename_i hn
            cases ec
            exact ⟨_, .ty n, hk.ny n hn⟩
          · cases ec
        · split at ec <;> cases ec
    | some z =>
      obtain ⟨C, fs, ds⟩ := z
      have hcs : C ∈ cs := by
        cases c <;> simp only [isi1, et, ei] at e <;> try cases e
        · split at e
          · split at e
            · assumption
            · cases e
          · cases e
        · split at e
          · rename_i hc
            split at e
            · rename_i hq
              rw [hq]
              exact hc
            · cases e
          · cases e
      refine ⟨.ref C, .old (ty_ins (hC C hcs) m rd ei), gen _ fun c y r rc ec => ?_⟩
      cases c <;> simp only [isi1, et, ei] at ec <;> try cases ec
      · rename_i n
        simp only [RelD] at rc
        subst rc
        split at ec
        · rename_i hn
          cases ec
          exact ⟨_, .ty n, beq_iff_eq.mp (List.all_eq_true.mp (hC C hcs).noty n hn)⟩
        · cases ec
      · rename_i C'
        simp only [RelD] at rc
        subst rc
        split at ec
        · split at ec
          · rename_i hq
            cases ec
            subst hq
            refine ⟨_, .own C, ?_⟩
            unfold PySem.W.kitOne
            rw [if_pos (beq_self_eq_true _)]
          · cases ec
        · cases ec
theorem cbl_isiT {K : PySem.W.Frag} {cs : List Addr} (hC : ∀ C ∈ cs, InsTxt K C) : CbL K (fun xs H Q => eIsiT K xs H Q ∨ eIsiK K xs H Q) (bIsiT cs) := by
  intro mu s H ds d vs Q m r e q
  rcases ds with _ | ⟨d1, _ | ⟨d2, _ | ⟨d3, ds⟩⟩⟩
  · cases e
  · cases e
  · obtain ⟨v1, v2, rfl, r1, r2⟩ := rel2 r
    cases d2 <;> try cases e
    rename_i l
    cases l with
    | nil => cases e
    | cons c l =>
      simp only [bIsiT] at e
      split at e
      · rename_i hall
        cases ea : isiAny cs s d1 (c :: l) with
        | none =>
          rw [ea] at e
          cases e
        | some k =>
          rw [ea] at e
          cases e
          simp only [RelD] at r2
          obtain ⟨tp, ws, rfl, hT, rs⟩ := r2
          have h0 := hall
          simp only [List.all_cons, Bool.and_eq_true] at h0
          obtain ⟨k0, ek0⟩ := Option.isSome_iff_exists.mp h0.1
          obtain ⟨t0, ht0, hk⟩ := isi1_ty hC m r1 ek0
          obtain ⟨us, hp, ha⟩ := isiAny_ok hC m r1 hk rs hall ea
          rcases hT with hT | hT
          · obtain ⟨o, its, n, h1, h2, h3, h4, h5⟩ := hT
            obtain ⟨oc, od, dt, sl⟩ := o
            simp only at h2 h3
            subst h2 h3
            have e3 := ClsV.all hp h5
            refine .inr ⟨v1, tp, od, us, n, sl, t0, k, rfl, ?_, ht0, ha, q mu H _ (Ge.refl _ _) m (rel_bl.mpr rfl)⟩
            rw [h1, ← e3]
          · exact .inl ⟨v1, tp, ws, t0, us, k, rfl, hT.1, hp, ht0, ha, q mu H _ (Ge.refl _ _) m (rel_bl.mpr rfl)⟩
      · cases e
  · cases d2 <;> try cases e
    rename_i l
    cases l <;> cases e
theorem pE_isiT {e2 : Expr} {p : Pos} {cs : List Addr} (hC : ∀ C ∈ cs, InsTxt X.K C) (hm : X.mg "isinstance" = none) (ha : PA X [e, e2] (tA X.K W fa)) (hg : Gl X "isinstance" := by rfl) (he : starEach [e, e2] X.env = (false, eval e X.env) :: starEach [e2] X.env := by rfl) (hpl : (backTo pos (starEach [e2] X.env)).any (·.1) = false := by rfl) :
    PE X (.Call (.Name "isinstance" p) [e, e2] [] pos) (tE X.K W (fCB (bIsiT cs) fa)) :=
  pE_cb (call_isiTE.or call_isiKE) (cbl_isiT hC) hm (by decide +kernel) ha hg (by decide) (by decide) he hpl
/-! ### own == -/
/-! ### a class method by its class -/
end
end SI

namespace SI
open PySem PySem.Spec PyProof.Rows L2
section
variable {X : Cx} {W : WX} {a b c e : Expr} {f g h : F D} {t : F Bool} {fa : F (List D)} {es : List Expr} {pos : Pos} {st : Stmt} {sts : List Stmt} {u v : FS}
/-! ### [elt for target in iter if ..] -/
noncomputable def wipeD (L : Lc) : List Nat → Lc
  | [] => L
  | v :: vs => (wipeD L vs).set v none
theorem wipe_lr {K : PySem.W.Frag} {mu : Mu} {H : Hp} {L : Lc} {σ : L2.St} (l : LR K mu H L σ) : ∀ vs : List Nat, LR K mu H (wipeD L vs) (wipe σ vs)
  | [] => l
  | v :: vs => (wipe_lr l vs).del v
noncomputable def noW : WX := fun _ _ _ _ => False
/-- one clause; the list that grows is the n-th tracked object -/
noncomputable def lcL (q : Tg) (t : F Bool) (f : F D) (r : Src) (L0 : Lc) (n : Nat) : List D → S → R Unit
  | [], s => if chk r s = true then .ok () s else .bad
  | d :: ds, s => if chk r s = true then (match q d L0 with
    | none => .bad
    | some L1 => (t L1 s).bind fun b s1 => if b = true then ((f L1 s1).bind fun y s2 => match s2[n]? with
      | some (.lst acc) => if acc.length < big then lcL q t f r L0 n ds (s2.set n (.lst (acc ++ [y]))) else .bad
      | _ => .bad) else lcL q t f r L0 n ds s1) else .bad
noncomputable def fLc (fi : F Src) (q : Tg) (t : F Bool) (f : F D) (vs : List Nat) : F D := fun L s => (fi L s).bind fun r s1 => match lcL q t f r (wipeD L vs) s1.length r.items (s1 ++ [.lst []]) with
  | .ok _ s2 => match s2[s1.length]? with
    | some (.lst ys) => if (s2.take s1.length).all (O.bel s1.length) = true ∧ D.bels s1.length ys = true then .ok (.lst ys) (s2.take s1.length) else .bad
    | _ => .bad
  | _ => .bad
noncomputable def fYes : F Bool := fun _ s => .ok true s
theorem weak_lc {fi : F Src} {q : Tg} {gt : TG} {tt : TT} {te : TE} {vs : List Nat} {σ : L2.St} {H : Hp} {Q : VK}
    (hg : ∀ v σ H (Q : L2.St → Hp → Prop), tG X.K q v (wipe σ vs) H Q → gt v (wipe σ vs) H fun σ2 H2 => wipe σ2 vs = wipe σ vs ∧ Q σ2 H2)
    (ht : ∀ σ H Q, tT X.K noW t σ H Q → tt σ H Q) (he : ∀ σ H Q, tE X.K noW f σ H Q → te σ H Q)
    (hq : tE X.K W (fLc fi q t f vs) σ H Q) : tLc (tI X.K W fi) gt tt te vs σ H Q := by
  obtain ⟨mu, s, L, m, l, p⟩ := hq
  refine ⟨mu, s, L, m, l, Post.step p fun r s1 mu1 H1 J g1 m1 ir p1 => ?_⟩
  intro Dl hD
  have l1 := l.mono g1
  cases eL : lcL q t f r (wipeD L vs) s1.length r.items (s1 ++ [.lst []]) with
  | ex C fs ds s2 =>
    rw [eL] at p1
    exact p1.elim
  | bad =>
    rw [eL] at p1
    exact p1.elim
  | ok uu sF =>
    rw [eL] at p1
    dsimp only at p1
    cases eY : sF[s1.length]? with
    | none =>
      rw [eY] at p1
      exact p1.elim
    | some ob =>
      rw [eY] at p1
      cases ob <;> try exact p1.elim
      rename_i ysF
      dsimp only at p1
      split at p1
      · rename_i hb
        have gT := Ge.track (u := .lst []) m1 hD
        have mT : Sim X.K (mu1 ++ [some Dl]) (s1 ++ [.lst []]) (upd H1 Dl (.lst [])) := m1.track hD ⟨[], upd_same, .nil⟩
        have hlast : (mu1 ++ [some Dl])[s1.length]? = some (some Dl) := by
          rw [← m1.len, List.getElem?_append_right (Nat.le_refl _), Nat.sub_self]
          rfl
        refine ⟨fun i n H' => n = r.items.length - i ∧ i ≤ r.items.length ∧ ∃ mu' s', Ge (mu1 ++ [some Dl]) (upd H1 Dl (.lst [])) mu' H' ∧ Sim X.K mu' s' H' ∧ lcL q t f r (wipeD L vs) s1.length (r.items.drop i) s' = .ok uu sF,
          ⟨_, rfl, Nat.zero_le _, _, _, Ge.refl _ _, mT, eL⟩, ?_⟩
        rintro i n H' ⟨rfl, hi, mu', s', g', m', p'⟩
        by_cases hlt : i < r.items.length
        · have hd : r.items.drop i = r.items[i] :: r.items.drop (i + 1) := List.drop_eq_getElem_cons hlt
          rw [hd] at p'
          unfold lcL at p'
          by_cases hk : chk r s' = true
          · rw [if_pos hk] at p'
            have hir := (ir mu' s' H' (gT.trans g') m' hk i).1 _ (List.getElem?_eq_getElem hlt)
            refine .inr ⟨hir.1, fun H2 => ∃ mu2 s2, Ge (mu1 ++ [some Dl]) (upd H1 Dl (.lst [])) mu2 H2 ∧ Sim X.K mu2 s2 H2 ∧ lcL q t f r (wipeD L vs) s1.length (r.items.drop (i + 1)) s2 = .ok uu sF,
              fun H2 n2 => ⟨_, ?_, rfl, hlt, n2⟩, fun x H2 hy => ?_⟩
            · omega
            · obtain ⟨g2, m2, r2⟩ := hir.2 x H2 hy
              cases eq : q r.items[i] (wipeD L vs) with
              | none =>
                rw [eq] at p'
                cases p'
              | some L1 =>
                rw [eq] at p'
                dsimp only at p'
                refine hg x σ H2 _ ⟨mu', s', wipeD L vs, _, L1, m2, wipe_lr (((l1.mono gT).mono g').mono g2) vs, r2, eq, fun σ2 l2 => ?_⟩
                refine ht σ2 H2 _ ⟨mu', s', L1, m2, l2, ?_⟩
                cases et : t L1 s' with
                | bad =>
                  rw [et] at p'
                  cases p'
                | ex C fs ds s3 =>
                  rw [et] at p'
                  cases p'
                | ok bb s3 =>
                  rw [et] at p'
                  simp only [R.bind] at p'
                  intro mu3 H3 b3 g3 m3 e3
                  subst e3
                  cases bb with
                  | false =>
                    rw [if_neg Bool.false_ne_true]
                    rw [if_neg Bool.false_ne_true] at p'
                    exact ⟨mu3, s3, (g'.trans g2).trans g3, m3, p'⟩
                  | true =>
                    rw [if_pos rfl]
                    rw [if_pos rfl] at p'
                    refine he σ2 H3 _ ⟨mu3, s3, L1, m3, l2.mono g3, ?_⟩
                    cases ef : f L1 s3 with
                    | bad =>
                      rw [ef] at p'
                      cases p'
                    | ex C fs ds s4 =>
                      rw [ef] at p'
                      cases p'
                    | ok y s4 =>
                      rw [ef] at p'
                      simp only [R.bind] at p'
                      intro mu4 H4 vy g4 m4 ry
                      cases e4 : s4[s1.length]? with
                      | none =>
                        rw [e4] at p'
                        cases p'
                      | some ob =>
                        rw [e4] at p'
                        cases ob <;> try cases p'
                        rename_i acc
                        dsimp only at p'
                        split at p'
                        · rename_i hbig
                          have gA := ((g'.trans g2).trans g3).trans g4
                          have hDl := gA.rf s1.length Dl hlast
                          obtain ⟨b, vacc, e1, e2, e3, rs⟩ := sq_ref (v := .ref Dl) m4 (by simp only [RelD]; exact ⟨Dl, hDl, rfl⟩) e4
                          cases e1
                          refine ⟨vacc, e3, ?_, mu4, _, gA.trans (Ge.put hDl), m4.put (o := .lst (acc ++ [y])) hDl ⟨_, upd_same, (rs.append (.cons ry .nil)).mono (Ge.put hDl)⟩, p'⟩
                          rw [← rs.length, sizeLine_eq]
                          unfold big at hbig
                          omega
                        · cases p'
          · rw [if_neg hk] at p'
            cases p'
        · have hd : r.items.drop i = [] := List.drop_eq_nil_of_le (by omega)
          rw [hd] at p'
          unfold lcL at p'
          by_cases hk : chk r s' = true
          · rw [if_pos hk] at p'
            cases p'
            refine .inl ⟨(ir mu' _ H' (gT.trans g') m' hk i).2 (List.getElem?_eq_none (by omega)), ?_⟩
            have hDl := g'.rf s1.length Dl hlast
            obtain ⟨b, vacc, e1, e2, e3, rs⟩ := sq_ref (v := .ref Dl) m' (by simp only [RelD]; exact ⟨Dl, hDl, rfl⟩) eY
            cases e1
            have gB : Ge mu1 H1 (mu'.take s1.length) H' := by
              have z := (gT.trans g').back
              rw [m1.len] at z
              exact z
            refine p1 (mu'.take s1.length) H' _ gB (m'.back fun o ho => List.all_eq_true.mp hb.1 o ho) ?_
            simp only [RelD]
            refine ⟨Dl, vacc, rfl, ⟨e3, fun z => ?_⟩, rs.cut _ _ hb.2⟩
            obtain ⟨j, ej⟩ := live_iff.mp z
            rw [List.getElem?_take] at ej
            split at ej
            · have := m'.inj j s1.length Dl ej hDl
              omega
            · cases ej
          · rw [if_neg hk] at p'
            cases p'
      · exact p1.elim
/-- targets in a comprehension: they change their own places alone -/
theorem wipe_set {σ : L2.St} {vs : List Nat} {i : Nat} {x : Option V} (h : i ∈ vs) : wipe (σ.set i x) vs = wipe σ vs := by
  apply List.ext_getElem?
  intro j
  have key : ∀ (vs : List Nat) (τ : L2.St), (wipe τ vs)[j]? = if j ∈ vs ∧ j < τ.length then some none else τ[j]? := by
    intro vs
    induction vs with
    | nil => intro τ; simp [wipe]
    | cons v vs ih =>
      intro τ
      unfold wipe
      by_cases hj : v = j
      · subst hj
        by_cases hl : v < τ.length
        · rw [List.getElem?_set_self (by rw [wipe_length]; exact hl), if_pos ⟨List.mem_cons_self, hl⟩]
        · rw [if_neg (fun z => hl z.2), List.getElem?_eq_none (by rw [List.length_set, wipe_length]; omega), List.getElem?_eq_none (by omega)]
      · rw [List.getElem?_set_ne hj, ih]
        have : (j ∈ v :: vs) ↔ j ∈ vs := by
          rw [List.mem_cons]
          exact ⟨fun z => z.elim (fun e => absurd e.symm hj) id, .inr⟩
        simp only [this]
  rw [key, key, List.length_set]
  by_cases hj : j ∈ vs ∧ j < σ.length
  · rw [if_pos hj, if_pos hj]
  · rw [if_neg hj, if_neg hj]
    by_cases hij : i = j
    · subst hij
      have hl : ¬ i < σ.length := fun z => hj ⟨h, z⟩
      rw [List.getElem?_eq_none (by rw [List.length_set]; omega), List.getElem?_eq_none (by omega)]
    · rw [List.getElem?_set_ne hij]
theorem wipe_wipe {σ : L2.St} : ∀ {vs : List Nat}, wipe (wipe σ vs) vs = wipe σ vs := fun {vs} => by
  apply List.ext_getElem?
  intro j
  have key : ∀ (vs : List Nat) (τ : L2.St), (wipe τ vs)[j]? = if j ∈ vs ∧ j < τ.length then some none else τ[j]? := by
    intro vs
    induction vs with
    | nil => intro τ; simp [wipe]
    | cons v vs ih =>
      intro τ
      unfold wipe
      by_cases hj : v = j
      · subst hj
        by_cases hl : v < τ.length
        · rw [List.getElem?_set_self (by rw [wipe_length]; exact hl), if_pos ⟨List.mem_cons_self, hl⟩]
        · rw [if_neg (fun z => hl z.2), List.getElem?_eq_none (by rw [List.length_set, wipe_length]; omega), List.getElem?_eq_none (by omega)]
      · rw [List.getElem?_set_ne hj, ih]
        have : (j ∈ v :: vs) ↔ j ∈ vs := by
          rw [List.mem_cons]
          exact ⟨fun z => z.elim (fun e => absurd e.symm hj) id, .inr⟩
        simp only [this]
  rw [key, key, wipe_length]
  by_cases hj : j ∈ vs ∧ j < σ.length
  · rw [if_pos hj, if_pos hj]
  · rw [if_neg hj, if_neg hj]
/-- which places a target fills -/
noncomputable def KG (K : PySem.W.Frag) (q : Tg) (gt : TG) (vs : List Nat) : Prop := ∀ v σ H (Q : L2.St → Hp → Prop), tG K q v σ H Q → gt v σ H fun σ2 H2 => wipe σ2 vs = wipe σ vs ∧ Q σ2 H2
theorem kg_name {K : PySem.W.Frag} {i : Nat} {vs : List Nat} (h : i ∈ vs) : KG K (gN i) (gName i) vs := fun v σ H Q ⟨mu, s, L, d, L', m, l, r, e, q⟩ => by
  cases e
  exact ⟨wipe_set h, q _ (l.set i r)⟩
theorem mon_name {i : Nat} : ∀ v σ H (Q Q' : L2.St → Hp → Prop), (∀ σ H, Q σ H → Q' σ H) → gName i v σ H Q → gName i v σ H Q' := fun _ _ _ _ _ h q => h _ _ q
theorem kg_wipe {K : PySem.W.Frag} {q : Tg} {gt : TG} {vs : List Nat} (h : KG K q gt vs) (mon : ∀ v σ H (Q Q' : L2.St → Hp → Prop), (∀ σ H, Q σ H → Q' σ H) → gt v σ H Q → gt v σ H Q') :
    ∀ v σ H (Q : L2.St → Hp → Prop), tG K q v (wipe σ vs) H Q → gt v (wipe σ vs) H fun σ2 H2 => wipe σ2 vs = wipe σ vs ∧ Q σ2 H2 := fun v σ H Q hq =>
  mon _ _ _ _ _ (fun σ2 H2 z => ⟨z.1.trans wipe_wipe, z.2⟩) (h v (wipe σ vs) H Q hq)
theorem pTs_nil {Y : Cx} : PTs Y [] (tT Y.K noW fYes) := ⟨fun pins s σ H Q I hq => pts_nil.run pins s σ H Q I (by
  obtain ⟨mu, s', L, m, l, p⟩ := hq
  exact p mu H _ (Ge.refl _ _) m rfl)⟩
theorem tk0 {Y : Cx} : Takes Y noW := takes0
/-- [elt for target in iter if ..], as a value -/
theorem pE_lc {elt tg iter : Expr} {ifs : List Expr} {scope : Scope} {own : List (Str × Nat)} {fi : F Src} {q : Tg} {gt : TG} {vs : List Nat} (hc : X.calm = true) (hN : X.N.Nodup) (hi : PI X tg iter (tI X.K W fi)) (ok : BlkOk X.N X.env.scope scope own)
    (hk : KG X.K q gt vs) (mon : ∀ v σ H (Q Q' : L2.St → Hp → Prop), (∀ σ H, Q σ H → Q' σ H) → gt v σ H Q → gt v σ H Q')
    (hg : ∀ (s : Shared) (H : Hp) (C : Addr) (cl : List (Str × Addr)) (fp : List Addr), PG (X.blk s H scope (compEnvC scope cl C X.env) fp) tg gt) (ht : ∀ (s : Shared) (H : Hp) (C : Addr) (cl : List (Str × Addr)) (fp : List Addr), PTs (X.blk s H scope (compEnvC scope cl C X.env) fp) ifs (tT X.K noW t))
    (he : ∀ (s : Shared) (H : Hp) (C : Addr) (cl : List (Str × Addr)) (fp : List Addr), PE (X.blk s H scope (compEnvC scope cl C X.env) fp) elt (tE X.K noW f)) (hs : ∀ x, foldedSetIterable iter X.env x = pure x := by intro _; rfl) (hvs : own.map (·.2) = vs := by rfl) :
    PE X (.ListComp elt [⟨tg, iter, ifs, 0⟩] scope pos) (tE X.K W (fLc fi q t f vs)) :=
  PE.weak (pe_lc hc hN hi ok hg ht he hs) fun σ H Q hq => by
    rw [hvs]
    exact weak_lc (kg_wipe hk mon) (fun _ _ _ z => z) (fun _ _ _ z => z) hq
/-- y = [elt for ..] -/
theorem pS_setLc {i : Nat} {y : Str} {py spos : Pos} {elt tg iter : Expr} {ifs : List Expr} {scope : Scope} {own : List (Str × Nat)} {fi : F Src} {q : Tg} {gt : TG} {vs : List Nat} (hc : X.calm = true) (hN : X.N.Nodup)
    (hsw : swapsWith (.ListComp elt [⟨tg, iter, ifs, 0⟩] scope pos) (some (.Name y py)) spos.line X.env = pure true) (hi : PI X tg iter (tI X.K W fi)) (ok : BlkOk X.N X.env.scope scope own)
    (hk : KG X.K q gt vs) (mon : ∀ v σ H (Q Q' : L2.St → Hp → Prop), (∀ σ H, Q σ H → Q' σ H) → gt v σ H Q → gt v σ H Q')
    (hg : ∀ (s : Shared) (H : Hp) (C : Addr) (cl : List (Str × Addr)) (fp : List Addr), PG (X.blk s H scope (compEnvC scope cl C X.env) fp) tg gt) (ht : ∀ (s : Shared) (H : Hp) (C : Addr) (cl : List (Str × Addr)) (fp : List Addr), PTs (X.blk s H scope (compEnvC scope cl C X.env) fp) ifs (tT X.K noW t))
    (he : ∀ (s : Shared) (H : Hp) (C : Addr) (cl : List (Str × Addr)) (fp : List Addr), PE (X.blk s H scope (compEnvC scope cl C X.env) fp) elt (tE X.K noW f)) (hy : X.N[i]? = some y := by rfl) (hyl : X.env.scope.names.lookup y = some .local := by rfl) (hs : ∀ x, foldedSetIterable iter X.env x = pure x := by intro _; rfl) (hvs : own.map (·.2) = vs := by rfl) :
    PS X (.Assign [.Name y py] (.ListComp elt [⟨tg, iter, ifs, 0⟩] scope pos) spos) (tS X.K W (sAsg i (fLc fi q t f vs))) := by
  refine PS.weak (ps_setLc hc hN hy hyl hsw hi ok hg ht he hs) fun D σ H ⟨mu, s, L, m, l, p⟩ => ?_
  show tLc _ _ _ _ (own.map (·.2)) σ H _
  rw [hvs]
  refine weak_lc (kg_wipe hk mon) (fun _ _ _ z => z) (fun _ _ _ z => z) ⟨mu, s, L, m, l, Post.stepS l p fun d s1 mu1 H1 v1 g1 m1 r1 p1 => ?_⟩
  exact p1 mu1 _ H1 (Ge.refl _ _) m1 ((l.mono g1).set i r1)
end
end SI

namespace SI
open PySem PySem.Spec PyProof.Rows L2
section
variable {X : Cx} {W : WX} {a b c e : Expr} {f g h : F D} {t : F Bool} {fa : F (List D)} {es : List Expr} {pos : Pos} {st : Stmt} {sts : List Stmt} {u v : FS}
/-! ### + of every kind -/
noncomputable def dAdd (s : S) (a b : D) : Option D := match a, b with
  | .int i, .int j => some (.int (i + j))
  | .str x, .str y => if x.length + y.length ≤ big then some (.str (x ++ y)) else none
  | .tup xs, .tup ys => if xs.length + ys.length ≤ big then some (.tup (xs ++ ys)) else none
  | .lst xs, .lst ys => if xs.length + ys.length ≤ big then some (.lst (xs ++ ys)) else none
  | .ref n, .lst ys => match s[n]? with
    | some (.lst xs) => if xs.length + ys.length ≤ big then some (.lst (xs ++ ys)) else none
    | _ => none
  | _, _ => none
theorem opl_add {K : PySem.W.Frag} : OpL K (fun x y H Q => rI0 (fun i j => .int (i + j)) x y H Q ∨ (∃ i j, x = .str i ∧ y = .str j ∧ i.length + j.length ≤ sizeLine ∧ Q (.str (i ++ j)) H) ∨ rCatA K x y H Q ∨ rCat x y H Q) dAdd := by
  intro mu s H a b d x y Q m ra rb e q
  unfold dAdd at e
  split at e
  · cases e
    exact .inl ⟨_, _, rel_int.mp ra, rel_int.mp rb, q mu H _ (Ge.refl _ _) m (rel_int.mpr rfl)⟩
  · split at e
    · rename_i hl
      cases e
      exact .inr (.inl ⟨_, _, rel_str.mp ra, rel_str.mp rb, big_le hl, q mu H _ (Ge.refl _ _) m (rel_str.mpr rfl)⟩)
    · cases e
  · split at e
    · rename_i xs ys hl
      cases e
      obtain ⟨p1, vs, e1, s1, r1⟩ := sq_tup ra
      obtain ⟨p2, ws, e2, s2, r2⟩ := sq_tup rb
      refine .inr (.inr (.inl ⟨p1, p2, vs, ws, e1, e2, s1, s2, by rw [← r1.length, ← r2.length]; exact big_le hl, fun z => ?_, fun _ z => ?_, fun _ _ p hp => ?_⟩))
      · subst z
        have e3 : xs = [] := List.length_eq_zero_iff.mp (by rw [r1.length]; rfl)
        subst e3
        rw [← e2]
        exact q mu H _ (Ge.refl _ _) m rb
      · subst z
        have e3 : ys = [] := List.length_eq_zero_iff.mp (by rw [r2.length]; rfl)
        subst e3
        rw [← e1]
        exact q mu H _ (Ge.refl _ _) m (by rw [List.append_nil]; exact ra)
      · exact q mu _ _ (Ge.pure m hp) (m.pure hp) (rel_tup m hp (r1.append r2))
    · cases e
  · split at e
    · rename_i xs ys hl
      cases e
      simp only [RelD] at ra rb
      obtain ⟨p1, vs, e1, s1, r1⟩ := ra
      obtain ⟨p2, ws, e2, s2, r2⟩ := rb
      exact .inr (.inr (.inr ⟨p1, p2, vs, ws, e1, e2, s1.1, s2.1, by rw [← r1.length, ← r2.length]; exact big_le hl, fun p hp => q mu _ _ (Ge.pure m hp) (m.pure hp) (rel_lst m hp (r1.append r2))⟩))
    · cases e
  · split at e
    · rename_i en
      split at e
      · rename_i hl
        cases e
        obtain ⟨p1, vs, e1, _, s1, r1⟩ := sq_ref m ra en
        simp only [RelD] at rb
        obtain ⟨p2, ws, e2, s2, r2⟩ := rb
        exact .inr (.inr (.inr ⟨p1, p2, vs, ws, e1, e2, s1, s2.1, by rw [← r1.length, ← r2.length]; exact big_le hl, fun p hp => q mu _ _ (Ge.pure m hp) (m.pure hp) (rel_lst m hp (r1.append r2))⟩))
      · cases e
    · cases e
  · cases e
theorem pE_add (ha : PE X a (tE X.K W f)) (hb : PE X b (tE X.K W g)) : PE X (.BinOp a .Add b pos) (tE X.K W (fOp dAdd f g)) := pE_op (op_add.or (op_add_str.or (op_catA.or op_cat))) opl_add ha hb
/-! * -/
noncomputable def repD (k : Nat) (xs : List D) : List D := (List.replicate k xs).flatten
theorem rep_rel {K : PySem.W.Frag} {mu : Mu} {H : Hp} {xs : List D} {vs : List V} (r : RelDs K mu H xs vs) : ∀ k : Nat, RelDs K mu H (repD k xs) ((List.replicate k vs).flatten)
  | 0 => .nil
  | k + 1 => by
    unfold repD
    rw [List.replicate_succ, List.replicate_succ, List.flatten_cons, List.flatten_cons]
    exact r.append (rep_rel r k)
noncomputable def dMul (s : S) (a b : D) : Option D := match a, b with
  | .int i, .int j => if mulOk i j = true then some (.int (i * j)) else none
  | .lst xs, .int k => if k < 2 ^ 40 ∧ -(2 ^ 40) < k ∧ xs.length * k.toNat ≤ big then some (.lst (repD k.toNat xs)) else none
  | _, _ => none
theorem opl_mul {K : PySem.W.Frag} : OpL K (fun x y H Q => rI MulP (fun i j => .int (i * j)) x y H Q ∨ rRep x y H Q) dMul := by
  intro mu s H a b d x y Q m ra rb e q
  unfold dMul at e
  split at e
  · split at e
    · rename_i i j hm
      cases e
      have h2 : MulP i j := by
        unfold mulOk at hm
        have h3 := of_decide_eq_true hm
        exact h3
      exact .inl ⟨_, _, rel_int.mp ra, rel_int.mp rb, h2, q mu H _ (Ge.refl _ _) m (rel_int.mpr rfl)⟩
    · cases e
  · split at e
    · rename_i xs k hl
      cases e
      simp only [RelD] at ra
      obtain ⟨p1, vs, e1, s1, r1⟩ := ra
      refine .inr ⟨p1, k, vs, e1, rel_int.mp rb, s1.1, by omega, by omega, by rw [← r1.length]; exact big_le hl.2.2, fun p hp => ?_⟩
      exact q mu _ _ (Ge.pure m hp) (m.pure hp) (rel_lst m hp (rep_rel r1 _))
    · cases e
  · cases e
theorem pE_mul (ha : PE X a (tE X.K W f)) (hb : PE X b (tE X.K W g)) : PE X (.BinOp a .Mult b pos) (tE X.K W (fOp dMul f g)) := pE_op (op_mulX.or op_rep) opl_mul ha hb
/-! -x -/
noncomputable def fNeg (f : F D) : F D := fun L s => (f L s).bind fun d s1 => match d with
  | .int i => .ok (.int (-i)) s1
  | _ => .bad
theorem pE_neg (ha : PE X a (tE X.K W f)) : PE X (.UnaryOp .USub a pos) (tE X.K W (fNeg f)) := by
  refine PE.weak (pe_un un_neg ha) fun σ H Q ⟨mu, s, L, m, l, p⟩ => ⟨mu, s, L, m, l, Post.step p fun d s1 mu1 H1 v1 g1 m1 r1 p1 => ?_⟩
  cases d <;> try exact p1.elim
  exact ⟨_, rel_int.mp r1, p1 mu1 H1 _ (Ge.refl _ _) m1 (rel_int.mpr rfl)⟩
/-! max, min of two, abs -/
noncomputable def bMax (_ : S) : List D → Option D
  | [.int i, .int j] => some (.int (if j > i then j else i))
  | _ => none
noncomputable def bMin (_ : S) : List D → Option D
  | [.int i, .int j] => some (.int (if j < i then j else i))
  | _ => none
noncomputable def bAbs (_ : S) : List D → Option D
  | [.int i] => some (.int (if i < 0 then -i else i))
  | _ => none
theorem cbl_max {K : PySem.W.Frag} : CbL K (fun xs H Q => ∃ i j, xs = [.int i, .int j] ∧ Q (.int (if j > i then j else i)) H) bMax := by
  intro mu s H ds d vs Q m r e q
  unfold bMax at e
  split at e
  · cases e
    obtain ⟨v1, v2, rfl, r1, r2⟩ := rel2 r
    exact ⟨_, _, by rw [rel_int.mp r1, rel_int.mp r2], q mu H _ (Ge.refl _ _) m (rel_int.mpr rfl)⟩
  · cases e
theorem pE_max {e2 : Expr} {p : Pos} (hc : X.calm = true) (hm : X.mg "max" = none) (ha : PA X [e, e2] (tA X.K W fa)) (hg : Gl X "max" := by rfl) (he : starEach [e, e2] X.env = (false, eval e X.env) :: starEach [e2] X.env := by rfl) (hpl : (backTo pos (starEach [e2] X.env)).any (·.1) = false := by rfl) :
    PE X (.Call (.Name "max" p) [e, e2] [] pos) (tE X.K W (fCB bMax fa)) := pE_cb (call_max2 hc) cbl_max hm (by decide +kernel) ha hg (by decide) (by decide) he hpl
/-! list(..), tuple(..) -/
noncomputable def bList (s : S) : List D → Option D
  | [d] => (seqOf s d).map .lst
  | _ => none
noncomputable def bTuple (s : S) : List D → Option D
  | [.tup xs] => some (.tup xs)
  | [d] => (lstOf s d).map .tup
  | _ => none
theorem cbl_list {K : PySem.W.Frag} : CbL K (fun xs H Q => ∃ p ys, xs = [.ref p] ∧ (SqL K H p ys ∨ SqT K H p ys) ∧ ∀ l, H l = none → Q (.ref l) (upd H l (.lst ys))) bList := by
  intro mu s H ds d vs Q m r e q
  rcases ds with _ | ⟨d1, _ | ⟨d2, ds⟩⟩
  · cases e
  · obtain ⟨v, rfl, r1⟩ := rel1 r
    simp only [bList] at e
    cases es : seqOf s d1 with
    | none =>
      rw [es] at e
      cases e
    | some xs =>
      rw [es] at e
      cases e
      obtain ⟨p, ys, ev, sq, rs⟩ := sq_seqOf m r1 es
      exact ⟨p, ys, by rw [ev], sq, fun l hl => q mu _ _ (Ge.pure m hl) (m.pure hl) (rel_lst m hl rs)⟩
  · cases e
theorem pE_list {p : Pos} (hm : X.mg "list" = none) (ha : PA X [e] (tA X.K W fa)) (hg : Gl X "list" := by rfl) (he : starEach [e] X.env = (false, eval e X.env) :: starEach [] X.env := by rfl) :
    PE X (.Call (.Name "list" p) [e] [] pos) (tE X.K W (fCB bList fa)) := pE_cty call_list_of cbl_list hm (by decide +kernel) ha hg (by decide) (by decide) he rfl
/-- list(..) that will be changed -/
noncomputable def fListT (fa : F (List D)) : F D := fun L s => (fa L s).bind fun ds s1 => match ds with
  | [d] => match seqOf s1 d with
    | some xs => .ok (.ref s1.length) (s1 ++ [.lst xs])
    | none => .bad
  | _ => .bad
theorem pE_listT {p : Pos} (hm : X.mg "list" = none) (ha : PA X [e] (tA X.K W fa)) (hg : Gl X "list" := by rfl) (he : starEach [e] X.env = (false, eval e X.env) :: starEach [] X.env := by rfl) :
    PE X (.Call (.Name "list" p) [e] [] pos) (tE X.K W (fListT fa)) := by
  refine PE.weak (pe_callTy call_list_of hg hm (by decide +kernel) ha (by decide) (by decide) he rfl) fun σ H Q ⟨mu, s, L, m, l, p⟩ => ⟨mu, s, L, m, l, Post.step p fun ds s1 mu1 H1 v1 g1 m1 r1 p1 => ?_⟩
  rcases ds with _ | ⟨d1, _ | ⟨d2, ds⟩⟩
  · exact p1.elim
  · obtain ⟨v, rfl, r1'⟩ := rel1 r1
    dsimp only at p1
    cases es : seqOf s1 d1 with
    | none =>
      rw [es] at p1
      exact p1.elim
    | some xs =>
      rw [es] at p1
      obtain ⟨q, ys, ev, sq, rs⟩ := sq_seqOf m1 r1' es
      exact ⟨q, ys, by rw [ev], sq, fun l hl => p1 _ _ _ (Ge.track m1 hl) (m1.track hl ⟨ys, upd_same, rs.mono (Ge.track m1 hl)⟩) (rel_ref_last m1)⟩
  · exact p1.elim
theorem cbl_tuple {K : PySem.W.Frag} : CbL K (fun xs H Q => ∃ p ys, xs = [.ref p] ∧ ((SqL K H p ys ∧ ∀ l, H l = none → Q (.ref l) (upd H l (.tup ys))) ∨ (SqT K H p ys ∧ Q (.ref p) H))) bTuple := by
  intro mu s H ds d vs Q m r e q
  rcases ds with _ | ⟨d1, _ | ⟨d2, ds⟩⟩
  · cases e
  · obtain ⟨v, rfl, r1⟩ := rel1 r
    unfold bTuple at e
    split at e
    · rename_i xs heq
      cases heq
      cases e
      obtain ⟨p, ys, ev, sq, rs⟩ := sq_tup r1
      refine ⟨p, ys, by rw [ev], .inr ⟨sq, ?_⟩⟩
      rw [← ev]
      exact q mu H _ (Ge.refl _ _) m r1
    · rename_i heq
      cases heq
      cases es : lstOf s d1 with
      | none =>
        rw [es] at e
        cases e
      | some xs =>
        rw [es] at e
        cases e
        obtain ⟨p, ys, ev, sq, rs⟩ := sq_lstOf m r1 es
        exact ⟨p, ys, by rw [ev], .inl ⟨sq, fun l hl => q mu _ _ (Ge.pure m hl) (m.pure hl) (rel_tup m hl rs)⟩⟩
    · cases e
  · unfold bTuple at e
    split at e <;> first | (rename_i heq; cases heq) | cases e
theorem pE_tuple {p : Pos} (hm : X.mg "tuple" = none) (ha : PA X [e] (tA X.K W fa)) (hg : Gl X "tuple" := by rfl) (he : starEach [e] X.env = (false, eval e X.env) :: starEach [] X.env := by rfl) :
    PE X (.Call (.Name "tuple" p) [e] [] pos) (tE X.K W (fCB bTuple fa)) := pE_cty call_tuple_of cbl_tuple hm (by decide +kernel) ha hg (by decide) (by decide) he rfl
/-! {} that is not changed -/
noncomputable def fDict0 : F D := fun _ s => .ok (.dk [] []) s
theorem pE_dict0 : PE X (.Dict [] [] pos) (tE X.K W fDict0) := by
  refine PE.weak pe_dnewK fun σ H Q ⟨mu, s, L, m, l, p⟩ => ?_
  intro d hd
  refine p mu _ _ (Ge.pure m hd) (m.pure hd) ?_
  simp only [RelD]
  exact ⟨d, [], rfl, ⟨upd_same, m.fresh hd⟩, rfl, .nil⟩
theorem dc_dLt {K : PySem.W.Frag} : OpL K (rI0 fun i j => .bl (decide (i < j))) dLt := opl_I0 fun _ _ _ _ => by simp only [RelD]
theorem dc_dLe {K : PySem.W.Frag} : OpL K (rI0 fun i j => .bl (decide (i ≤ j))) dLe := opl_I0 fun _ _ _ _ => by simp only [RelD]
theorem dc_dGt {K : PySem.W.Frag} : OpL K (rI0 fun i j => .bl (decide (j < i))) dGt := opl_I0 fun _ _ _ _ => by simp only [RelD]
theorem dc_dGe {K : PySem.W.Frag} : OpL K (rI0 fun i j => .bl (decide (j ≤ i))) dGe := opl_I0 fun _ _ _ _ => by simp only [RelD]
theorem pE_chainI {op op' : CmpOp} {r r' : R2} {o o' : S → D → D → Option D} {h : F D} (ho : OpR X (compareOp op) r) (ho' : OpR X (compareOp op') r') (hl : OpL X.K r o) (hl' : OpL X.K r' o') (ha : PE X a (tE X.K W f)) (hb : PE X b (tE X.K W g)) (hc : PE X c (tE X.K W h))
    (hm : lastMarks [op, op'] [b, c] = false := by with_unfolding_all rfl) : PE X (.Compare a [op, op'] [b, c] pos) (tE X.K W (fChain o o' f g h)) := pE_chain ho ho' hl hl' ha hb hc (pe_chain ho ho' ha hb hc hm)
/-! ### comparisons as tests -/
theorem weak_tst (σ : L2.St) (H : Hp) (Q : Bool → Hp → Prop) {te : TE} (hw : ∀ σ H Q, tE X.K W f σ H Q → te σ H Q) (hq : tT X.K W (fTst f) σ H Q) : tTest te σ H Q := by
  obtain ⟨mu, s, L, m, l, p⟩ := hq
  refine hw σ H _ ⟨mu, s, L, m, l, Post.step p fun d1 s1 mu1 H1 v1 g1 m1 r1 p1 => ?_⟩
  cases d1 <;> try exact p1.elim
  rename_i bb
  exact ⟨bb, rel_bl.mp r1, p1 mu1 H1 _ (Ge.refl _ _) m1 rfl⟩
theorem pT_cmp {op : CmpOp} {r : R2} {o : S → D → D → Option D} (ho : OpR X (compareOp op) r) (hl : OpL X.K r o) (ha : PE X a (tE X.K W f)) (hb : PE X b (tE X.K W g)) (hm : behindInMarks op b = false := by first | exact nomark _ | rfl) :
    PT X (.Compare a [op] [b] pos) (tT X.K W (fTst (fOp o f g))) :=
  PT.weak (pt_cmpR ho ha hb hm) fun σ H Q q => weak_tst σ H Q (fun σ H Q q => weak_op hl σ H Q q) q
theorem pT_lt (ha : PE X a (tE X.K W f)) (hb : PE X b (tE X.K W g)) : PT X (.Compare a [.Lt] [b] pos) (tT X.K W (fTst (fOp dLt f g))) := pT_cmp op_lt dc_dLt ha hb
theorem pT_le (ha : PE X a (tE X.K W f)) (hb : PE X b (tE X.K W g)) : PT X (.Compare a [.LtE] [b] pos) (tT X.K W (fTst (fOp dLe f g))) := pT_cmp op_le dc_dLe ha hb
theorem pT_gt (ha : PE X a (tE X.K W f)) (hb : PE X b (tE X.K W g)) : PT X (.Compare a [.Gt] [b] pos) (tT X.K W (fTst (fOp dGt f g))) := pT_cmp op_gt dc_dGt ha hb
theorem pT_ge (ha : PE X a (tE X.K W f)) (hb : PE X b (tE X.K W g)) : PT X (.Compare a [.GtE] [b] pos) (tT X.K W (fTst (fOp dGe f g))) := pT_cmp op_ge dc_dGe ha hb
theorem pT_eq {k : Nat} (hr : Room k X.A) (ha : PE X a (tE X.K W f)) (hb : PE X b (tE X.K W g)) : PT X (.Compare a [.Eq] [b] pos) (tT X.K W (fTst (fOp (dEqD false) f g))) := pT_cmp (op_eqD hr.units) opl_eqD ha hb
theorem pT_ne {k : Nat} (hr : Room k X.A) (ha : PE X a (tE X.K W f)) (hb : PE X b (tE X.K W g)) : PT X (.Compare a [.NotEq] [b] pos) (tT X.K W (fTst (fOp (dEqD true) f g))) := pT_cmp (op_neD hr.units) opl_neD ha hb
theorem pT_is (ha : PE X a (tE X.K W f)) (hb : PE X b (tE X.K W g)) : PT X (.Compare a [.Is] [b] pos) (tT X.K W (fTst (fOp (dIs false) f g))) := pT_cmp (op_isN.or op_is_bl) opl_is ha hb
theorem pT_isnot (ha : PE X a (tE X.K W f)) (hb : PE X b (tE X.K W g)) : PT X (.Compare a [.IsNot] [b] pos) (tT X.K W (fTst (fOp (dIs true) f g))) := pT_cmp (op_notN.or op_isnot_bl) opl_isnot ha hb
theorem weak_chain {r r' : R2} {o o' : S → D → D → Option D} (hl : OpL X.K r o) (hl' : OpL X.K r' o') (σ : L2.St) (H : Hp) (Q : VK) (hq : tE X.K W (fChain o o' f g h) σ H Q) : tChain r r' (tE X.K W f) (tE X.K W g) (tE X.K W h) σ H Q := by
  obtain ⟨mu, s, L, m, l, p⟩ := hq
  refine ⟨mu, s, L, m, l, Post.step p fun d1 s1 mu1 H1 v1 g1 m1 r1 p1 => ?_⟩
  refine ⟨mu1, s1, L, m1, l.mono g1, Post.step p1 fun d2 s2 mu2 H2 v2 g2 m2 r2 p2 => ?_⟩
  cases eo : o s2 d1 d2 with
  | none =>
    rw [eo] at p2
    exact p2.elim
  | some d =>
    rw [eo] at p2
    refine hl mu2 s2 H2 d1 d2 d v1 v2 _ m2 (r1.mono g2) r2 eo fun mu' H' v g' m' r' => ?_
    cases d <;> try exact p2.elim
    rename_i bb
    have ev := rel_bl.mp r'
    refine ⟨bb, ev, ?_⟩
    cases bb with
    | false => exact p2 mu' H' _ g' m' (rel_bl.mpr rfl)
    | true =>
      show tE X.K W h σ H' _
      refine ⟨mu', s2, L, m', ((l.mono g1).mono g2).mono g', Post.step (Post.ge g' p2) fun d3 s3 mu3 H3 v3 g3 m3 r3 p3 => ?_⟩
      cases eo' : o' s3 d2 d3 with
      | none =>
        rw [eo'] at p3
        exact p3.elim
      | some d =>
        rw [eo'] at p3
        exact hl' mu3 s3 H3 d2 d3 d v2 v3 Q m3 ((r2.mono g').mono g3) r3 eo' fun mu4 H4 v4 g4 m4 r4 => p3 mu4 H4 v4 g4 m4 r4
theorem pT_chainI {op op' : CmpOp} {r r' : R2} {o o' : S → D → D → Option D} {h : F D} (ho : OpR X (compareOp op) r) (ho' : OpR X (compareOp op') r') (hl : OpL X.K r o) (hl' : OpL X.K r' o') (ha : PE X a (tE X.K W f)) (hb : PE X b (tE X.K W g)) (hc : PE X c (tE X.K W h))
    (hm : lastMarks [op, op'] [b, c] = false := by with_unfolding_all rfl) : PT X (.Compare a [op, op'] [b, c] pos) (tT X.K W (fTst (fChain o o' f g h))) :=
  PT.weak (pt_chain ho ho' ha hb hc hm) fun σ H Q q => weak_tst σ H Q (fun σ H Q q => weak_chain hl hl' σ H Q q) q
/-! ### defs that leave the store as it was -/
/-- an own tracked object in an answer becomes one that is not changed any more -/
noncomputable def finS (n : Nat) (s : S) (d : D) : Option D := match d with
  | .ref i => if i < n then some (.ref i) else (match s[i]? with
    | some (.lst xs) => if D.bels n xs = true then some (.lst xs) else none
    | some (.dk ks vs) => if D.bels n vs = true then some (.dk ks vs) else none
    | some (.dt ks vs) => if D.bels n vs = true then some (.dt ks vs) else none
    | some (.ins C fs vs) => if D.bels n vs = true then some (.ins C fs vs) else none
    | _ => none)
  | d => if D.bel n d = true then some d else none
noncomputable def finsS (n : Nat) (s : S) : List D → Option (List D)
  | [] => some []
  | x :: xs => match finS n s x, finsS n s xs with
    | some y, some ys => some (y :: ys)
    | _, _ => none
noncomputable def fin2 (n : Nat) (s : S) (d : D) : Option D := match d with
  | .tup xs => (finsS n s xs).map .tup
  | .ref i => if i < n then some (.ref i) else (match s[i]? with
    | some (.lst xs) => (finsS n s xs).map .lst
    | _ => finS n s (.ref i))
  | d => finS n s d
theorem not_live_cut {K : PySem.W.Frag} {mu : Mu} {s : S} {H : Hp} {n i : Nat} {a : Addr} (m : Sim K mu s H) (h : mu[i]? = some (some a)) (hi : ¬ i < n) : ¬ Live (mu.take n) a := fun z => by
  obtain ⟨j, ej⟩ := live_iff.mp z
  rw [List.getElem?_take] at ej
  split at ej
  · have := m.inj j i a ej h
    omega
  · cases ej
theorem finS_ok {K : PySem.W.Frag} {mu : Mu} {s : S} {H : Hp} {n : Nat} {d d' : D} {v : V} (m : Sim K mu s H) (r : RelD K mu H d v) (e : finS n s d = some d') : RelD K (mu.take n) H d' v := by
  unfold finS at e
  split at e
  · rename_i i
    split at e
    · rename_i hi
      cases e
      exact r.cut _ _ (by simp only [D.bel, decide_eq_true_eq]; exact hi)
    · rename_i hi
      simp only [RelD] at r
      obtain ⟨a, ea, rfl⟩ := r
      have nl := not_live_cut m ea hi
      split at e
      · rename_i xs hs
        split at e
        · rename_i hb
          cases e
          rcases m.obj i _ hs with z | ⟨b, eb, ro⟩
          · cases z
          · rw [ea] at eb
            cases eb
            obtain ⟨vs, h1, h2⟩ := ro
            simp only [RelD]
            exact ⟨a, vs, rfl, ⟨h1, nl⟩, h2.cut _ _ hb⟩
        · cases e
      · rename_i ks xs hs
        split at e
        · rename_i hb
          cases e
          rcases m.obj i _ hs with z | ⟨b, eb, ro⟩
          · cases z
          · rw [ea] at eb
            cases eb
            obtain ⟨vs, h1, h3, h2⟩ := ro
            simp only [RelD]
            exact ⟨a, vs, rfl, ⟨h1, nl⟩, h3, h2.cut _ _ hb⟩
        · cases e
      · rename_i ks xs hs
        split at e
        · rename_i hb
          cases e
          rcases m.obj i _ hs with z | ⟨b, eb, ro⟩
          · cases z
          · rw [ea] at eb
            cases eb
            obtain ⟨bs, vs, h1, kk, h3, h2⟩ := ro
            simp only [RelD]
            exact ⟨a, bs, vs, rfl, ⟨h1, nl⟩, Paired.mapP kk fun _ _ z => z.imp id Fix.cut, h3, h2.cut _ _ hb⟩
        · cases e
      · rename_i C fs xs hs
        split at e
        · rename_i hb
          cases e
          rcases m.obj i _ hs with z | ⟨b, eb, ro⟩
          · cases z
          · rw [ea] at eb
            cases eb
            obtain ⟨dx, vs, h1, h3, h2⟩ := ro
            simp only [RelD]
            exact ⟨a, dx, vs, rfl, h1, nl, h3, h2.cut _ _ hb⟩
        · cases e
      · cases e
  · split at e
    · rename_i hb
      cases e
      exact r.cut _ _ hb
    · cases e
theorem finsS_ok {K : PySem.W.Frag} {mu : Mu} {s : S} {H : Hp} {n : Nat} (m : Sim K mu s H) : ∀ {ds ds' : List D} {vs : List V}, RelDs K mu H ds vs → finsS n s ds = some ds' → RelDs K (mu.take n) H ds' vs
  | [], ds', vs, r, e => by
    cases e
    simp only [RelDs] at r
    subst r
    exact .nil
  | d :: ds, ds', vs, r, e => by
    simp only [RelDs] at r
    obtain ⟨v, vr, rfl, r1, r2⟩ := r
    simp only [finsS] at e
    cases e1 : finS n s d with
    | none =>
      rw [e1] at e
      cases e
    | some y =>
      cases e2 : finsS n s ds with
      | none =>
        rw [e1, e2] at e
        cases e
      | some ys =>
        rw [e1, e2] at e
        cases e
        exact .cons (finS_ok m r1 e1) (finsS_ok m r2 e2)
theorem fin2_ok {K : PySem.W.Frag} {mu : Mu} {s : S} {H : Hp} {n : Nat} {d d' : D} {v : V} (m : Sim K mu s H) (r : RelD K mu H d v) (e : fin2 n s d = some d') : RelD K (mu.take n) H d' v := by
  unfold fin2 at e
  split at e
  · rename_i xs
    cases e1 : finsS n s xs with
    | none =>
      rw [e1] at e
      cases e
    | some ys =>
      rw [e1] at e
      cases e
      simp only [RelD] at r ⊢
      obtain ⟨a, vs, h1, h2, h3⟩ := r
      exact ⟨a, vs, h1, h2.imp id Fix.cut, finsS_ok m h3 e1⟩
  · rename_i i
    split at e
    · rename_i hi
      cases e
      exact r.cut _ _ (by simp only [D.bel, decide_eq_true_eq]; exact hi)
    · rename_i hi
      split at e
      · rename_i xs hs
        cases e1 : finsS n s xs with
        | none =>
          rw [e1] at e
          cases e
        | some ys =>
          rw [e1] at e
          cases e
          obtain ⟨a, vs, ev, ea, eh, rs⟩ := sq_ref m r hs
          simp only [RelD]
          exact ⟨a, vs, ev, ⟨eh, not_live_cut m ea hi⟩, finsS_ok m rs e1⟩
      · exact finS_ok m r e
  · exact finS_ok m r e
/-- the store behind the def is the one ahead of it -/
noncomputable def pureF (G : List D → S → R D) : List D → S → R D := fun ds s => match G ds s with
  | .ok d s' => if s'.take s.length = s then (match fin2 s.length s' d with
    | some d' => .ok d' s
    | none => .bad) else .bad
  | .ex C fs vs s' => if s'.take s.length = s ∧ D.bels s.length vs = true then .ex C fs vs s else .bad
  | .bad => .bad
/-- .. or has changed, but for the def's own objects -/
noncomputable def cutF (G : List D → S → R D) : List D → S → R D := fun ds s => match G ds s with
  | .ok d s' => if (s'.take s.length).all (O.bel s.length) = true then (match fin2 s.length s' d with
    | some d' => .ok d' (s'.take s.length)
    | none => .bad) else .bad
  | .ex C fs vs s' => if (s'.take s.length).all (O.bel s.length) = true ∧ D.bels s.length vs = true then .ex C fs vs (s'.take s.length) else .bad
  | .bad => .bad
theorem xr_cut {K : PySem.W.Frag} {mu : Mu} {H : Hp} {n : Nat} {fs : List Str} {vs : List D} {od : Option Addr} (x : XR K mu H fs vs od) (hb : D.bels n vs = true) : XR K (mu.take n) H fs vs od := by
  rcases x with x | ⟨d2, vs2, e2, h2, n2, l2, rr2⟩
  · exact .inl x
  · exact .inr ⟨d2, vs2, e2, h2, not_live_take n2, l2, rr2.cut _ _ hb⟩
theorem spI_pure {K : PySem.W.Frag} {n : Nat} {G : List D → S → R D} (vs : List V) (H : Hp) (Q : VK) (E : XK) (h : spI K n (pureF G) vs H Q E) : spI K n G vs H Q E := by
  obtain ⟨mu, s, ds, m, r, hn, p⟩ := h
  refine ⟨mu, s, ds, m, r, hn, ?_⟩
  unfold pureF at p
  have back : ∀ {mu2 : Mu} {s2 : S} {H2 : Hp}, Ge mu H mu2 H2 → Sim K mu2 s2 H2 → s2.take s.length = s → Ge mu H (mu2.take s.length) H2 ∧ Sim K (mu2.take s.length) s H2 := fun {mu2 s2 H2} g2 m2 e => by
    refine ⟨?_, ?_⟩
    · have z := g2.back
      rw [m.len] at z
      exact z
    · have z := m2.back (n := s.length) (by rw [e]; exact fun o ho => m.below ho)
      rw [e] at z
      exact z
  cases eg : G ds s with
  | bad =>
    rw [eg] at p
    exact p.elim
  | ex C fs vs s' =>
    rw [eg] at p
    dsimp only at p
    split at p
    · rename_i hc
      intro mu2 H2 od g2 m2 x2
      obtain ⟨g3, m3⟩ := back g2 m2 hc.1
      exact p _ H2 od g3 m3 (xr_cut x2 hc.2)
    · exact p.elim
  | ok d s' =>
    rw [eg] at p
    dsimp only at p
    split at p
    · rename_i hc
      cases ef : fin2 s.length s' d with
      | none =>
        rw [ef] at p
        exact p.elim
      | some d' =>
        rw [ef] at p
        intro mu2 H2 v g2 m2 r2
        obtain ⟨g3, m3⟩ := back g2 m2 hc
        exact p _ H2 v g3 m3 (fin2_ok m2 r2 ef)
    · exact p.elim
theorem spI_cut {K : PySem.W.Frag} {n : Nat} {G : List D → S → R D} (vs : List V) (H : Hp) (Q : VK) (E : XK) (h : spI K n (cutF G) vs H Q E) : spI K n G vs H Q E := by
  obtain ⟨mu, s, ds, m, r, hn, p⟩ := h
  refine ⟨mu, s, ds, m, r, hn, ?_⟩
  unfold cutF at p
  have back : ∀ {mu2 : Mu} {s2 : S} {H2 : Hp}, Ge mu H mu2 H2 → Sim K mu2 s2 H2 → (s2.take s.length).all (O.bel s.length) = true → Ge mu H (mu2.take s.length) H2 ∧ Sim K (mu2.take s.length) (s2.take s.length) H2 := fun {mu2 s2 H2} g2 m2 e => by
    refine ⟨?_, m2.back fun o ho => List.all_eq_true.mp e o ho⟩
    have z := g2.back
    rw [m.len] at z
    exact z
  cases eg : G ds s with
  | bad =>
    rw [eg] at p
    exact p.elim
  | ex C fs vs s' =>
    rw [eg] at p
    dsimp only at p
    split at p
    · rename_i hc
      intro mu2 H2 od g2 m2 x2
      obtain ⟨g3, m3⟩ := back g2 m2 hc.1
      exact p _ H2 od g3 m3 (xr_cut x2 hc.2)
    · exact p.elim
  | ok d s' =>
    rw [eg] at p
    dsimp only at p
    split at p
    · rename_i hc
      cases ef : fin2 s.length s' d with
      | none =>
        rw [ef] at p
        exact p.elim
      | some d' =>
        rw [ef] at p
        intro mu2 H2 v g2 m2 r2
        obtain ⟨g3, m3⟩ := back g2 m2 hc
        exact p _ H2 v g3 m3 (fin2_ok m2 r2 ef)
    · exact p.elim
end
end SI

namespace SI
open PySem PySem.Spec PyProof.Rows L2
/-! ### own exception classes over Exception -/
noncomputable abbrev exTail : List Value := [.type "Exception", .type "BaseException", .type "object"]
structure ExE (K : PySem.W.Frag) (C : Addr) : Prop where
  ini : PySem.W.excInitIn K C exTail "Exception.__new__" = true
  ovr : PySem.W.excOver K C exTail = true
  hd : PySem.W.hasDictIn K C = true
  sa : PySem.W.findIn K (.ref C) "__setattr__" = some (some (.builtin "object.__setattr__"))
  sub : PySem.W.subIn K (.ref C) (.type "BaseException") = some true
  ty : PySem.W.typeIn K (.ref C) = some (.type "type")
  keep : PySem.W.keepIn K (.ref C) = true
section
variable {X : Cx} {pins : List (Addr × Obj)} {σ : L2.St} {H : Hp} {s : Shared} {a C dx : Addr} {f : Str} {y : V} {u : Value} {fs : List (Str × V)} {Q : Unit → Shared → Prop} {E : Value → Shared → Prop} {A : Around}
theorem est_new (T : ExE X.K C) (I : Inv X pins σ H s) (e : H a = some (exo a C none)) (hno : PySem.W.takerIn X.K C f = some none) (ry : RelV y u)
    (k : ∀ dx s', H dx = none → dx ≠ a → Inv X pins σ (upd (upd H dx (exd dx [(f, y)])) a (exo a C (some dx))) s' → Q () s') : wpAny (model X.prog X.w) A (setAttr (.ref a) f u) Q E s := by
  obtain ⟨t1, ho⟩ := exo_at I.hok e
  obtain ⟨cd, hc, hh⟩ := PySem.W.any_some T.hd
  obtain ⟨hp, g, d, t, os⟩ := s
  have J : PySem.W.InstAt hp a { cls := .ref C, dict := none, data := .fields #[.ref t1, .none, .none, .none, .bool false, .none] } C none := ⟨ho, rfl, rfl, trivial⟩
  have lt : a < hp.objs.size := Heap.lt_size ho
  refine PySem.W.set_plain I.kIn J T.sa (PySem.W.osa_openX (s := ⟨hp, g, d, t + 1, os⟩) PySem.F.store_Exception I.kIn J T.ovr hno fun b => ?_)
  refine wpAny_bind (wpAny_pure (wpAny_bind (PySem.W.instanceDict_exc (s := ⟨hp, g, d, t + 1, os⟩) ho (PySem.W.looks_clsIn I.kIn hc) hh ?_)))
  refine PySem.HandSPX.store_in_new ?_ fun h2 tk2 hn hs => ?_
  · exact ⟨_, #[], _, (Heap.get?_update_ne _ _ _ _ (Nat.ne_of_gt lt)).trans (Heap.get?_push_at rfl rfl), rfl, fun z hz => absurd hz (by simp), fun _ => rfl⟩
  · have hfree : H hp.objs.size = none := I.hok.fresh (Nat.le_refl _)
    have hne : hp.objs.size ≠ a := Nat.ne_of_gt lt
    obtain ⟨od, es, ep, hod, hod2, hod3⟩ := id hn
    have low : ∀ {b : Addr} {o : Obj}, hp.get? b = some o → b ≠ a → h2.get? b = some o := fun {b o} q hb => (hs.2 b (Nat.ne_of_lt (Heap.lt_size q))).trans ((Heap.get?_update_ne _ _ _ _ hb).trans (Heap.get?_push_of_some _ q))
    have atA : h2.get? a = some ({ cls := .ref C, dict := some hp.objs.size, data := .fields #[.ref t1, .none, .none, .none, .bool false, .none] } : Obj) := (hs.2 a (Ne.symm hne)).trans (Heap.get?_update_self _ (Heap.get?_push_of_some _ ho) rfl)
    have hmid : (hp.push od).get? hp.objs.size = some od := Heap.get?_push_size hp (Heap.get?_some_iff.mp hod).2
    have I1 : Inv X pins σ (upd H hp.objs.size (exd hp.objs.size [(f, y)])) ⟨hp.push od, g, d, t, os⟩ :=
      I.laid (h' := hp.push od) (t' := t) (fun b o q => Heap.get?_push_of_some _ q) (Nat.le_refl _) (exd_ok (mA := fun z => if z = f then some u else none) ⟨od, es, ep, hmid, hod2, hod3⟩ (relO_put (fs := []) ry fun _ => True.intro))
    have I2 := I1.write (h' := h2) (t' := tk2) (x := a) (e := a) (o := exo a C (some hp.objs.size)) (by rw [upd_ne (Ne.symm hne), e]; exact True.intro) (.inl rfl) (fun b o hb q => by
      by_cases hz : b = hp.objs.size
      · subst hz
        rw [hmid] at q
        cases q
        exact hod
      · have hlt : b < (hp.push od).objs.size := Heap.lt_size q
        have q' : hp.get? b = some o := by
          rw [Heap.get?_push_ne _ _ _ hz] at q
          exact q
        exact low q' hb) ⟨_, atA⟩ (exo_ok atA)
    exact k hp.objs.size _ hfree hne I2
theorem est_old (T : ExE X.K C) (I : Inv X pins σ H s) (e : H a = some (exo a C (some dx))) (ed : H dx = some (exd dx fs)) (hl : fs.length ≤ 900) (hno : PySem.W.takerIn X.K C f = some none) (ry : RelV y u)
    (k : ∀ s', Inv X pins σ (upd H dx (exd dx ((f, y) :: fs))) s' → Q () s') : wpAny (model X.prog X.w) A (setAttr (.ref a) f u) Q E s := by
  obtain ⟨t1, ho⟩ := exo_at I.hok e
  obtain ⟨mA, hns, rel⟩ := exd_at I.hok ed
  obtain ⟨cd, hc, hh⟩ := PySem.W.any_some T.hd
  obtain ⟨hp, g, d, t, os⟩ := s
  obtain ⟨oD, _, _, hoD, _, _⟩ := hns.count (within_of rel)
  have J : PySem.W.InstAt hp a { cls := .ref C, dict := some dx, data := .fields #[.ref t1, .none, .none, .none, .bool false, .none] } C (some oD) := ⟨ho, rfl, rfl, hoD⟩
  have LC : PySem.W.Looks (model X.prog X.w) hp (classData C) cd := PySem.W.looks_clsIn I.kIn hc
  refine PySem.W.set_plain I.kIn J T.sa (PySem.W.osa_openX (s := ⟨hp, g, d, t + 1, os⟩) PySem.F.store_Exception I.kIn J T.ovr hno fun b => ?_)
  refine wpAny_bind (wpAny_pure (wpAny_bind (wpAny_bind (wpAny_loadPart ho (wpAny_bind (LC.at ?_))))))
  rw [hh]
  refine wpAny_pure (a := some dx) ?_
  refine PySem.OEX.store_in_old hns (within_of rel) (by rw [List.length_map]; omega) fun h2 tk2 hn hs => ?_
  have hd : ∃ o, h2.get? dx = some o := by
    obtain ⟨o, _, _, z, _⟩ := hn
    exact ⟨o, z⟩
  exact k _ (I.write (t' := tk2) (x := dx) (e := dx) (o := exd dx ((f, y) :: fs)) (by rw [ed]; exact True.intro) (.inl rfl) (fun b o hb q => (hs.2 b hb).trans q) hd (exd_ok hn (relO_put ry rel)))
end
/-! ### raise -/
/-- self.f = y in an exception's __init__ -/
noncomputable def tEst (K : PySem.W.Frag) (f : Str) (to te : TE) : TS := fun D σ H => te σ H fun y H1 => to σ H1 fun x H2 => ∃ a C : Addr, x = .ref a ∧ ExE K C ∧ PySem.W.takerIn K C f = some none ∧
  ((H2 a = some (exo a C none) ∧ ∀ dx, H2 dx = none → dx ≠ a → D.nx σ (upd (upd H2 dx (exd dx [(f, y)])) a (exo a C (some dx)))) ∨
    ∃ (dx : Addr) (fs : List (Str × V)), H2 a = some (exo a C (some dx)) ∧ H2 dx = some (exd dx fs) ∧ fs.length ≤ 900 ∧ D.nx σ (upd H2 dx (exd dx ((f, y) :: fs))))
section
variable {X : Cx} {W : WX} {o e : Expr} {es : List Expr} {to te : TE} {ta : TA} {f : Str} {p p' pos : Pos}
theorem ps_est (ho : PE X o to) (he : PE X e te) (hs : swapsWith e (some (.Attribute o f p')) pos.line X.env = pure false := by rfl) : PS X (.Assign [.Attribute o f p'] e pos) (tEst X.K f to te) := by
  refine ⟨fun pins s σ H D I h => plainObj_wpAny_Assign_Attribute (thn (he.run pins s σ H _ I h) fun v s1 hv => ?_) hs⟩
  obtain ⟨y, H1, I1, r1, q1⟩ := hv
  refine thn (ho.run pins s1 σ H1 _ I1 q1) fun u s2 hu => ?_
  obtain ⟨x, H2, I2, r2, a, C, ex, T, hno, q⟩ := hu
  subst ex
  have eu : u = Value.ref a := r2
  subst eu
  rcases q with ⟨ea, q⟩ | ⟨dx, fs, ea, ed, hl, q⟩
  · exact est_new T I2 ea hno r1 fun dx s3 n ne J3 => ⟨σ, _, J3, q dx n ne⟩
  · exact est_old T I2 ea ed hl hno r1 fun s3 J3 => ⟨σ, _, J3, q⟩
/-- what an exception's __init__ of one (two) stored arguments promises -/
noncomputable def spX1 (K : PySem.W.Frag) (f : Str) : Sp := fun vs H Q _ => ∃ (a C : Addr) (y : V), vs = [.ref a, y] ∧ ExE K C ∧ PySem.W.takerIn K C f = some none ∧ H a = some (exo a C none) ∧
  ∀ dx, H dx = none → dx ≠ a → Q .non (upd (upd H dx (exd dx [(f, y)])) a (exo a C (some dx)))
noncomputable def spX2 (K : PySem.W.Frag) (f g : Str) : Sp := fun vs H Q _ => ∃ (a C : Addr) (y z : V), vs = [.ref a, y, z] ∧ ExE K C ∧ PySem.W.takerIn K C f = some none ∧ PySem.W.takerIn K C g = some none ∧ H a = some (exo a C none) ∧
  ∀ dx, H dx = none → dx ≠ a → Q .non (upd (upd H dx (exd dx [(g, z), (f, y)])) a (exo a C (some dx)))
theorem ok_x1 {P : Program} {w : World} {K : PySem.W.Frag} {mg : Str → Option Value} {base : Heap} {x qual s0 p0 : Str} {st : Stmt} {fA : Addr} {fd : FuncData} {f : Str} (Fu : Fun K x qual st fA fd) (Sc : FnScope [s0, p0] [s0, p0] (defScope st))
    (hbody : ∀ (cdv : Value) (A : Around) (outer : List Env) (s : Shared) (H : Hp) (E : XK), PSs (cxOf (L2.CX P w) P w K mg base [s0, p0] qual (defScope st) fA cdv A outer s H E) (defBody st) (tEst K f (tVar 0) (tVar 1))) :
    FnOk P w K mg base (L2.CX P w) 1 fA fd [s0, p0] (spX1 K f) := by
  refine Fu.okX Sc (fun vs H Q E h => ?_) (fun cdv A outer s H vs Q E hr h => ?_)
  · obtain ⟨a, C, y, rfl, _⟩ := h
    rfl
  · obtain ⟨a, C, y, rfl, T, hno, ha, q⟩ := h
    exact ⟨_, hbody cdv A outer s H E, y, rfl, .ref a, rfl, a, C, rfl, T, hno, .inl ⟨ha, q⟩⟩
theorem ok_x2 {P : Program} {w : World} {K : PySem.W.Frag} {mg : Str → Option Value} {base : Heap} {x qual s0 p0 p1 : Str} {st : Stmt} {fA : Addr} {fd : FuncData} {f g : Str} (Fu : Fun K x qual st fA fd) (Sc : FnScope [s0, p0, p1] [s0, p0, p1] (defScope st))
    (hbody : ∀ (cdv : Value) (A : Around) (outer : List Env) (s : Shared) (H : Hp) (E : XK), PSs (cxOf (L2.CX P w) P w K mg base [s0, p0, p1] qual (defScope st) fA cdv A outer s H E) (defBody st) (fun D σ H => tEst K f (tVar 0) (tVar 1) { D with nx := tEst K g (tVar 0) (tVar 2) D } σ H)) :
    FnOk P w K mg base (L2.CX P w) 1 fA fd [s0, p0, p1] (spX2 K f g) := by
  refine Fu.okX Sc (fun vs H Q E h => ?_) (fun cdv A outer s H vs Q E hr h => ?_)
  · obtain ⟨a, C, y, z, rfl, _⟩ := h
    rfl
  · obtain ⟨a, C, y, z, rfl, T, h1, h2, ha, q⟩ := h
    refine ⟨_, hbody cdv A outer s H E, y, rfl, .ref a, rfl, a, C, rfl, T, h1, .inl ⟨ha, fun dx hn ne => ?_⟩⟩
    refine ⟨z, rfl, .ref a, rfl, a, C, rfl, T, h2, .inr ⟨dx, [(f, y)], upd_same, by rw [upd_ne ne, upd_same], by simp, ?_⟩⟩
    have e : upd (upd (upd H dx (exd dx [(f, y)])) a (exo a C (some dx))) dx (exd dx [(g, z), (f, y)]) = upd (upd H dx (exd dx [(g, z), (f, y)])) a (exo a C (some dx)) := by
      funext b
      by_cases hb : b = dx
      · subst hb
        rw [upd_same, upd_ne ne, upd_same]
      · by_cases hc : b = a
        · subst hc
          rw [upd_ne hb, upd_same, upd_same]
        · rw [upd_ne hb, upd_ne hc, upd_ne hb, upd_ne hc, upd_ne hb]
    show Q .non _
    rw [e]
    exact q dx hn ne
/-- C(e, ..) of an own exception class over Exception -/
theorem pmk_ex {x : Str} {C fI : Addr} {k : Nat} {fd : FuncData} {ps : List Str} {sp : Sp} (T : ExE X.K C) (iC : PySem.W.findIn X.K (.ref C) "__init__" = some (some (.ref fI))) (tI : PySem.W.typeIn X.K (.ref fI) = some (.type "function"))
    (F1 : FnOk X.prog X.w X.K X.mg X.base (L2.CX X.prog X.w) k fI fd ps sp) (hr : Room (k + 1) X.A) (hb : Binds X.K fd ps []) (hg : Gl X x) (hm : X.mg x = some (.ref C)) (ha : PA X (e :: es) ta)
    (hdb : (x == ("__debug__" : Str)) = false := by decide) (he : starEach (e :: es) X.env = (false, eval e X.env) :: starEach es X.env := by rfl) (hpl : (backTo pos (starEach es X.env)).any (·.1) = false := by rfl) :
    PMk X (.Call (.Name x p) (e :: es) [] pos) (tMkO C sp [] ta) := by
  intro pins s σ H Q I h
  refine wpAny_Call_Name_kw (ld_glob I hg hm ?_ hdb)
  refine PySem.W.callWith_K (h₀ := X.base) I.ok.mod.kin T.keep (thn (ha.run pos pins s σ H _ I h) fun us s1 hu => ?_) he hpl
  obtain ⟨vs, H1, I1, r1, hz, q1⟩ := hu
  refine ⟨I1.kIn, ?_⟩
  obtain ⟨h0, g, dr, tk, os⟩ := s1
  obtain ⟨nm, N, qn, bs, bm, hdct, sn, sub, ab, col, dd, k0, k1, k2, k3, k5, hC, hT⟩ := PySem.W.excInit_of I1.kIn T.ini
  obtain ⟨h2, eh2⟩ : ∃ z, z = (h0.push (PySem.W.kdv_tup us)).push (PySem.HandSPX.excO C h0.objs.size) := ⟨_, rfl⟩
  have grow : h0.objs.size ≤ h0.objs.size + 1 := Nat.le_succ _
  have keepH : ∀ b ob, h0.get? b = some ob → h2.get? b = some ob := fun b ob q => by
    rw [eh2]
    exact Heap.get?_push_of_some _ (Heap.get?_push_of_some _ q)
  have there : h2.get? (h0.objs.size + 1) = some (PySem.HandSPX.excO C h0.objs.size) := by
    rw [eh2]
    heap_get
  have free : H1 (h0.objs.size + 1) = none := I1.hok.fresh grow
  have hq := q1 _ free
  have J : Inv X pins σ (upd H1 (h0.objs.size + 1) (exo (h0.objs.size + 1) C none)) ⟨h2, g, dr, tk, os⟩ := I1.laid (t' := tk) (h' := h2) keepH grow (exo_ok there)
  rw [List.append_nil] at hq
  have rr : Vals (V.ref (h0.objs.size + 1) :: vs) (Value.ref (h0.objs.size + 1) :: us) := .cons rfl r1
  have hl : (Value.ref (h0.objs.size + 1) :: us).length = ps.length := by
    have z := rr.length
    rw [F1.len _ _ _ _ hq] at z
    exact z.symm
  have hus : us.length ≤ sizeLine := by
    rw [← Paired.length r1, sizeLine_eq]
    omega
  have bd := hb ⟨h2, g, dr, tk, os⟩ (Value.ref (h0.objs.size + 1) :: us) J.kIn (by rw [List.append_nil]; exact hl)
  rw [List.append_nil] at bd
  have run := F1.run _ X.stack _ _ ⟨Value.ref (h0.objs.size + 1) :: us, []⟩ _ _ _ _ (hr.make C us []) (J.env0.make C us []) bd rr hq
  show wpAny _ _ (call (.ref C) us) _ _ _
  refine wpAny_call (PySem.HandSPX.call_own PySem.F.excBase_Exception hT hC (PySem.W.looks_findIn I1.kIn iC) (fun self => PySem.W.bind_fn I1.kIn self tI) hus ?_)
  rw [← eh2]
  refine codeAny_mono run fun r s' hr' => ?_
  cases r with
  | error er =>
    obtain ⟨_, _, _, _, _, _, _, _, _, _, _, _, z⟩ := hr'
    exact z.elim
  | ok fl =>
    cases fl with
    | ret u =>
      obtain ⟨v, H2, os2, bare2, un2, hok2, rv, ev, d, fs, ea, ed, hd1, q2⟩ := hr'
      subst ev
      obtain ⟨h3, g3, d3, t3, os3⟩ := s'
      exact ⟨rv, mk_end (raises_own T.sub T.ty) I1 grow keepH un2 hok2 os2 bare2 ea ed hd1 q2⟩
    | next => exact False.elim hr'
    | brk => exact False.elim hr'
    | cont => exact False.elim hr'
end
section
variable {X : Cx} {W : WX} {e : Expr} {es : List Expr} {fa : F (List D)} {p pos pos' : Pos}
noncomputable def sRaise1 (C : Addr) (f : Str) (fa : F (List D)) : FS := fun L s => (fa L s).bindS L fun ds s1 => match ds with
  | [d] => .ex C [f] [d] L s1
  | _ => .bad
noncomputable def sRaise2 (C : Addr) (f g : Str) (fa : F (List D)) : FS := fun L s => (fa L s).bindS L fun ds s1 => match ds with
  | [d, d'] => .ex C [g, f] [d', d] L s1
  | _ => .bad
theorem xd_end {H1 : Hp} {a C dx : Addr} {u : HO} {fs : List (Str × V)} (ha : H1 a = none) (hne : dx ≠ a) : upd (del (upd (upd (upd H1 a (exo a C none)) dx u) a (exo a C (some dx))) a) dx (.xd fs) = upd H1 dx (.xd fs) := by
  funext b
  by_cases hb : b = dx
  · subst hb
    rw [upd_same, upd_same]
  · rw [upd_ne hb, upd_ne hb]
    by_cases hc : b = a
    · subst hc
      rw [del_same, ha]
    · rw [del_ne hc, upd_ne hc, upd_ne hb, upd_ne hc]
theorem pS_raise1 {x f : Str} {C fI : Addr} {k : Nat} {fd : FuncData} {ps : List Str} (hc : X.calm = true) (tk : Takes X W) (T : ExE X.K C) (hf : PySem.W.takerIn X.K C f = some none) (iC : PySem.W.findIn X.K (.ref C) "__init__" = some (some (.ref fI))) (tI : PySem.W.typeIn X.K (.ref fI) = some (.type "function"))
    (F1 : FnOk X.prog X.w X.K X.mg X.base (L2.CX X.prog X.w) k fI fd ps (spX1 X.K f)) (hr : Room (k + 1) X.A) (hb : Binds X.K fd ps []) (hm : X.mg x = some (.ref C)) (ha : PA X (e :: es) (tA X.K W fa)) (hg : Gl X x := by rfl)
    (hdb : (x == ("__debug__" : Str)) = false := by decide) (he : starEach (e :: es) X.env = (false, eval e X.env) :: starEach es X.env := by rfl) (hpl : (backTo pos (starEach es X.env)).any (·.1) = false := by rfl) :
    PS X (.Raise (some (.Call (.Name x p) (e :: es) [] pos)) none pos') (tS X.K W (sRaise1 C f fa)) := by
  refine PS.weak (ps_raise hc tk (pmk_ex T iC tI F1 hr hb hg hm ha hdb he hpl)) fun D σ H ⟨mu, s, L, m, l, q⟩ => ⟨mu, s, L, m, l, Post.stepS l q fun ds s1 mu1 H1 vs g1 m1 r1 q1 => ?_⟩
  rcases ds with _ | ⟨d, _ | ⟨d', ds⟩⟩
  · exact q1.elim
  · obtain ⟨v, rfl, rd⟩ := rel1 r1
    refine ⟨by simp, fun a hn => ⟨a, C, v, rfl, T, hf, upd_same, fun dx hdx hne => ⟨rfl, dx, [(f, v)], upd_same, by rw [upd_ne hne, upd_same], by rw [upd_ne hne] at hdx; exact hdx, ?_⟩⟩⟩
    rw [upd_ne hne] at hdx
    rw [xd_end hn hne]
    exact q1 mu1 σ _ (some dx) (Ge.pure m1 hdx) (m1.pure hdx) ((l.mono g1).mono (Ge.pure m1 hdx)) (.inr ⟨dx, [v], rfl, upd_same, m1.fresh hdx, rfl, .cons (rd.mono (Ge.pure m1 hdx)) .nil⟩)
  · exact q1.elim
theorem pS_raise2 {x f f' : Str} {C fI : Addr} {k : Nat} {fd : FuncData} {ps : List Str} (hc : X.calm = true) (tk : Takes X W) (T : ExE X.K C) (hf : PySem.W.takerIn X.K C f = some none) (hf' : PySem.W.takerIn X.K C f' = some none) (iC : PySem.W.findIn X.K (.ref C) "__init__" = some (some (.ref fI))) (tI : PySem.W.typeIn X.K (.ref fI) = some (.type "function"))
    (F1 : FnOk X.prog X.w X.K X.mg X.base (L2.CX X.prog X.w) k fI fd ps (spX2 X.K f f')) (hr : Room (k + 1) X.A) (hb : Binds X.K fd ps []) (hm : X.mg x = some (.ref C)) (ha : PA X (e :: es) (tA X.K W fa)) (hg : Gl X x := by rfl)
    (hdb : (x == ("__debug__" : Str)) = false := by decide) (he : starEach (e :: es) X.env = (false, eval e X.env) :: starEach es X.env := by rfl) (hpl : (backTo pos (starEach es X.env)).any (·.1) = false := by rfl) :
    PS X (.Raise (some (.Call (.Name x p) (e :: es) [] pos)) none pos') (tS X.K W (sRaise2 C f f' fa)) := by
  refine PS.weak (ps_raise hc tk (pmk_ex T iC tI F1 hr hb hg hm ha hdb he hpl)) fun D σ H ⟨mu, s, L, m, l, q⟩ => ⟨mu, s, L, m, l, Post.stepS l q fun ds s1 mu1 H1 vs g1 m1 r1 q1 => ?_⟩
  rcases ds with _ | ⟨d, _ | ⟨d', _ | ⟨d'', ds⟩⟩⟩
  · exact q1.elim
  · exact q1.elim
  · obtain ⟨v, v', rfl, rd, rd'⟩ := rel2 r1
    refine ⟨by simp, fun a hn => ⟨a, C, v, v', rfl, T, hf, hf', upd_same, fun dx hdx hne => ⟨rfl, dx, [(f', v'), (f, v)], upd_same, by rw [upd_ne hne, upd_same], by rw [upd_ne hne] at hdx; exact hdx, ?_⟩⟩⟩
    rw [upd_ne hne] at hdx
    rw [xd_end hn hne]
    exact q1 mu1 σ _ (some dx) (Ge.pure m1 hdx) (m1.pure hdx) ((l.mono g1).mono (Ge.pure m1 hdx)) (.inr ⟨dx, [v', v], rfl, upd_same, m1.fresh hdx, rfl, .cons (rd'.mono (Ge.pure m1 hdx)) (.cons (rd.mono (Ge.pure m1 hdx)) .nil)⟩)
  · exact q1.elim
/-! ### try -/
noncomputable def RS.drop (i : Nat) : RS → RS
  | .nx L s => .nx (L.set i none) s
  | .rt d s => .rt d s
  | .bk L s => .bk (L.set i none) s
  | .ct L s => .ct (L.set i none) s
  | .ex _ _ _ _ _ => .bad
  | .bad => .bad
open Classical in
/-- the common result, if there is one -/
noncomputable def hAll (g : Addr → Option Addr → RS) : RS := if h : ∃ r, ∀ a od, g a od = r then h.choose else .bad
theorem hAll_of {g : Addr → Option Addr → RS} {r : RS} (h : ∀ a od, g a od = r) : hAll g = r := by
  have hx : ∃ r, ∀ a od, g a od = r := ⟨r, h⟩
  unfold hAll
  rw [dif_pos hx]
  exact (hx.choose_spec 0 none).symm.trans (h 0 none)
theorem hAll_at {g : Addr → Option Addr → RS} (a : Addr) (od : Option Addr) : hAll g = .bad ∨ g a od = hAll g := by
  unfold hAll
  split
  · rename_i h
    exact .inr (h.choose_spec a od)
  · exact .inl rfl
noncomputable def selOf : List (Addr × Bool) → Addr → Option Bool
  | [], _ => none
  | (c, b) :: r, C => if C = c then some b else selOf r C
theorem selOf_mem {C : Addr} {b : Bool} : ∀ {l : List (Addr × Bool)}, selOf l C = some b → (C, b) ∈ l
  | [], h => by cases h
  | (c, b') :: r, h => by
    unfold selOf at h
    split at h
    · rename_i e
      cases h
      subst e
      exact List.mem_cons_self ..
    · exact List.mem_cons_of_mem _ (selOf_mem h)
noncomputable def sTryAs (i : Nat) (sel : List (Addr × Bool)) (b : FS) (h : Addr → Addr → Option Addr → FS) : FS := fun L s => match b L s with
  | .ex C fs vs L1 s1 => match selOf sel C with
    | some true => hAll fun a od => (h a C od (L1.set i (some (.exc a C od fs vs))) s1).drop i
    | some false => .ex C fs vs L1 s1
    | none => .bad
  | r => r
theorem PostS.drop {K : PySem.W.Frag} {W0 : WX} {D : Ends} {mu : Mu} {H : Hp} {i : Nat} {r : RS} (h : PostS K W0 D mu H (r.drop i)) :
    PostS K (fun _ _ _ _ => False) { nx := fun σ' H' => D.nx (σ'.set i none) H', rt := D.rt, bk := fun σ' H' => D.bk (σ'.set i none) H', ct := fun σ' H' => D.ct (σ'.set i none) H' } mu H r := by
  cases r with
  | nx L s => exact fun mu' σ' H' g m l => h mu' _ H' g m (l.del i)
  | rt d s => exact h
  | bk L s => exact fun mu' σ' H' g m l => h mu' _ H' g m (l.del i)
  | ct L s => exact fun mu' σ' H' g m l => h mu' _ H' g m (l.del i)
  | ex C fs vs L s => exact h.elim
  | bad => exact h
/-- e.f in the suite -/
noncomputable def fXf (a0 C0 : Addr) (d0 : Option Addr) (cs : List Addr) (n : Str) (f : F D) : F D := fun L s => (f L s).bind fun d s1 => match d with
  | .exc a C od fs vs => if a = a0 ∧ C = C0 ∧ od = d0 ∧ C ∈ cs then (match (fs.zip vs).lookup n with
    | some r => .ok r s1
    | none => .bad) else .bad
  | _ => .bad
theorem pE_xf {a C : Addr} {oe : Obj} {d : Option Addr} {pn : List (Addr × Obj)} {f : F D} {n : Str} {cs : List Addr} (hC : ∀ C ∈ cs, XfC X.K C ∧ PySem.W.findIn X.K (.ref C) n = some none) (hz : Zc (.ref C) d oe) (hf : ∃ vs, oe.data = .fields vs)
    (he : PE (X.suite a ((a, oe) :: pn)) e (tE X.K W f)) (hb : attributeBase e n X.env (eval e X.env) = eval e X.env := by rfl) : PE (X.suite a ((a, oe) :: pn)) (.Attribute e n pos) (tE X.K W (fXf a C d cs n f)) := by
  refine ⟨fun pins s σ H Q I hq => ?_⟩
  by_cases hc : C ∈ cs
  · refine (pe_xf (hC C hc).1 (hC C hc).2 hz hf he hb).run pins s σ H Q I ?_
    obtain ⟨mu, s', L, m, l, q⟩ := hq
    refine ⟨mu, s', L, m, l, Post.step q fun d1 s1 mu1 H1 v1 g1 m1 r1 p1 => ?_⟩
    cases d1 <;> try exact p1.elim
    dsimp only at p1
    split at p1
    · rename_i hx
      obtain ⟨rfl, rfl, rfl, _⟩ := hx
      simp only [RelD] at r1
      obtain ⟨rfl, ws, hd, hl, rr⟩ := r1
      cases el : (List.zip ‹List Str› ‹List D›).lookup n with
      | none =>
        rw [el] at p1
        exact p1.elim
      | some r =>
        rw [el] at p1
        obtain ⟨v, ev, rv⟩ := zip_look rr el
        rcases hd with ⟨rfl, rfl⟩ | ⟨dd, rfl, h1, h2⟩
        · cases ev
        · exact ⟨rfl, rfl, dd, _, v, rfl, h1, ev, p1 mu1 H1 v (Ge.refl _ _) m1 rv⟩
    · exact p1.elim
  · obtain ⟨mu, s', L, m, l, q⟩ := hq
    refine attr_of hb (thn (he.run pins s σ H (fun _ _ => False) I ⟨mu, s', L, m, l, Post.step q fun d1 s1 mu1 H1 v1 g1 m1 r1 p1 => ?_⟩) fun u s1 hh => ?_)
    · cases d1 <;> try exact p1.elim
      dsimp only at p1
      split at p1
      · rename_i hx
        obtain ⟨_, rfl, _, hmem⟩ := hx
        exact hc hmem
      · exact p1.elim
    · obtain ⟨_, _, _, _, z⟩ := hh
      exact z.elim
end
end SI

namespace PySem.W
open PySem PySem.Calls PyProof.Rows
section
variable {prog : Program} {w : World} {A : Around} {E : Value → Shared → Prop} {s : Shared} {K : Frag} {x C f : Addr} {ox : Obj} {od : Option Obj} {T : String}
end
end PySem.W
namespace SI
open PySem PySem.Spec PyProof.Rows L2
section
variable {X : Cx} {W : WX} {a b : Expr} {f g : F D} {pos : Pos}
/-! ### any, all of a list of bools -/
noncomputable def blsOf : List D → Option (List Bool)
  | [] => some []
  | .bl b :: r => (blsOf r).map (b :: ·)
  | _ => none
theorem bls_rel {K : PySem.W.Frag} {mu : Mu} {H : Hp} : ∀ {ds : List D} {vs : List V} {bs : List Bool}, RelDs K mu H ds vs → blsOf ds = some bs → vs = bs.map V.bl
  | [], vs, bs, r, e => by
    simp only [RelDs] at r
    cases e
    rw [r]
    rfl
  | d :: ds, vs, bs, r, e => by
    simp only [RelDs] at r
    obtain ⟨v, vr, rfl, h1, h2⟩ := r
    cases d <;> simp only [blsOf] at e <;> try cases e
    obtain ⟨bs', e', rfl⟩ := Option.map_eq_some_iff.mp e
    rw [rel_bl.mp h1, bls_rel h2 e']
    rfl
noncomputable def bAll (s : S) : List D → Option D
  | [d] => ((lstOf s d).bind blsOf).map fun bs => .bl (bs.all id)
  | _ => none
theorem cbl_all {K : PySem.W.Frag} : CbL K (rAll K) bAll := by
  intro mu s H ds d vs Q m r e q
  rcases ds with _ | ⟨d1, _ | ⟨d2, ds⟩⟩
  · cases e
  · obtain ⟨v, rfl, r1⟩ := rel1 r
    obtain ⟨bs, e1, rfl⟩ := Option.map_eq_some_iff.mp e
    obtain ⟨xs, e2, e3⟩ := Option.bind_eq_some_iff.mp e1
    obtain ⟨a, vs, rfl, h2, h3⟩ := sq_lstOf m r1 e2
    exact ⟨a, bs, rfl, by rw [← bls_rel h3 e3]; exact h2, q mu H _ (Ge.refl _ _) m (rel_bl.mpr rfl)⟩
  · cases e
theorem pE_all {e : Expr} {fa : F (List D)} {p : Pos} (hc : X.calm = true) (hm : X.mg "all" = none) (ha : PA X [e] (tA X.K W fa)) (hg : Gl X "all" := by rfl) (he : starEach [e] X.env = (false, eval e X.env) :: starEach [] X.env := by rfl) :
    PE X (.Call (.Name "all" p) [e] [] pos) (tE X.K W (fCB bAll fa)) := pE_cb (cr_all hc) cbl_all hm (by decide +kernel) ha hg (by decide) (by decide) he rfl
/-! ### calls without arguments -/
/-- an own exception class without own __init__ -/
structure Ex0 (K : PySem.W.Frag) (C : Addr) : Prop where
  ini : PySem.W.excIn K C exTail "Exception.__new__" = true
  sub : PySem.W.subIn K (.ref C) (.type "BaseException") = some true
  ty : PySem.W.typeIn K (.ref C) = some (.type "type")
  keep : PySem.W.keepIn K (.ref C) = true
noncomputable def sRaise0 (C : Addr) : FS := fun L s => .ex C [] [] L s
theorem pS_raise0 {x : Str} {C : Addr} {p p' : Pos} (hc : X.calm = true) (tk : Takes X W) (T : Ex0 X.K C) (hm : X.mg x = some (.ref C)) (hg : Gl X x := by rfl) (hdb : (x == ("__debug__" : Str)) = false := by decide) :
    PS X (.Raise (some (.Call (.Name x p) [] [] pos)) none p') (tS X.K W (sRaise0 C)) := by
  have mk : PMk X (.Call (.Name x p) [] [] pos) (fun _ H Q => Q (.ref C) none H) := by
    intro pins s σ H Q I h
    refine wpAny_Call_Name_kw (ld_glob I hg hm ?_ hdb)
    refine PySem.W.callWith_K0 I.kIn T.keep ?_
    show wpAny _ _ (call (.ref C) []) _ _ _
    obtain ⟨bm, N, nm, qn, bs, hdct, sn, sub, ab, col, dd, k0, k1, k2, k3, k5, mN, hC, hN, hni, tl⟩ := exc_obj I.kIn T.ini
    exact wpAny_call_exc_subT PySem.F.excBase_Exception tl hC hN hni (fun h' e hx => mk_of (I.tok _) hx (raises_own T.sub T.ty) h (I.hok.gone hx.new)) (Nat.zero_le _)
  exact PS.weak (ps_raise hc tk mk) fun D σ H ⟨mu, s, L, m, l, q⟩ => q mu σ H none (Ge.refl _ _) m l (.inl ⟨rfl, rfl, rfl⟩)
noncomputable def RS.calm : RS → RS
  | .ex _ _ _ _ _ => .bad
  | r => r
/-- try .. except C: -/
noncomputable def sTry (sel : List (Addr × Bool)) (b h : FS) : FS := fun L s => match b L s with
  | .ex C fs vs L1 s1 => match selOf sel C with
    | some true => (h L1 s1).calm
    | some false => .ex C fs vs L1 s1
    | none => .bad
  | r => r
theorem PostS.calm {K : PySem.W.Frag} {W0 : WX} {D : Ends} {mu : Mu} {H : Hp} {r : RS} (h : PostS K W0 D mu H r.calm) : PostS K (fun _ _ _ _ => False) D mu H r := by
  cases r with
  | ex C fs vs L s => exact h.elim
  | nx L s => exact h
  | rt d s => exact h
  | bk L s => exact h
  | ct L s => exact h
  | bad => exact h
end
end SI

namespace PySem
open Sem (wp)
open AutoSeq1 (wpAny_loadPart')
theorem meets_enum_newT (l : Addr) (xs : Array Value) (n : Nat) (dct : Option Addr) (sl : Array (Option Value)) :
    Meets (Builtin.«enumerate.__new__» ⟨[.type "enumerate", .ref l], []⟩) (fun _ R s => s.heap.get? l = some { cls := .type "tuple", dict := dct, data := .seq xs n, slots := sl } ∧
      R (.ok (.ret (.ref (s.heap.push { cls := .type "tuple_iterator", data := .fields #[.ref l, .int 0 0] }).objs.size)))
        { s with heap := (s.heap.push { cls := .type "tuple_iterator", data := .fields #[.ref l, .int 0 0] }).push { cls := .type "enumerate", data := .fields #[.none, .bool false, .ref s.heap.objs.size, rawInt 0, .none, .none] } }) :=
  .of_wp fun prog w A R s hyp => by
    obtain ⟨hp, g, d, tk, os⟩ := s; obtain ⟨ho, h⟩ := hyp
    have hsub := sub_enumerate
    have isT : Heap.IsTuple (Shared.heap ⟨hp, g, d, tk, os⟩) l xs := ⟨_, ho, rfl, n, rfl⟩
    wp_walk using wpAny_loadPart' ho
    refine wpAny_stack_any fun st => wpAny_pure ?_
    split
    · rename_i c _ _ _ _ _
      cases (c == Value.type "enumerate") <;> (wp_walk using wpAny_loadPart' ho, wpAny_pyIter_tuple isT; exact ⟨_, rfl, h⟩)
    · wp_walk using wpAny_loadPart' ho, wpAny_pyIter_tuple isT
      exact ⟨_, rfl, h⟩
section
variable {prog : Program} {w : World} {A : Around} {E : Value → Shared → Prop} {s : Shared}
theorem call_enum_tuple {l : Addr} {xs : Array Value} {Q : Value → Shared → Prop} (isT : s.heap.IsTuple l xs)
    (k : ∀ h2, IsEnum h2 (s.heap.objs.size + 1) s.heap.objs.size 0 .none → h2.IsTupleIter s.heap.objs.size l 0 → h2.objs.size = s.heap.objs.size + 2 →
      (∀ b o, s.heap.get? b = some o → h2.get? b = some o) → Q (.ref (s.heap.objs.size + 1)) { s with heap := h2 }) :
    wpAny (model prog w) A (call (.type "enumerate") [.ref l]) Q E s := by
  obtain ⟨⟨c, dct, dt, sl⟩, ho, hc, n, hd⟩ := isT
  replace hc : c = .type "tuple" := hc
  replace hd : dt = .seq xs n := hd
  subst hc hd
  refine callType_new F.called_enumerate (by decide) (F.typeCall_enumerate_1 _) (F.newCall_enumerate_1 _) (fun obj => F.args_object_init_2 obj _) F.entry_enumerate_new (meets_enum_newT l xs n dct sl) ⟨ho, ?_⟩
  obtain ⟨h1, e1⟩ : ∃ z, z = s.heap.push { cls := .type "tuple_iterator", data := .fields #[.ref l, .int 0 0] } := ⟨_, rfl⟩
  have sz : h1.objs.size = s.heap.objs.size + 1 := by
    rw [e1]
    exact Heap.size_push ..
  show _ ∧ _
  rw [← e1, sz]
  have en : IsEnum (h1.push { cls := .type "enumerate", data := .fields #[.none, .bool false, .ref s.heap.objs.size, rawInt 0, .none, .none] }) (s.heap.objs.size + 1) s.heap.objs.size 0 .none := by
    have z := Heap.get?_push_size h1 (o := { cls := .type "enumerate", data := .fields #[.none, .bool false, .ref s.heap.objs.size, rawInt 0, .none, .none] }) rfl
    rw [sz] at z
    exact z
  refine ⟨⟨_, en, rfl⟩, k _ en ⟨_, Heap.get?_push_of_some _ (by rw [e1]; exact Heap.get?_push_size _ rfl), rfl, rfl⟩ (by rw [Heap.size_push, sz]) fun b o q => Heap.get?_push_of_some _ (by rw [e1]; exact Heap.get?_push_of_some _ q)⟩
end
end PySem
namespace L2
open PySem PySem.Spec PyProof.Rows
/-- enumerate(tuple): each item in a new pair -/
noncomputable def IteT (K : PySem.W.Frag) (a : Addr) : It :=
  ⟨fun i H => ∃ (xs : List V) (x : V), SqT K H a xs ∧ xs[i]? = some x, fun i H v H' => ∃ T x, v = .ref T ∧ H T = none ∧ H' = upd H T (.tup [.int (i : Nat), x]) ∧ ∀ xs, SqT K H a xs → xs[i]? = some x, fun i H => ∃ xs : List V, SqT K H a xs ∧ xs.length ≤ i⟩
theorem turn_enumT {P : Program} {w : World} {K : PySem.W.Frag} {elts : List Expr} {kk : Nat} {tpos : Pos} (a e it : Addr) :
    Turn P w K (.Tuple elts kk tpos) (IteT K a) [e, it] e (fun i h => (∃ old, IsEnum h e it ((i : Nat) : Int) old) ∧ h.IsTupleIter it a i ∧ e ≠ it) where
  mem := by simp
  obj := fun i h st b hb => by
    obtain ⟨⟨old, he⟩, ⟨o, ho, hc, hd⟩, _⟩ := st
    have cs : b = e ∨ b = it := by simpa using hb
    rcases cs with z | z
    · rw [z]; exact ⟨_, he, fun v q => nomatch q⟩
    · rw [z]; exact ⟨o, ho, fun v q => by rw [hd] at q; cases q⟩
  keep := fun i h h' st k => by
    obtain ⟨⟨old, he⟩, hi, hne⟩ := st
    exact ⟨⟨old, k e (by simp) _ he⟩, hi.at fun o q => k it (by simp) o q, hne⟩
  item := by
    intro X hP hw hK hc i pins s σ H E I hf st hg
    subst hP hw hK
    obtain ⟨⟨old, he⟩, hit, hne⟩ := st
    obtain ⟨xs, x, hq, hx⟩ := hg
    obtain ⟨its, rv, p, hz⟩ := I.tuple hq
    obtain ⟨u, hu, ru⟩ := rv.get hx
    have hel : e < s.heap.objs.size := Heap.lt_size he
    have hil : it < s.heap.objs.size := by obtain ⟨_, q, _⟩ := hit; exact Heap.lt_size q
    have hisT : s.heap.IsTuple a its.toArray := p
    have nae : e ≠ a := fun z => by
      obtain ⟨o, q1, q2, _⟩ := hisT
      rw [← z] at q1
      have q3 : s.heap.get? e = _ := he
      rw [q3] at q1
      cases q1
      exact absurd (Value.type.inj q2) (by decide)
    have nai : a ≠ it := fun z => by
      obtain ⟨o, q1, q2, _⟩ := hisT
      obtain ⟨o', r1, r2, _⟩ := hit
      rw [z, r1] at q1
      cases q1
      rw [r2] at q2
      exact absurd (Value.type.inj q2) (by decide)
    have hlt : i < its.toArray.size := by
      have := (List.getElem?_eq_some_iff.mp hu).1
      simpa using this
    refine wpAny_pyNext_enum_itemD (Draws.tuple (A := X.A.in1) (I.ok.hd hc) it a nai its.toArray) he ⟨hit, hisT⟩ hlt hne (by simp [hne, nae]) fun y h' tk py ho st' hT hsz hk => ?_
    have hy : y = u := by
      have z : its[i]? = some y := by simpa using py
      rw [hu] at z
      cases z
      rfl
    subst hy
    refine ⟨_, rfl, wpAny_letOwnedTupleGo_enum (s := { s with heap := h', toks := tk + 1 }) ho fun h'' he' sb => ?_⟩
    have hT2 : h''.get? s.heap.objs.size = some { cls := .type "tuple", data := .seq #[.int i tk, y] } := (sb.2 _ (Nat.ne_of_gt hel)).trans hT
    have new : ObjOk X.prog X.w (upd H s.heap.objs.size (.tup [.int (i : Nat), x])) h'' s.heap.objs.size (.tup [.int (i : Nat), x]) :=
      ⟨by show 2 ≤ sizeLine; decide, [.int i tk, y], .cons ⟨_, rfl⟩ (.cons ru .nil), ⟨_, hT2, rfl, _, rfl⟩⟩
    have J : Inv X pins σ (upd H s.heap.objs.size (.tup [.int (i : Nat), x])) { s with heap := h'', toks := tk + 1 } :=
      I.turnedNew (ch := [e, it]) (fun b ob hb q => (sb.2 b (fun z => hb (by simp [z]))).trans (hk b ob (fun z => hb (by simp [z])) (fun z => hb (by simp [z])) q)) hf (Nat.le_refl _) new
    refine ⟨.ref s.heap.objs.size, _, J, rfl, ⟨_, x, rfl, I.hok.fresh (Nat.le_refl _), rfl, fun ys hy => by rw [I.tuple_inj hy hq]; exact hx⟩, ⟨⟨y, ?_⟩, st'.1.at fun o q => (sb.2 it (Ne.symm hne)).trans q, hne⟩, fun b hb => ?_⟩
    · have cast : ((i + 1 : Nat) : Int) = (i : Int) + 1 := by omega
      rw [cast]; exact he'
    · have low : b < s.heap.objs.size := by
        have cs : b = e ∨ b = it := by simpa using hb
        rcases cs with z | z
        · rw [z]; exact hel
        · rw [z]; exact hil
      rw [upd_ne (Nat.ne_of_lt low)]
      exact (hf b hb).1
  done := by
    intro X hP hw hK hc i pins s σ H E I hf st hg
    subst hP hw hK
    obtain ⟨⟨old, he⟩, hit, hne⟩ := st
    obtain ⟨xs, hq, hx⟩ := hg
    obtain ⟨its, rv, p, hz⟩ := I.tuple hq
    obtain ⟨f0, f1, f2, f3, f4, f5⟩ := hf it (by simp)
    have hisT : s.heap.IsTuple a its.toArray := p
    have nai : a ≠ it := fun z => by
      obtain ⟨o, q1, q2, _⟩ := hisT
      obtain ⟨o', r1, r2, _⟩ := hit
      rw [z, r1] at q1
      cases q1
      rw [r2] at q2
      exact absurd (Value.type.inj q2) (by decide)
    have ends : its.toArray[i]? = none := by
      rw [Array.getElem?_eq_none_iff]
      have := rv.length
      simp
      omega
    have dr : Draws X.prog X.w X.A.in1 it [it, a] i (fun _ _ => True) (fun j h => (h.IsTupleIter it a j ∧ h.IsTuple a its.toArray) ∧ j = i) := {
      live := fun _ _ st => by
        obtain ⟨o, ho, _⟩ := st.1.1
        exact ⟨o, ho⟩
      frame := fun _ _ _ st hk => ⟨⟨st.1.1.at fun o q => hk it (by simp) o q, st.1.2.at fun o q => hk a (by simp) o q⟩, st.2⟩
      item := fun j s Q E hj st _ => absurd hj (by rw [st.2]; exact Nat.lt_irrefl _)
      done := fun s Q E st hE => wpAny_nextOf_tuple_end (I.ok.hd hc) st.1.1 st.1.2 ends hE }
    exact wpAny_pyNext_enum_endD dr he ⟨⟨hit, hisT⟩, rfl⟩ fun h' eb => ⟨rfl, I.turned (t' := s.toks) (fun b o hb q => eb b o hb q) f0 f1 f3 f4 f5⟩
  self := fun A i s Q E st h => let ⟨⟨_, he⟩, _⟩ := st; wpAny_pyIter_enum he h
noncomputable def iEnumT (K : PySem.W.Frag) (ta : TA) : TI := fun σ H R => ta σ H fun vs H1 => ∃ a xs, vs = [.ref a] ∧ SqT K H1 a xs ∧ R (IteT K a) H1
theorem pi_enumT {X : Cx} {e : Expr} {ta : TA} {p pos tpos : Pos} {elts : List Expr} {kk : Nat} (hg : Gl X "enumerate") (hm : X.mg "enumerate" = none) (ha : PA X [e] ta) (hs : starEach [e] X.env = [(false, eval e X.env)] := by rfl) :
    PI X (.Tuple elts kk tpos) (.Call (.Name "enumerate" p) [e] [] pos) (iEnumT X.K ta) := by
  refine ⟨fun pins s σ H R I h => Call_ (ld_blt I hg hm boot_enumerate (PyProof.Rows.callWith_type1 (thn (ha.run pos pins s σ H _ I h) fun us s1 hu => ?_) hs rfl))⟩
  obtain ⟨vs, H1, I1, r1, a, xs, ex, hq, q⟩ := hu
  subst ex
  obtain ⟨u, rfl, ru⟩ := Vals.one r1
  have eu : u = Value.ref a := ru
  subst eu
  obtain ⟨its, rv, pT, hz⟩ := I1.tuple hq
  refine call_enum_tuple pT fun h2 he hit hsz hk => wpAny_pyIter_enum he ?_
  refine ⟨s1.heap.objs.size + 1, [s1.heap.objs.size + 1, s1.heap.objs.size], _, _, H1, rfl, I1.kept (h' := h2) (t' := s1.toks) hk, turn_enumT a (s1.heap.objs.size + 1) s1.heap.objs.size, ⟨⟨.none, he⟩, hit, Nat.succ_ne_self _⟩, fun b hb => ?_, q⟩
  have hle : s1.heap.objs.size ≤ b := by
    have cs : b = s1.heap.objs.size + 1 ∨ b = s1.heap.objs.size := by simpa using hb
    rcases cs with z | z
    · exact z ▸ Nat.le_succ _
    · exact z ▸ Nat.le_refl _
  exact I1.fpOk hle (I1.hok.fresh hle)
end L2
namespace SI
open PySem PySem.Spec PyProof.Rows L2
section
variable {X : Cx} {W : WX} {e : Expr} {fa : F (List D)} {pos : Pos}
noncomputable def enumI : Nat → List D → List D
  | _, [] => []
  | i, x :: r => .tup [.int (i : Nat), x] :: enumI (i + 1) r
theorem enum_get : ∀ (xs : List D) (k i : Nat), (enumI k xs)[i]? = (xs[i]?).map fun x => D.tup [.int ((k + i : Nat) : Int), x]
  | [], k, i => by simp [enumI]
  | x :: r, k, 0 => by simp [enumI]
  | x :: r, k, i + 1 => by
    have := enum_get r (k + 1) i
    simp only [enumI, List.getElem?_cons_succ, this]
    rw [show k + 1 + i = k + (i + 1) by omega]
noncomputable def iEnu (s : S) : D → Option Src
  | .lst xs => some ⟨enumI 0 xs, none⟩
  | .rdl xs => some ⟨enumI 0 xs, none⟩
  | .tup xs => some ⟨enumI 0 xs, none⟩
  | .ref n => match s[n]? with
    | some (.lst xs) => some ⟨enumI 0 xs, some (n, xs)⟩
    | _ => none
  | _ => none
noncomputable def fEnu (fa : F (List D)) : F Src := fun L s => (fa L s).bind fun ds s1 => match ds with
  | [d] => match iEnu s1 d with
    | some r => .ok r s1
    | none => .bad
  | _ => .bad
theorem pair_rel {K : PySem.W.Frag} {mu : Mu} {s : S} {H : Hp} {d : D} {v : V} {i : Int} {T : Addr} (m : Sim K mu s H) (hT : H T = none) (r : RelD K mu H d v) :
    Ge mu H mu (upd H T (.tup [.int i, v])) ∧ Sim K mu s (upd H T (.tup [.int i, v])) ∧ RelD K mu (upd H T (.tup [.int i, v])) (.tup [.int i, d]) (.ref T) := by
  refine ⟨Ge.pure m hT, m.pure hT, ?_⟩
  simp only [RelD]
  exact ⟨T, _, rfl, .inr ⟨upd_same, m.fresh hT⟩, .cons (rel_int.mpr rfl) (.cons (r.mono (Ge.pure m hT)) .nil)⟩
theorem itr_enuL {K : PySem.W.Frag} {mu : Mu} {H : Hp} {ds : List D} {a : Addr} {on : Option (Nat × List D)} (h : ∀ mu' s' H', Ge mu H mu' H' → Sim K mu' s' H' → chk ⟨enumI 0 ds, on⟩ s' = true → ∃ vs, SqL K H' a vs ∧ RelDs K mu' H' ds vs) : ItR K mu H (Ite K a) ⟨enumI 0 ds, on⟩ := by
  intro mu' s' H' g m hk i
  obtain ⟨vs, sq, rs⟩ := h mu' s' H' g m hk
  refine ⟨fun d e => ?_, fun e => ?_⟩
  · have e1 : (enumI 0 ds)[i]? = some d := e
    rw [enum_get] at e1
    obtain ⟨x, ex, rfl⟩ := Option.map_eq_some_iff.mp e1
    obtain ⟨v, ev, rv⟩ := rs.get ex
    refine ⟨⟨vs, v, sq, ev⟩, fun y H2 hy => ?_⟩
    obtain ⟨T, z, rfl, hT, rfl, hz⟩ := hy
    have := hz vs sq
    rw [ev] at this
    cases this
    rw [show (0 + i : Nat) = i by omega]
    exact pair_rel m hT rv
  · refine ⟨vs, sq, ?_⟩
    have e1 : (enumI 0 ds)[i]? = none := e
    rw [enum_get, Option.map_eq_none_iff] at e1
    have h1 := List.getElem?_eq_none_iff.mp e1
    have h2 := rs.length
    omega
theorem itr_enuT {K : PySem.W.Frag} {mu : Mu} {H : Hp} {ds : List D} {a : Addr} {vs : List V} (h : KTup K a vs ∨ Fix mu H a (.tup vs)) (rs : RelDs K mu H ds vs) : ItR K mu H (IteT K a) ⟨enumI 0 ds, none⟩ := by
  intro mu' s' H' g m _ i
  have sq : SqT K H' a vs := h.elim .inr fun z => .inl (.inl (g.fix z).1)
  have rs' := rs.mono g
  refine ⟨fun d e => ?_, fun e => ?_⟩
  · have e1 : (enumI 0 ds)[i]? = some d := e
    rw [enum_get] at e1
    obtain ⟨x, ex, rfl⟩ := Option.map_eq_some_iff.mp e1
    obtain ⟨v, ev, rv⟩ := rs'.get ex
    refine ⟨⟨vs, v, sq, ev⟩, fun y H2 hy => ?_⟩
    obtain ⟨T, z, rfl, hT, rfl, hz⟩ := hy
    have := hz vs sq
    rw [ev] at this
    cases this
    rw [show (0 + i : Nat) = i by omega]
    exact pair_rel m hT rv
  · refine ⟨vs, sq, ?_⟩
    have e1 : (enumI 0 ds)[i]? = none := e
    rw [enum_get, Option.map_eq_none_iff] at e1
    have h1 := List.getElem?_eq_none_iff.mp e1
    have h2 := rs'.length
    omega
theorem pI_enum {p tpos : Pos} {elts : List Expr} {kk : Nat} (hm : X.mg "enumerate" = none) (ha : PA X [e] (tA X.K W fa)) (hg : Gl X "enumerate" := by rfl) (hs : starEach [e] X.env = [(false, eval e X.env)] := by rfl) :
    PI X (.Tuple elts kk tpos) (.Call (.Name "enumerate" p) [e] [] pos) (tI X.K W (fEnu fa)) := by
  refine PI.weak (PI.or (pi_enum hg hm ha hs) (pi_enumT hg hm ha hs)) fun σ H Rr ⟨mu, s, L, m, l, q⟩ => ?_
  unfold fEnu at q
  cases ef : fa L s with
  | bad =>
    rw [ef] at q
    exact q.elim
  | ex C fs ds s' =>
    rw [ef] at q
    exact .inl ⟨mu, s, L, m, l, by rw [ef]; exact q⟩
  | ok ds s1 =>
    rw [ef] at q
    simp only [R.bind] at q
    rcases ds with _ | ⟨d, _ | ⟨d2, ds⟩⟩
    · exact q.elim
    · cases d <;> simp only [iEnu] at q <;> try exact q.elim
      · rename_i n
        cases en : s1[n]? with
        | none =>
          rw [en] at q
          exact q.elim
        | some o =>
          rw [en] at q
          cases o <;> try exact q.elim
          rename_i xs
          refine .inl ⟨mu, s, L, m, l, ?_⟩
          rw [ef]
          intro mu' H' vs g' m' r'
          obtain ⟨v, rfl, r1⟩ := rel1 r'
          obtain ⟨a, ws, ev, ea, eh, rs⟩ := sq_ref m' r1 en
          subst ev
          refine ⟨a, ws, rfl, .of eh, q mu' H' _ g' m' (itr_enuL fun mu2 s2 H2 g2 m2 hk => ?_)⟩
          have e2 : s2[n]? = some (.lst xs) := by simpa [chk] using hk
          obtain ⟨b, us, eb, ec, ed, rs2⟩ := sq_ref (v := .ref a) m2 (by simp only [RelD]; exact ⟨a, g2.rf n a ea, rfl⟩) e2
          cases eb
          exact ⟨us, .of ed, rs2⟩
      · rename_i xs
        refine .inr ⟨mu, s, L, m, l, ?_⟩
        rw [ef]
        intro mu' H' vs g' m' r'
        obtain ⟨v, rfl, r1⟩ := rel1 r'
        simp only [RelD] at r1
        obtain ⟨a, ws, rfl, hk, rs⟩ := r1
        exact ⟨a, ws, rfl, hk.elim .inr fun z => .inl (.inl z.1), q mu' H' _ g' m' (itr_enuT hk rs)⟩
      · rename_i xs
        refine .inl ⟨mu, s, L, m, l, ?_⟩
        rw [ef]
        intro mu' H' vs g' m' r'
        obtain ⟨v, rfl, r1⟩ := rel1 r'
        simp only [RelD] at r1
        obtain ⟨a, ws, rfl, hk, rs⟩ := r1
        exact ⟨a, ws, rfl, .of hk.1, q mu' H' _ g' m' (itr_enuL fun mu2 s2 H2 g2 m2 _ => ⟨ws, .of (g2.fix hk).1, rs.mono g2⟩)⟩
      · rename_i xs
        refine .inl ⟨mu, s, L, m, l, ?_⟩
        rw [ef]
        intro mu' H' vs g' m' r'
        obtain ⟨v, rfl, r1⟩ := rel1 r'
        simp only [RelD] at r1
        obtain ⟨a, ws, rfl, hk, rs⟩ := r1
        exact ⟨a, ws, rfl, hk.elim .inr fun z => .inl z.1, q mu' H' _ g' m' (itr_enuL fun mu2 s2 H2 g2 m2 _ => ⟨ws, hk.elim .inr fun z => .inl (g2.fixR z).1, rs.mono g2⟩)⟩
    · exact q.elim
end
end SI

namespace SI
open PySem PySem.Spec PyProof.Rows L2
section
variable {X : Cx} {W : WX} {o e : Expr} {es : List Expr} {fo : F D} {fa : F (List D)} {pos : Pos}
/-! ### append -/
noncomputable def fApp (fo : F D) (fa : F (List D)) : F D := fun L s => (fo L s).bind fun d s1 => match d with
  | .ref n => match s1[n]? with
    | some (.lst _) => (fa L s1).bind fun ds s2 => match ds with
      | [y] => match s2[n]? with
        | some (.lst xs) => if xs.length < big then .ok .non (s2.set n (.lst (xs ++ [y]))) else .bad
        | _ => .bad
      | _ => .bad
    | _ => .bad
  | _ => .bad
theorem pE_append {apos : Pos} (ho : PE X o (tE X.K W fo)) (ha : PA X [e] (tA X.K W fa)) (hbase : attributeBase o "append" X.env (eval o X.env) = eval o X.env := by rfl)
    (hfew : ((backTo pos (starEach [e] X.env)).all (fun x => !x.1) && (backToKw pos (keywordEach [] X.env)).all (fun x => x.1.isSome)
      && decide ([e].length + ([] : List Keyword).length + (if ([] : List Keyword).isEmpty then 0 else 1) < 30)) = true := by rfl)
    (hline : (apos.endLine == pos.line) = true := by rfl) (hs : starEach [e] X.env = (false, eval e X.env) :: starEach [] X.env := by rfl) :
    PE X (.Call (.Attribute o "append" apos) [e] [] pos) (tE X.K W (fApp fo fa)) := by
  refine PE.weak (pe_bm PySem.F.plainAttrs_list PySem.F.slot_list_append PySem.F.type_list_append mt_append ho ha hbase hfew hline hs rfl) fun σ H Q ⟨mu, s, L, m, l, q⟩ => ?_
  refine ⟨mu, s, L, m, l, Post.step q fun d s1 mu1 H1 v1 g1 m1 r1 p1 => ?_⟩
  cases d <;> try exact p1.elim
  rename_i n
  dsimp only at p1
  cases en : s1[n]? with
  | none =>
    rw [en] at p1
    exact p1.elim
  | some ob =>
    rw [en] at p1
    cases ob <;> try exact p1.elim
    obtain ⟨a, vs, rfl, ea, eh, rs⟩ := sq_ref m1 r1 en
    refine ⟨.inl ⟨rfl, _, SqL.of eh⟩, mu1, s1, L, m1, l.mono g1, Post.step p1 fun ds s2 mu2 H2 ws g2 m2 r2 p2 => ?_⟩
    rcases ds with _ | ⟨y, _ | ⟨y2, ds⟩⟩
    · exact p2.elim
    · obtain ⟨w, rfl, rw⟩ := rel1 r2
      dsimp only at p2
      cases en2 : s2[n]? with
      | none =>
        rw [en2] at p2
        exact p2.elim
      | some ob =>
        rw [en2] at p2
        cases ob <;> try exact p2.elim
        rename_i xs
        dsimp only at p2
        split at p2
        · rename_i hlt
          have ea2 := g2.rf n a ea
          obtain ⟨b, us, eb, ec, ed, rs2⟩ := sq_ref (v := .ref a) m2 (by simp only [RelD]; exact ⟨a, ea2, rfl⟩) en2
          cases eb
          refine ⟨a, us, w, rfl, rfl, ed, ?_, ?_⟩
          · rw [← rs2.length]
            exact Nat.lt_of_lt_of_le hlt (big_le (Nat.le_refl _))
          · refine p2 mu2 _ _ (Ge.put ea2) (m2.put ea2 ?_) (rel_non.mpr rfl)
            exact ⟨us ++ [w], upd_same, (rs2.mono (Ge.put ea2)).append (.cons (rw.mono (Ge.put ea2)) .nil)⟩
        · exact p2.elim
    · exact p2.elim
/-! ### sum -/
noncomputable def intsOf : List D → Option (List Int)
  | [] => some []
  | .int i :: r => (intsOf r).map (i :: ·)
  | _ => none
/-! ### calls with keywords -/
theorem PK.weak {X : Cx} {kws : List Keyword} {t t' : TA} (h : PK X kws t) (w : ∀ σ H Q, t' σ H Q → t σ H Q) : PK X kws t' := ⟨fun pos pins s σ H Q I q => h.run pos pins s σ H Q I (w _ _ _ q)⟩
theorem pK_nil : PK X [] (tA X.K W fNil) := PK.weak pk_nil fun σ H Q ⟨mu, s, L, m, l, q⟩ => q mu H _ (Ge.refl _ _) m .nil
theorem pK_cons {nm : Option Str} {kpos : Pos} {kws : List Keyword} {f : F D} {r : F (List D)} (ha : PE X e (tE X.K W f)) (hr : PK X kws (tA X.K W r)) : PK X (⟨nm, e, kpos⟩ :: kws) (tA X.K W (fCons f r)) := by
  refine PK.weak (pk_cons ha hr) fun σ H Q ⟨mu, s, L, m, l, q⟩ => ?_
  refine ⟨mu, s, L, m, l, Post.step q fun d1 s1 mu1 H1 v1 g1 m1 r1 p1 => ⟨mu1, s1, L, m1, l.mono g1, Post.step p1 fun ds s2 mu2 H2 vs g2 m2 r2 p2 => p2 mu2 H2 _ (Ge.refl _ _) m2 (.cons (r1.mono g2) r2)⟩⟩
/-- where a parameter's value comes from -/
inductive Pk where
  | p (i : Nat) | k (j : Nat) | d (j : Nat)
noncomputable def arr {α : Type} (pk : List Pk) (xs zs ds : List α) : List α := pk.filterMap fun
  | .p i => xs[i]?
  | .k j => zs[j]?
  | .d j => ds[j]?
theorem vals_none {vs : List V} {us : List Value} {i : Nat} (r : Vals vs us) (h : vs[i]? = none) : us[i]? = none := by
  rw [List.getElem?_eq_none_iff] at h ⊢
  rw [← r.length]
  exact h
theorem arr_vals {vs zs ds : List V} {us ws es : List Value} (r : Vals vs us) (rz : Vals zs ws) (rd : Vals ds es) : ∀ pk : List Pk, Vals (arr pk vs zs ds) (arr pk us ws es)
  | [] => .nil
  | q :: pk => by
    have one : ∀ {as : List V} {bs : List Value} {i : Nat}, Vals as bs → (as[i]? = none ∧ bs[i]? = none) ∨ ∃ a b, as[i]? = some a ∧ bs[i]? = some b ∧ L2.RelV a b := fun {as bs i} h => by
      cases e : as[i]? with
      | none => exact .inl ⟨rfl, vals_none h e⟩
      | some a =>
        obtain ⟨b, e2, e3⟩ := h.get e
        exact .inr ⟨a, b, rfl, e2, e3⟩
    have ih := arr_vals r rz rd pk
    unfold arr at ih ⊢
    cases q with
    | p i =>
      rcases one (i := i) r with ⟨e1, e2⟩ | ⟨a, b, e1, e2, e3⟩
      · rw [List.filterMap_cons, List.filterMap_cons]
        simp only [e1, e2]
        exact ih
      · rw [List.filterMap_cons, List.filterMap_cons]
        simp only [e1, e2]
        exact .cons e3 ih
    | k i =>
      rcases one (i := i) rz with ⟨e1, e2⟩ | ⟨a, b, e1, e2, e3⟩
      · rw [List.filterMap_cons, List.filterMap_cons]
        simp only [e1, e2]
        exact ih
      · rw [List.filterMap_cons, List.filterMap_cons]
        simp only [e1, e2]
        exact .cons e3 ih
    | d i =>
      rcases one (i := i) rd with ⟨e1, e2⟩ | ⟨a, b, e1, e2, e3⟩
      · rw [List.filterMap_cons, List.filterMap_cons]
        simp only [e1, e2]
        exact ih
      · rw [List.filterMap_cons, List.filterMap_cons]
        simp only [e1, e2]
        exact .cons e3 ih
theorem arr_rel {K : PySem.W.Frag} {mu : Mu} {H : Hp} {xs zs ds : List D} {us ws es : List V} (r : RelDs K mu H xs us) (rz : RelDs K mu H zs ws) (rd : RelDs K mu H ds es) : ∀ pk : List Pk, RelDs K mu H (arr pk xs zs ds) (arr pk us ws es)
  | [] => .nil
  | q :: pk => by
    have one : ∀ {as : List D} {bs : List V} {i : Nat}, RelDs K mu H as bs → (as[i]? = none ∧ bs[i]? = none) ∨ ∃ a b, as[i]? = some a ∧ bs[i]? = some b ∧ RelD K mu H a b := fun {as bs i} h => by
      cases e : as[i]? with
      | none =>
        refine .inl ⟨rfl, ?_⟩
        rw [List.getElem?_eq_none_iff] at e ⊢
        rw [← h.length]
        exact e
      | some a =>
        obtain ⟨b, e2, e3⟩ := h.get e
        exact .inr ⟨a, b, rfl, e2, e3⟩
    have ih := arr_rel r rz rd pk
    unfold arr at ih ⊢
    cases q with
    | p i =>
      rcases one (i := i) r with ⟨e1, e2⟩ | ⟨a, b, e1, e2, e3⟩
      · rw [List.filterMap_cons, List.filterMap_cons]
        simp only [e1, e2]
        exact ih
      · rw [List.filterMap_cons, List.filterMap_cons]
        simp only [e1, e2]
        exact .cons e3 ih
    | k i =>
      rcases one (i := i) rz with ⟨e1, e2⟩ | ⟨a, b, e1, e2, e3⟩
      · rw [List.filterMap_cons, List.filterMap_cons]
        simp only [e1, e2]
        exact ih
      · rw [List.filterMap_cons, List.filterMap_cons]
        simp only [e1, e2]
        exact .cons e3 ih
    | d i =>
      rcases one (i := i) rd with ⟨e1, e2⟩ | ⟨a, b, e1, e2, e3⟩
      · rw [List.filterMap_cons, List.filterMap_cons]
        simp only [e1, e2]
        exact ih
      · rw [List.filterMap_cons, List.filterMap_cons]
        simp only [e1, e2]
        exact .cons e3 ih
/-- a call by keywords binds so: pk over the values written, the keywords' values, the defaults dvs -/
noncomputable def KB (K : PySem.W.Frag) (fd : FuncData) (ps : List Str) (n : Nat) (ks : List Str) (pk : List Pk) (dvs : List V) : Prop :=
  ∃ es : List Value, Vals dvs es ∧ ∀ (s : Shared) (us ws : List Value), K.In s.heap → us.length = n → ws.length = ks.length → BindsTo s fd ⟨us, ks.zip ws⟩ (ps.zip (arr pk us ws es))
theorem kb_of {K : PySem.W.Frag} {x qual : Str} {st : Stmt} {f : Addr} {fd : FuncData} {ps ks : List Str} {n : Nat} {pk : List Pk} (Fu : Fun K x qual st f fd)
    (h : ∀ (kV doc pm : Value) (an : Option Addr) (cdv ct : Value) (us ws : List Value), us.length = n → ws.length = ks.length → bindArgs (PySem.W.fnOf x qual (defArgs st) (defBody st) (defScope st) .none kV doc pm an cdv ct) ⟨us, ks.zip ws⟩ = pure (ps.zip (arr pk us ws []))) : KB K fd ps n ks pk [] := by
  obtain ⟨oc, od, kV, doc, pm, an, cdv, ct, osl, rfl, lk, hcd⟩ := Fu.ex
  exact ⟨[], .nil, fun s us ws _ h1 h2 => .of_eq (h kV doc pm an cdv ct us ws h1 h2)⟩
noncomputable def fCallK (n m : Nat) (pk : List Pk) (dds : List D) (G : List D → S → R D) (fa fk : F (List D)) : F D := fun L s => (fa L s).bind fun ds s1 => (fk L s1).bind fun zs s2 => if ds.length = n ∧ zs.length = m then G (arr pk ds zs dds) s2 else .bad
/-- the defaults stand in the written part -/
noncomputable def DflR (K : PySem.W.Frag) (dds : List D) (dvs : List V) : Prop := ∀ mu H, RelDs K mu H dds dvs
theorem pE_callK {x : Str} {p : Pos} {k n N : Nat} {fA : Addr} {fd : FuncData} {ps ks : List Str} {pk : List Pk} {dds : List D} {dvs : List V} {kws : List Keyword} {fk : F (List D)} {G : List D → S → R D} (hN : ∀ (α : Type) (xs zs ds : List α), xs.length = n → zs.length = ks.length → ds.length = dds.length → (arr pk xs zs ds).length = N) (hd : DflR X.K dds dvs) (Fo : FnOk X.prog X.w X.K X.mg X.base (L2.CX X.prog X.w) k fA fd ps (spI X.K N G)) (hr : Room k X.A) (hm : X.mg x = some (.ref fA)) (hk : PySem.W.keepIn X.K (.ref fA) = true) (hb : KB X.K fd ps n ks pk dvs) (tk : Takes X W)
    (ha : PA X (e :: es) (tA X.K W fa)) (hkw : PK X kws (tA X.K W fk)) (hg : Gl X x := by rfl) (hall : (backToKw pos (keywordEach kws X.env)).all (·.1.isSome) = true := by rfl) (hks : (backToKw pos (keywordEach kws X.env)).filterMap (·.1) = ks := by rfl)
    (hdb : (x == ("__debug__" : Str)) = false := by decide) (he : starEach (e :: es) X.env = (false, eval e X.env) :: starEach es X.env := by rfl)
    (hpl : ((backTo pos (starEach (e :: es) X.env)).any (·.1) || (backToKw pos (keywordEach kws X.env)).any (·.1.isNone)) = false := by rfl) :
    PE X (.Call (.Name x p) (e :: es) kws pos) (tE X.K W (fCallK n ks.length pk dds G fa fk)) := by
  refine ⟨fun pins s σ H Q I hq => ?_⟩
  obtain ⟨mu, s', L, m, l, q⟩ := hq
  obtain ⟨des, rde, bind⟩ := hb
  have h0 : tA X.K W fa σ H fun vs H1 => tA X.K W fk σ H1 fun zs H2 => vs.length = n ∧ zs.length = ks.length ∧ spI X.K N G (arr pk vs zs dvs) H2 Q (WE W σ) := by
    refine ⟨mu, s', L, m, l, Post.step q fun ds s1 mu1 H1 vs g1 m1 r1 p1 => ⟨mu1, s1, L, m1, l.mono g1, Post.step p1 fun zs s2 mu2 H2 ws g2 m2 r2 p2 => ?_⟩⟩
    split at p2
    · rename_i hl
      refine ⟨by rw [← r1.length]; exact hl.1, by rw [← r2.length]; exact hl.2, mu2, s2, arr pk ds zs dds, m2, arr_rel (r1.mono g2) r2 (hd mu2 H2) pk, hN _ _ _ _ hl.1 hl.2 rfl, ?_⟩
      cases eG : G (arr pk ds zs dds) s2 <;> (rw [eG] at p2; exact p2)
    · exact p2.elim
  refine wpAny_Call_Name_kw (ld_glob I hg hm ?_ hdb)
  refine PySem.W.callWith_KW (h₀ := X.base) I.ok.mod.kin hk hall (thn (ha.run pos pins s σ H _ I h0) fun us s1 hu => ?_) hpl he
  obtain ⟨vs, H1, I1, r, q1⟩ := hu
  refine thn (hkw.run pos pins s1 σ H1 _ I1 q1) fun ws s2 hw => ?_
  obtain ⟨zs, H2, I2, rz, l1, l2, sp⟩ := hw
  refine ⟨I2.kIn, ?_⟩
  rw [hks]
  refine wpAny_call (codeAny_mono (Fo.run X.A X.stack s2 H2 ⟨us, ks.zip ws⟩ _ _ Q (WE W σ) hr I2.env0 (bind s2 us ws I2.kIn (r.length.symm.trans l1) (rz.length.symm.trans l2)) (arr_vals r rz rde pk) sp) fun res s3 hres => ?_)
  cases res with
  | error er => exact passAt tk σ pins H2 s2 er s3 I2 hres
  | ok fl =>
    cases fl with
    | ret u => exact I2.after hres
    | next => exact False.elim hres
    | brk => exact False.elim hres
    | cont => exact False.elim hres
end
end SI

namespace SI
open PySem L2
/-! ### evaluation, step by step -/
@[simp] theorem R_bind_ok {α β : Type} (a : α) (s : S) (k : α → S → R β) : (R.ok a s).bind k = k a s := rfl
@[simp] theorem R_bind_ex {α β : Type} (C : Addr) (fs : List Str) (vs : List D) (s : S) (k : α → S → R β) : (R.ex C fs vs s).bind k = .ex C fs vs s := rfl
@[simp] theorem R_bindS_ok {α : Type} (L : Lc) (a : α) (s : S) (k : α → S → RS) : (R.ok a s).bindS L k = k a s := rfl
@[simp] theorem R_bindS_ex {α : Type} (L : Lc) (C : Addr) (fs : List Str) (vs : List D) (s : S) (k : α → S → RS) : (R.ex (α := α) C fs vs s).bindS L k = .ex C fs vs L s := rfl
@[simp] theorem RS_bind_nx (L : Lc) (s : S) (k : Lc → S → RS) : (RS.nx L s).bind k = k L s := rfl
@[simp] theorem RS_bind_rt (d : D) (s : S) (k : Lc → S → RS) : (RS.rt d s).bind k = .rt d s := rfl
@[simp] theorem RS_bind_ex (C : Addr) (fs : List Str) (vs : List D) (L : Lc) (s : S) (k : Lc → S → RS) : (RS.ex C fs vs L s).bind k = .ex C fs vs L s := rfl
@[simp] theorem RS_bind_bk (L : Lc) (s : S) (k : Lc → S → RS) : (RS.bk L s).bind k = .bk L s := rfl
@[simp] theorem RS_bind_ct (L : Lc) (s : S) (k : Lc → S → RS) : (RS.ct L s).bind k = .ct L s := rfl
@[simp] theorem sSeq_eq (u v : FS) (L : Lc) (s : S) : sSeq u v L s = (u L s).bind v := rfl
@[simp] theorem sNext_eq (L : Lc) (s : S) : sNext L s = .nx L s := rfl
@[simp] theorem sAsg_eq (i : Nat) (f : F D) (L : Lc) (s : S) : sAsg i f L s = (f L s).bindS L fun d s1 => .nx (L.set i (some d)) s1 := rfl
@[simp] theorem sExpr_eq (f : F D) (L : Lc) (s : S) : sExpr f L s = (f L s).bindS L fun _ s1 => .nx L s1 := rfl
@[simp] theorem sRet_eq (f : F D) (L : Lc) (s : S) : sRet f L s = (f L s).bindS L fun d s1 => .rt d s1 := rfl
@[simp] theorem sRetN_eq (L : Lc) (s : S) : sRetN L s = .rt .non s := rfl
@[simp] theorem sIf_eq (t : F Bool) (u v : FS) (L : Lc) (s : S) : sIf t u v L s = (t L s).bindS L fun b s1 => if b = true then u L s1 else v L s1 := rfl
@[simp] theorem sBreak_eq (L : Lc) (s : S) : sBreak L s = .bk L s := rfl
@[simp] theorem sCont_eq (L : Lc) (s : S) : sCont L s = .ct L s := rfl
@[simp] theorem fC_eq (d : D) (L : Lc) (s : S) : fC d L s = .ok d s := rfl
@[simp] theorem fOp_eq (o : S → D → D → Option D) (f g : F D) (L : Lc) (s : S) : fOp o f g L s = (f L s).bind fun a s1 => (g L s1).bind fun b s2 => match o s2 a b with
  | some d => .ok d s2
  | none => .bad := rfl
@[simp] theorem fNotV_eq (f : F D) (L : Lc) (s : S) : fNotV f L s = (f L s).bind fun a s1 => match a with
  | .bl b => .ok (.bl (!b)) s1
  | _ => .bad := rfl
@[simp] theorem fAndV_eq (f g : F D) (L : Lc) (s : S) : fAndV f g L s = (f L s).bind fun a s1 => match a with
  | .bl true => g L s1
  | .bl false => .ok (.bl false) s1
  | _ => .bad := rfl
@[simp] theorem fOrV_eq (f g : F D) (L : Lc) (s : S) : fOrV f g L s = (f L s).bind fun a s1 => match a with
  | .bl true => .ok (.bl true) s1
  | .bl false => g L s1
  | _ => .bad := rfl
@[simp] theorem fTst_eq (f : F D) (L : Lc) (s : S) : fTst f L s = (f L s).bind fun a s1 => match a with
  | .bl b => .ok b s1
  | _ => .bad := rfl
@[simp] theorem fNot_eq (t : F Bool) (L : Lc) (s : S) : fNot t L s = (t L s).bind fun b s1 => .ok (!b) s1 := rfl
@[simp] theorem fAnd_eq (t u : F Bool) (L : Lc) (s : S) : fAnd t u L s = (t L s).bind fun b s1 => if b = true then u L s1 else .ok false s1 := rfl
@[simp] theorem fOr_eq (t u : F Bool) (L : Lc) (s : S) : fOr t u L s = (t L s).bind fun b s1 => if b = true then .ok true s1 else u L s1 := rfl
@[simp] theorem fIf_eq (t : F Bool) (f g : F D) (L : Lc) (s : S) : fIf t f g L s = (t L s).bind fun b s1 => if b = true then f L s1 else g L s1 := rfl
@[simp] theorem fNil_eq (L : Lc) (s : S) : fNil L s = .ok [] s := rfl
@[simp] theorem fCons_eq (f : F D) (r : F (List D)) (L : Lc) (s : S) : fCons f r L s = (f L s).bind fun a s1 => (r L s1).bind fun as s2 => .ok (a :: as) s2 := rfl
@[simp] theorem fTup_eq (fa : F (List D)) (L : Lc) (s : S) : fTup fa L s = (fa L s).bind fun ds s1 => if ds.length ≤ big then .ok (.tup ds) s1 else .bad := rfl
@[simp] theorem fLst_eq (fa : F (List D)) (L : Lc) (s : S) : fLst fa L s = (fa L s).bind fun ds s1 => if ds.length ≤ big then .ok (.lst ds) s1 else .bad := rfl
@[simp] theorem fLstT_eq (fa : F (List D)) (L : Lc) (s : S) : fLstT fa L s = (fa L s).bind fun ds s1 => if ds.length ≤ big then .ok (.ref s1.length) (s1 ++ [.lst ds]) else .bad := rfl
@[simp] theorem fCB_eq (o : S → List D → Option D) (fa : F (List D)) (L : Lc) (s : S) : fCB o fa L s = (fa L s).bind fun ds s1 => match o s1 ds with
  | some d => .ok d s1
  | none => .bad := rfl
@[simp] theorem fCall_eq (n : Nat) (G : List D → S → R D) (fa : F (List D)) (L : Lc) (s : S) : fCall n G fa L s = (fa L s).bind fun ds s1 => if ds.length = n then G ds s1 else .bad := rfl
@[simp] theorem fNeg_eq (f : F D) (L : Lc) (s : S) : fNeg f L s = (f L s).bind fun d s1 => match d with
  | .int i => .ok (.int (-i)) s1
  | _ => .bad := rfl
@[simp] theorem sPut_eq (o : S → D → D → D → Option S) (fe fo fi : F D) (L : Lc) (s : S) : sPut o fe fo fi L s = (fe L s).bindS L fun d s1 => (fo L s1).bindS L fun a s2 => (fi L s2).bindS L fun b s3 => match o s3 a b d with
  | some s' => .nx L s'
  | none => .bad := rfl
@[simp] theorem sAugS_eq (get op : S → D → D → Option D) (put : S → D → D → D → Option S) (fo fi fe : F D) (L : Lc) (s : S) : sAugS get op put fo fi fe L s = (fo L s).bindS L fun a s1 => (fi L s1).bindS L fun b s2 => match get s2 a b with
  | some d0 => (fe L s2).bindS L fun d1 s3 => match op s3 d0 d1 with
    | some d => match put s3 a b d with
      | some s' => .nx L s'
      | none => .bad
    | none => .bad
  | none => .bad := rfl
@[simp] theorem sAsgG_eq (q : Tg) (f : F D) (L : Lc) (s : S) : sAsgG q f L s = (f L s).bindS L fun d s1 => match q d L with
  | some L' => .nx L' s1
  | none => .bad := rfl
@[simp] theorem sFor_eq (f : F Src) (q : Tg) (body : FS) (L : Lc) (s : S) : sFor f q body L s = (f L s).bindS L fun r s1 => forL q body r r.items L s1 := rfl
@[simp] theorem fSrc_eq (f : F D) (L : Lc) (s : S) : fSrc f L s = (f L s).bind fun d s1 => match iSeq s1 d with
  | some r => .ok r s1
  | none => .bad := rfl
@[simp] theorem fRng_eq (o : List D → Option Src) (fa : F (List D)) (L : Lc) (s : S) : fRng o fa L s = (fa L s).bind fun ds s1 => match o ds with
  | some r => .ok r s1
  | none => .bad := rfl
theorem fin_rt {r : RS} {d : D} {s : S} (h : r = .rt d s) : r.fin = .ok d s := by
  rw [h]
  rfl
@[simp] theorem fin_rt' (d : D) (s : S) : (RS.rt d s).fin = .ok d s := rfl
@[simp] theorem fin_nx' (L : Lc) (s : S) : (RS.nx L s).fin = .ok .non s := rfl
@[simp] theorem fin_ex' (C : Addr) (fs : List Str) (vs : List D) (L : Lc) (s : S) : (RS.ex C fs vs L s).fin = .ex C fs vs s := rfl
/-! values -/
@[simp] theorem dI2_int (C : Int → Int → Bool) (g : Int → Int → D) (s : S) (i j : Int) : dI2 C g s (.int i) (.int j) = if C i j = true then some (g i j) else none := rfl
@[simp] theorem yes2_eq (i j : Int) : yes2 i j = true := rfl
@[simp] theorem dSub_int (s : S) (i j : Int) : dSub s (.int i) (.int j) = some (.int (i - j)) := rfl
@[simp] theorem dAddI_int (s : S) (i j : Int) : dAddI s (.int i) (.int j) = some (.int (i + j)) := rfl
@[simp] theorem dAdd_int (s : S) (i j : Int) : dAdd s (.int i) (.int j) = some (.int (i + j)) := rfl
@[simp] theorem dMul_int (s : S) (i j : Int) : dMul s (.int i) (.int j) = if mulOk i j = true then some (.int (i * j)) else none := rfl
@[simp] theorem dLt_int (s : S) (i j : Int) : dLt s (.int i) (.int j) = some (.bl (decide (i < j))) := rfl
@[simp] theorem dLe_int (s : S) (i j : Int) : dLe s (.int i) (.int j) = some (.bl (decide (i ≤ j))) := rfl
@[simp] theorem dGt_int (s : S) (i j : Int) : dGt s (.int i) (.int j) = some (.bl (decide (j < i))) := rfl
@[simp] theorem dGe_int (s : S) (i j : Int) : dGe s (.int i) (.int j) = some (.bl (decide (j ≤ i))) := rfl
theorem log2_small {i : Int} {k : Nat} (h0 : 0 < k) (h : i.natAbs < 2 ^ k) : i.natAbs.log2 < k := PySem.Flt.log2_lt_of h0 h
theorem divOk_of {i j : Int} (h0 : 0 < j) (h : j < 2 ^ 200) : divOk i j = true := by
  unfold divOk
  rw [decide_eq_true_eq]
  refine ⟨h0, Nat.lt_of_lt_of_le (log2_small (k := 200) (by decide) ?_) (by decide)⟩
  have : (j.natAbs : Int) < 2 ^ 200 := by
    rw [Int.natAbs_of_nonneg (Int.le_of_lt h0)]
    exact h
  exact_mod_cast this
theorem dDiv_int {s : S} {i j : Int} (h0 : 0 < j) (h : j < 2 ^ 200) : dDiv s (.int i) (.int j) = some (.int (i / j)) := by
  unfold dDiv
  rw [dI2_int, if_pos (divOk_of h0 h)]
theorem dMod_int {s : S} {i j : Int} (h0 : 0 < j) : dMod s (.int i) (.int j) = some (.int (i % j)) := by
  unfold dMod
  rw [dI2_int, if_pos (by unfold modOk; exact decide_eq_true h0)]
theorem eqv_int (i j : Int) : PyData.eqv (.int i) (.int j) = decide (i = j) := by
  rw [PyData.eqv]
  by_cases h : i = j
  · simp [h]
  · simp [h]
@[simp] theorem dEqD_int (neg : Bool) (s : S) (i j : Int) : dEqD neg s (.int i) (.int j) = some (.bl (if neg = true then !decide (i = j) else decide (i = j))) := by
  unfold dEqD
  simp only [toPyT, toPy, eqv_int]
  rw [if_pos]
  simp [SeqAt.shaped, PyData.canLay0, PyData.depth]
@[simp] theorem bInt_int (s : S) (i : Int) : bInt s [.int i] = some (.int i) := rfl
@[simp] theorem big_eq : big = 1000000 := rfl
/-! ### the source of the draws -/
structure SrcV where
  cs : List Int
  i : Int
  a : Int
  b : Int
  d : Int
noncomputable def SrcV.o (v : SrcV) : O := .lst [.lst (v.cs.map D.int), .int v.i, .int v.a, .int v.b, .int v.d]
structure SrcV.Ok (v : SrcV) (n : Nat) : Prop where
  i0 : 0 ≤ v.i
  a0 : 0 ≤ v.a
  b0 : 0 ≤ v.b
  bn : v.b ≤ n
  d0 : 0 ≤ v.d
  dn : v.d < 2147483629
  cs : ∀ z ∈ v.cs, Builtin.Int.intBits z ≤ 1048576
theorem get_set {s : S} {k : Nat} {o o' : O} (h : s[k]? = some o) : (s.set k o')[k]? = some o' := by
  have := (List.getElem?_eq_some_iff.mp h).1
  rw [List.getElem?_set_self this]
theorem srcIx {s : S} {k : Nat} {v : SrcV} (h : s[k]? = some v.o) : dIx s (.ref k) (.int 0) = some (.lst (v.cs.map D.int)) ∧ dIx s (.ref k) (.int 1) = some (.int v.i) ∧ dIx s (.ref k) (.int 2) = some (.int v.a) ∧ dIx s (.ref k) (.int 3) = some (.int v.b) ∧ dIx s (.ref k) (.int 4) = some (.int v.d) ∧ dIxL s (.ref k) (.int 1) = some (.int v.i) ∧ dIxL s (.ref k) (.int 3) = some (.int v.b) := by
  unfold SrcV.o at h
  refine ⟨?_, ?_, ?_, ?_, ?_, ?_, ?_⟩ <;> simp only [dIx, dIxL, seqOf, lstOf, h] <;> rfl
theorem srcPut {s : S} {k : Nat} {v : SrcV} (h : s[k]? = some v.o) (x : Int) : dPut s (.ref k) (.int 1) (.int x) = some (s.set k ({ v with i := x } : SrcV).o) ∧ dPut s (.ref k) (.int 2) (.int x) = some (s.set k ({ v with a := x } : SrcV).o) ∧ dPut s (.ref k) (.int 3) (.int x) = some (s.set k ({ v with b := x } : SrcV).o) ∧ dPut s (.ref k) (.int 4) (.int x) = some (s.set k ({ v with d := x } : SrcV).o) := by
  unfold SrcV.o at h
  refine ⟨?_, ?_, ?_, ?_⟩ <;> simp only [dPut, h] <;> rfl
@[simp] theorem bLen_lst (s : S) (xs : List D) : bLen s [.lst xs] = some (.int xs.length) := rfl
@[simp] theorem bLen_tup (s : S) (xs : List D) : bLen s [.tup xs] = some (.int xs.length) := rfl
theorem dIx_lst (s : S) (xs : List D) (i : Int) : dIx s (.lst xs) (.int i) = L2.atI xs i := rfl
theorem dIx_tup (s : S) (xs : List D) (i : Int) : dIx s (.tup xs) (.int i) = L2.atI xs i := rfl
theorem atI_in {α : Type} {xs : List α} {i : Int} (h0 : 0 ≤ i) (h : i < xs.length) : L2.atI xs i = xs[i.toNat]? := by
  unfold L2.atI ixN
  rw [if_pos h0, if_pos h]
  rfl
@[simp] theorem dPow_lit (s : S) (i j : Int) : dPow s (.int i) (.int j) = if powOk i j = true then some (.int (i ^ j.toNat)) else none := rfl
theorem natAbs_lt {i : Int} {k : Nat} (h0 : 0 ≤ i) (h : i < 2 ^ k) : i.natAbs < 2 ^ k := by
  have e : (i.natAbs : Int) < 2 ^ k := by
    rw [Int.natAbs_of_nonneg h0]
    exact h
  exact_mod_cast e
theorem log_bits {z : Int} {n : Nat} (h : Builtin.Int.intBits z ≤ n) : z.natAbs.log2 ≤ n := by
  unfold Builtin.Int.intBits at h
  split at h
  · rename_i hz
    have e : z = 0 := by simpa using hz
    subst e
    exact Nat.zero_le _
  · omega
theorem mulOk_log {i j : Int} {a b : Nat} (ha : i.natAbs.log2 ≤ a) (hb : j.natAbs.log2 ≤ b) (h : a + b < 100000000) : mulOk i j = true := by
  unfold mulOk
  rw [decide_eq_true_eq]
  omega
theorem log_of {i : Int} {k : Nat} (h0 : 0 ≤ i) (h : i < 2 ^ k) (hk : 0 < k) : i.natAbs.log2 ≤ k := Nat.le_of_lt (log2_small hk (natAbs_lt h0 h))
end SI

namespace SI
open PySem L2
@[simp] theorem dRng1_int {j : Int} : dRng1 [.int j] = if rgOk j = true then some ⟨rgItems 0 j.toNat, none⟩ else none := rfl
@[simp] theorem dRng2_int {i j : Int} : dRng2 [.int i, .int j] = if rgOk i = true ∧ rgOk j = true then some ⟨rgItems i (j - i).toNat, none⟩ else none := rfl
@[simp] theorem chk_none (ds : List D) (s : S) : chk ⟨ds, none⟩ s = true := rfl
@[simp] theorem gN_eq (i : Nat) (d : D) (L : Lc) : gN i d L = some (L.set i (some d)) := rfl
end SI

namespace SI
open PySem L2
theorem lc_intsC (xs : List D) (L0 : Lc) (h : 1 < L0.length) : ∀ (ds : List Int) (acc : List D), acc.length + ds.length ≤ 1000000 → lcL (gN 1) fYes (fCB bInt (fCons (fVar 1) fNil)) ⟨xs, none⟩ L0 0 (ds.map D.int) [.lst acc] = .ok () [.lst (acc ++ ds.map D.int)]
  | [], acc, _ => by
    simp [lcL]
  | d :: ds, acc, hl => by
    have ih := lc_intsC xs L0 h ds (acc ++ [.int d]) (by simp at hl ⊢; omega)
    have hlt : acc.length < 1000000 := by simp at hl; omega
    have hv : ∀ s, fVar 1 (L0.set 1 (some (.int d))) s = .ok (.int d) s := by
      intro s
      unfold fVar
      rw [List.getElem?_set_self h]
    simp [lcL, fYes, hv, hlt, ih]
theorem bels_intsC (n : Nat) : ∀ (ds : List Int), D.bels n (ds.map D.int) = true
  | [] => rfl
  | d :: ds => by simp [D.bels, D.bel, bels_intsC n ds]
noncomputable def srcG : List D → S → R D := runF 2
  ((sRet (fLstT (fCons (fLc (fSrc (fSl (fVar 0) fNo (fPt (fC (.int 63))))) (gN 1) fYes (fCB bInt (fCons (fVar 1) fNil)) [1]) (fCons (fC (.int 0)) (fCons (fC (.int 0)) (fCons (fC (.int 0)) (fCons (fC (.int 7)) fNil))))))))
theorem src_ok (ns : List Int) (hl : ns.length ≤ 63) : srcG [.rdl (ns.map D.int)] [] = .ok (.ref 0) [SrcV.o ⟨ns, 0, 0, 0, 7⟩] := by
  have hc : cutD (ns.map D.int) none (some 63) = ns.map D.int := by
    unfold cutD
    rw [HT.sIx_none, List.drop_zero, show (some (63 : Int)) = some ((63 : Nat) : Int) from rfl, HT.sIx_nat, List.take_of_length_le]
    rw [List.length_map]
    omega
  have e := lc_intsC (ns.map D.int) [some (.rdl (ns.map D.int)), none] (Nat.lt_succ_self 1) ns [] (by simp; omega)
  unfold srcG runF startD
  have hi : iSeq [] (.lst (ns.map D.int)) = some ⟨ns.map D.int, none⟩ := rfl
  simp [fVar, fLc, fSl, fNo, fPt, dSl, lstOf, hc, hi, wipeD, e, bels_intsC, SrcV.o]
theorem src_start {ns : List Int} (hb : ∀ z ∈ ns, Builtin.Int.intBits z ≤ 1048576) : SrcV.Ok ⟨ns, 0, 0, 0, 7⟩ 0 := ⟨Int.le_refl 0, Int.le_refl 0, Int.le_refl 0, Int.le_refl 0, show (0 : Int) ≤ 7 by decide, show (7 : Int) < 2147483629 by decide, hb⟩
theorem src_bel (w : SrcV) (n : Nat) : O.bel n w.o = true := by
  unfold SrcV.o O.bel
  simp [D.bels, D.bel, bels_intsC]
end SI

/-! weakest preconditions at the data level -/
namespace SI
open PySem L2
class Cn (α : Sort u) where
  f : α
noncomputable instance {α : Sort u} {β : Sort v} : CoeFun (Cn (α → β)) (fun _ => α → β) := ⟨fun c => c.f⟩
class Bs where
  nx : Lc → S → Prop
  rt : D → S → Prop
  bk : Lc → S → Prop
  ct : Lc → S → Prop
  ex : Addr → List Str → List D → Lc → S → Prop
noncomputable def WR {α : Type} (r : R α) {Q : Cn (α → S → Prop)} {E : Cn (Addr → List Str → List D → S → Prop)} : Prop := match r with
  | .ok a s => Q a s
  | .ex C fs vs s => E C fs vs s
  | .bad => False
noncomputable def WS (r : RS) {B : Bs} : Prop := match r with
  | .nx L s => B.nx L s
  | .rt d s => B.rt d s
  | .bk L s => B.bk L s
  | .ct L s => B.ct L s
  | .ex C fs vs L s => B.ex C fs vs L s
  | .bad => False
noncomputable def WO {α : Type} (o : Option α) {Q : Cn (α → Prop)} : Prop := match o with
  | some a => Q a
  | none => False
noncomputable def WV (o : Option (Option D)) {Q : Cn (D → Prop)} : Prop := match o with
  | some (some a) => Q a
  | _ => False
noncomputable def WB (b : Bool) {P Q : Cn Prop} : Prop := match b with
  | true => P.f
  | false => Q.f
noncomputable def WT (d : D) {Q : Cn (Bool → Prop)} : Prop := match d with
  | .bl b => Q b
  | _ => False
/-- the names stand as a list of cells -/
noncomputable def WL (L : Lc) {Q : Cn (Lc → Prop)} : Prop := Q L
noncomputable def WI (d : D) {Q : Cn (Int → Prop)} : Prop := match d with
  | .int b => Q b
  | _ => False
noncomputable abbrev nE : Addr → List Str → List D → S → Prop := fun _ _ _ _ => False
section
variable {α β : Type} {L : Lc} {s : S} {B : Bs} {Q : Cn (D → S → Prop)} {E : Cn (Addr → List Str → List D → S → Prop)}
theorem cn_f {α : Sort u} (x : α) : Cn.f (self := ⟨x⟩) = x := rfl
theorem w_ok (a : α) (s : S) (Q : Cn (α → S → Prop)) (E) : @WR _ (.ok a s) Q E = Q a s := rfl
theorem w_ex (C fs vs) (s : S) (Q : Cn (α → S → Prop)) (E) : @WR _ (.ex C fs vs s) Q E = E C fs vs s := rfl
theorem w_nx (L : Lc) (s : S) (B : Bs) : @WS (.nx L s) B = B.nx L s := rfl
theorem w_rt (d : D) (s : S) (B : Bs) : @WS (.rt d s) B = B.rt d s := rfl
theorem w_bk (L : Lc) (s : S) (B : Bs) : @WS (.bk L s) B = B.bk L s := rfl
theorem w_ct (L : Lc) (s : S) (B : Bs) : @WS (.ct L s) B = B.ct L s := rfl
theorem w_exS (C fs vs) (L : Lc) (s : S) (B : Bs) : @WS (.ex C fs vs L s) B = B.ex C fs vs L s := rfl
theorem w_some (a : α) (Q : Cn (α → Prop)) : @WO _ (some a) Q = Q a := rfl
theorem w_v (a : D) (Q : Cn (D → Prop)) : @WV (some (some a)) Q = Q a := rfl
theorem w_tr (P Q : Cn Prop) : @WB true P Q = P.f := rfl
theorem w_fa (P Q : Cn Prop) : @WB false P Q = Q.f := rfl
theorem w_tb (b : Bool) (Q : Cn (Bool → Prop)) : @WT (.bl b) Q = Q b := rfl
theorem w_L (a : Option D) (L : Lc) (Q : Cn (Lc → Prop)) : @WL (a :: L) Q = Q (a :: L) := rfl
theorem w_L0 (Q : Cn (Lc → Prop)) : @WL [] Q = Q [] := rfl
theorem w_ti (b : Int) (Q : Cn (Int → Prop)) : @WI (.int b) Q = Q b := rfl
theorem w_bind (r : R α) (k : α → S → R β) (Q) (E) : @WR _ (r.bind k) Q E = @WR _ r ⟨fun a s => @WR _ (k a s) Q E⟩ E := by cases r <;> rfl
theorem w_bindS (L : Lc) (r : R α) (k : α → S → RS) (B) : @WS (r.bindS L k) B = @WR _ r ⟨fun a s => @WS (k a s) B⟩ ⟨fun C fs vs s => B.ex C fs vs L s⟩ := by cases r <;> rfl
theorem w_bindT (r : RS) (k : Lc → S → RS) (B : Bs) : @WS (r.bind k) B = @WS r { B with nx := fun L s => @WS (k L s) B } := by cases r <;> rfl
/-! statements -/
theorem w_seq (u v : FS) : @WS (sSeq u v L s) B = @WS (u L s) { B with nx := fun L s => @WS (v L s) B } := w_bindT ..
theorem wq_asg (i : Nat) (f : F D) (v : FS) : @WS (sSeq (sAsg i f) v L s) B = @WS (sAsg i f L s) { B with nx := fun L s => @WS (v L s) B } := w_seq ..
theorem wq_asgG (q : Tg) (f : F D) (v : FS) : @WS (sSeq (sAsgG q f) v L s) B = @WS (sAsgG q f L s) { B with nx := fun L s => @WS (v L s) B } := w_seq ..
theorem wq_expr (f : F D) (v : FS) : @WS (sSeq (sExpr f) v L s) B = @WS (sExpr f L s) { B with nx := fun L s => @WS (v L s) B } := w_seq ..
theorem wq_put (o fe fo fi) (v : FS) : @WS (sSeq (sPut o fe fo fi) v L s) B = @WS (sPut o fe fo fi L s) { B with nx := fun L s => @WS (v L s) B } := w_seq ..
theorem wq_aug (o i f) (v : FS) : @WS (sSeq (sAug o i f) v L s) B = @WS (sAug o i f L s) { B with nx := fun L s => @WS (v L s) B } := w_seq ..
theorem wq_augS (a b d e f g) (v : FS) : @WS (sSeq (sAugS a b d e f g) v L s) B = @WS (sAugS a b d e f g L s) { B with nx := fun L s => @WS (v L s) B } := w_seq ..
theorem wq_for (a b d) (v : FS) : @WS (sSeq (sFor a b d) v L s) B = @WS (sFor a b d L s) { B with nx := fun L s => @WS (v L s) B } := w_seq ..
theorem w_next : @WS (sNext L s) B = B.nx L s := rfl
theorem w_break : @WS (sBreak L s) B = B.bk L s := rfl
theorem w_cont : @WS (sCont L s) B = B.ct L s := rfl
theorem w_retN : @WS (sRetN L s) B = B.rt .non s := rfl
theorem w_asg (i : Nat) (f : F D) : @WS (sAsg i f L s) B = @WR _ (f L s) ⟨fun d s1 => @WL (L.set i (some d)) ⟨fun L' => B.nx L' s1⟩⟩ ⟨fun C fs vs s => B.ex C fs vs L s⟩ := w_bindS ..
theorem w_expr (f : F D) : @WS (sExpr f L s) B = @WR _ (f L s) ⟨fun d s1 => B.nx L s1⟩ ⟨fun C fs vs s => B.ex C fs vs L s⟩ := w_bindS ..
theorem w_ret (f : F D) : @WS (sRet f L s) B = @WR _ (f L s) ⟨fun d s1 => B.rt d s1⟩ ⟨fun C fs vs s => B.ex C fs vs L s⟩ := w_bindS ..
theorem w_if (t : F Bool) (u v : FS) : @WS (sIf t u v L s) B = @WR _ (t L s) ⟨fun b s1 => @WB b ⟨@WS (u L s1) B⟩ ⟨@WS (v L s1) B⟩⟩ ⟨fun C fs vs s => B.ex C fs vs L s⟩ := by
  refine (w_bindS ..).trans (congrArg (fun z => @WR _ (t L s) ⟨z⟩ _) ?_)
  funext b s1
  cases b <;> rfl
theorem w_asgG (q : Tg) (f : F D) : @WS (sAsgG q f L s) B = @WR _ (f L s) ⟨fun d s1 => @WO _ (q d L) ⟨fun L' => B.nx L' s1⟩⟩ ⟨fun C fs vs s => B.ex C fs vs L s⟩ := by
  refine (w_bindS ..).trans (congrArg (fun z => @WR _ (f L s) ⟨z⟩ _) ?_)
  funext d s1
  cases q d L <;> rfl
theorem w_for (f : F Src) (q : Tg) (body : FS) : @WS (sFor f q body L s) B = @WR _ (f L s) ⟨fun r s1 => @WS (forL q body r r.items L s1) B⟩ ⟨fun C fs vs s => B.ex C fs vs L s⟩ := w_bindS ..
theorem w_put (o : S → D → D → D → Option S) (fe fo fi : F D) : @WS (sPut o fe fo fi L s) B = @WR _ (fe L s) ⟨fun d s1 => @WR _ (fo L s1) ⟨fun a s2 => @WR _ (fi L s2) ⟨fun b s3 => @WO _ (o s3 a b d) ⟨fun s' => B.nx L s'⟩⟩ ⟨fun C fs vs s => B.ex C fs vs L s⟩⟩ ⟨fun C fs vs s => B.ex C fs vs L s⟩⟩ ⟨fun C fs vs s => B.ex C fs vs L s⟩ := by
  refine (w_bindS ..).trans (congrArg (fun z => @WR _ (fe L s) ⟨z⟩ _) ?_)
  funext d s1
  refine (w_bindS ..).trans (congrArg (fun z => @WR _ (fo L s1) ⟨z⟩ _) ?_)
  funext a s2
  refine (w_bindS ..).trans (congrArg (fun z => @WR _ (fi L s2) ⟨z⟩ _) ?_)
  funext b s3
  cases o s3 a b d <;> rfl
theorem w_aug (o : S → D → D → Option D) (i : Nat) (f : F D) : @WS (sAug o i f L s) B = @WV (L[i]?) ⟨fun d0 => @WR _ (f L s) ⟨fun d1 s1 => @WO _ (o s1 d0 d1) ⟨fun d => @WL (L.set i (some d)) ⟨fun L' => B.nx L' s1⟩⟩⟩ ⟨fun C fs vs s => B.ex C fs vs L s⟩⟩ := by
  unfold sAug
  cases L[i]? with
  | none => rfl
  | some z => cases z with
    | none => rfl
    | some d0 =>
      refine (w_bindS ..).trans (congrArg (fun z => @WR _ (f L s) ⟨z⟩ _) ?_)
      funext d s1
      cases o s1 d0 d <;> rfl
theorem w_augS (get op : S → D → D → Option D) (put : S → D → D → D → Option S) (fo fi fe : F D) : @WS (sAugS get op put fo fi fe L s) B = @WR _ (fo L s) ⟨fun a s1 => @WR _ (fi L s1) ⟨fun b s2 => @WO _ (get s2 a b) ⟨fun d0 => @WR _ (fe L s2) ⟨fun d1 s3 => @WO _ (op s3 d0 d1) ⟨fun d => @WO _ (put s3 a b d) ⟨fun s' => B.nx L s'⟩⟩⟩ ⟨fun C fs vs s => B.ex C fs vs L s⟩⟩⟩ ⟨fun C fs vs s => B.ex C fs vs L s⟩⟩ ⟨fun C fs vs s => B.ex C fs vs L s⟩ := by
  refine (w_bindS ..).trans (congrArg (fun z => @WR _ (fo L s) ⟨z⟩ _) ?_)
  funext a s1
  refine (w_bindS ..).trans (congrArg (fun z => @WR _ (fi L s1) ⟨z⟩ _) ?_)
  funext b s2
  cases get s2 a b with
  | none => rfl
  | some d0 =>
    refine (w_bindS ..).trans (congrArg (fun z => @WR _ (fe L s2) ⟨z⟩ _) ?_)
    funext d1 s3
    cases op s3 d0 d1 with
    | none => rfl
    | some d =>
      show @WS (match put s3 a b d with
        | some s' => RS.nx L s'
        | none => .bad) B = @WO _ (put s3 a b d) _
      cases put s3 a b d <;> rfl
theorem w_raise0 (C : Addr) : @WS (sRaise0 C L s) B = B.ex C [] [] L s := rfl
theorem w_raise1 (C : Addr) (f : Str) (x : F D) : @WS (sRaise1 C f (fCons x fNil) L s) B = @WR _ (x L s) ⟨fun d s1 => B.ex C [f] [d] L s1⟩ ⟨fun C fs vs s => B.ex C fs vs L s⟩ := by
  unfold sRaise1 fCons
  cases x L s <;> rfl
theorem w_raise2 (C : Addr) (f g : Str) (x y : F D) : @WS (sRaise2 C f g (fCons x (fCons y fNil)) L s) B = @WR _ (x L s) ⟨fun d s1 => @WR _ (y L s1) ⟨fun d' s2 => B.ex C [g, f] [d', d] L s2⟩ ⟨fun C fs vs s => B.ex C fs vs L s⟩⟩ ⟨fun C fs vs s => B.ex C fs vs L s⟩ := by
  unfold sRaise2 fCons
  cases x L s with
  | ok d s1 =>
    simp only [R_bind_ok, WR]
    cases y L s1 <;> rfl
  | ex => rfl
  | bad => rfl
theorem w_try (sel : List (Addr × Bool)) (b h : FS) : @WS (sTry sel b h L s) B = @WS (b L s) { B with ex := fun C fs vs L1 s1 => @WO _ (selOf sel C) ⟨fun z => @WB z ⟨@WS (h L1 s1) { B with ex := fun _ _ _ _ _ => False }⟩ ⟨B.ex C fs vs L1 s1⟩⟩ } := by
  unfold sTry
  cases b L s with
  | ex C fs vs L1 s1 =>
    show @WS (match selOf sel C with
      | some true => (h L1 s1).calm
      | some false => RS.ex C fs vs L1 s1
      | none => .bad) B = @WO _ (selOf sel C) _
    cases selOf sel C with
    | none => rfl
    | some z => cases z with
      | false => rfl
      | true =>
        show @WS ((h L1 s1).calm) B = @WS (h L1 s1) _
        cases h L1 s1 <;> rfl
  | nx => rfl
  | rt => rfl
  | bk => rfl
  | ct => rfl
  | bad => rfl
/-- a suite's end: the name is gone, and nothing is raised -/
theorem w_drop (i : Nat) (r : RS) : @WS (r.drop i) B = @WS r ⟨fun L s => B.nx (L.set i none) s, B.rt, fun L s => B.bk (L.set i none) s, fun L s => B.ct (L.set i none) s, fun _ _ _ _ _ => False⟩ := by
  cases r <;> rfl
/-- the handler's suite gives one result, wherever the exception lies -/
theorem w_hAll {g : Addr → Option Addr → RS} (r : RS) (h : ∀ a od, g a od = r) (w : @WS r B) : @WS (hAll g) B := by
  rw [hAll_of h]
  exact w
theorem eq_rt {r : RS} {d : D} {s : S} (h : @WS r ⟨fun _ _ => False, fun d' s' => d' = d ∧ s' = s, fun _ _ => False, fun _ _ => False, fun _ _ _ _ _ => False⟩) : r = .rt d s := by
  cases r with
  | rt d' s' =>
    obtain ⟨rfl, rfl⟩ := h
    rfl
  | nx => exact h.elim
  | bk => exact h.elim
  | ct => exact h.elim
  | ex => exact h.elim
  | bad => exact h.elim
/-- the suite returns d -/
theorem hAll_rt {g : Addr → Option Addr → RS} (d : D) (s : S) (h : ∀ a od, @WS (g a od) ⟨fun _ _ => False, fun d' s' => d' = d ∧ s' = s, fun _ _ => False, fun _ _ => False, fun _ _ _ _ _ => False⟩) (w : B.rt d s) : @WS (hAll g) B := w_hAll (.rt d s) (fun a od => eq_rt (h a od)) w
noncomputable def xfOf (a0 C0 : Addr) (d0 : Option Addr) (cs : List Addr) (n : Str) (d : D) : Option D := match d with
  | .exc a C od fs vs => if a = a0 ∧ C = C0 ∧ od = d0 ∧ C ∈ cs then (fs.zip vs).lookup n else none
  | _ => none
theorem w_xf (a0 C0 : Addr) (d0 : Option Addr) (cs : List Addr) (n : Str) (f : F D) : @WR _ (fXf a0 C0 d0 cs n f L s) Q E = @WR _ (f L s) ⟨fun d s1 => @WO _ (xfOf a0 C0 d0 cs n d) ⟨fun r => Q r s1⟩⟩ E := by
  refine (w_bind ..).trans (congrArg (fun z => @WR _ (f L s) ⟨z⟩ _) ?_)
  funext d s1
  cases d <;> try rfl
  rename_i a C od fs vs
  unfold xfOf
  dsimp only
  by_cases h : a = a0 ∧ C = C0 ∧ od = d0 ∧ C ∈ cs
  · rw [if_pos h, if_pos h]
    cases List.lookup n (fs.zip vs) <;> rfl
  · rw [if_neg h, if_neg h]
    rfl
theorem xf_1 {a0 C0 : Addr} {d0 : Option Addr} {cs : List Addr} {n : Str} {d : D} (h : C0 ∈ cs) : xfOf a0 C0 d0 cs n (.exc a0 C0 d0 [n] [d]) = some d := by
  unfold xfOf
  simp only [h, and_self, if_true]
  simp
theorem w_tryAs (i : Nat) (sel : List (Addr × Bool)) (b : FS) (h : Addr → Addr → Option Addr → FS) : @WS (sTryAs i sel b h L s) B = @WS (b L s) { B with ex := fun C fs vs L1 s1 => @WO _ (selOf sel C) ⟨fun z => @WB z ⟨@WS (hAll fun a od => (h a C od (L1.set i (some (.exc a C od fs vs))) s1).drop i) B⟩ ⟨B.ex C fs vs L1 s1⟩⟩ } := by
  unfold sTryAs
  cases b L s with
  | ex C fs vs L1 s1 =>
    show @WS (match selOf sel C with
      | some true => hAll fun a od => (h a C od (L1.set i (some (.exc a C od fs vs))) s1).drop i
      | some false => RS.ex C fs vs L1 s1
      | none => .bad) B = @WO _ (selOf sel C) _
    cases selOf sel C with
    | none => rfl
    | some z => cases z <;> rfl
  | nx => rfl
  | rt => rfl
  | bk => rfl
  | ct => rfl
  | bad => rfl
/-! expressions -/
theorem w_var (i : Nat) : @WR _ (fVar i L s) Q E = @WV (L[i]?) ⟨fun d => Q d s⟩ := by
  unfold fVar
  cases L[i]? with
  | none => rfl
  | some z => cases z <;> rfl
theorem w_c (d : D) : @WR _ (fC d L s) Q E = Q d s := rfl
theorem w_op (o : S → D → D → Option D) (f g : F D) : @WR _ (fOp o f g L s) Q E = @WR _ (f L s) ⟨fun a s1 => @WR _ (g L s1) ⟨fun b s2 => @WO _ (o s2 a b) ⟨fun d => Q d s2⟩⟩ E⟩ E := by
  refine (w_bind ..).trans (congrArg (fun z => @WR _ (f L s) ⟨z⟩ _) ?_)
  funext a s1
  refine (w_bind ..).trans (congrArg (fun z => @WR _ (g L s1) ⟨z⟩ _) ?_)
  funext b s2
  cases o s2 a b <;> rfl
theorem w_chain (o o' : S → D → D → Option D) (f g h : F D) : @WR _ (fChain o o' f g h L s) Q E = @WR _ (f L s) ⟨fun a s1 => @WR _ (g L s1) ⟨fun b s2 => @WO _ (o s2 a b) ⟨fun d => @WT d ⟨fun z => @WB z ⟨@WR _ (h L s2) ⟨fun c s3 => @WO _ (o' s3 b c) ⟨fun d => Q d s3⟩⟩ E⟩ ⟨Q (.bl false) s2⟩⟩⟩⟩ E⟩ E := by
  refine (w_bind ..).trans (congrArg (fun z => @WR _ (f L s) ⟨z⟩ _) ?_)
  funext a s1
  refine (w_bind ..).trans (congrArg (fun z => @WR _ (g L s1) ⟨z⟩ _) ?_)
  funext b s2
  cases o s2 a b with
  | none => rfl
  | some d => cases d <;> try rfl
              rename_i z
              cases z with
              | false => rfl
              | true =>
                refine (w_bind ..).trans (congrArg (fun z => @WR _ (h L s2) ⟨z⟩ _) ?_)
                funext c s3
                cases o' s3 b c <;> rfl
theorem w_notV (f : F D) : @WR _ (fNotV f L s) Q E = @WR _ (f L s) ⟨fun a s1 => @WT a ⟨fun b => Q (.bl (!b)) s1⟩⟩ E := by
  refine (w_bind ..).trans (congrArg (fun z => @WR _ (f L s) ⟨z⟩ _) ?_)
  funext a s1
  cases a <;> rfl
theorem w_andV (f g : F D) : @WR _ (fAndV f g L s) Q E = @WR _ (f L s) ⟨fun a s1 => @WT a ⟨fun b => @WB b ⟨@WR _ (g L s1) Q E⟩ ⟨Q (.bl false) s1⟩⟩⟩ E := by
  refine (w_bind ..).trans (congrArg (fun z => @WR _ (f L s) ⟨z⟩ _) ?_)
  funext a s1
  cases a <;> try rfl
  rename_i b
  cases b <;> rfl
theorem w_orV (f g : F D) : @WR _ (fOrV f g L s) Q E = @WR _ (f L s) ⟨fun a s1 => @WT a ⟨fun b => @WB b ⟨Q (.bl true) s1⟩ ⟨@WR _ (g L s1) Q E⟩⟩⟩ E := by
  refine (w_bind ..).trans (congrArg (fun z => @WR _ (f L s) ⟨z⟩ _) ?_)
  funext a s1
  cases a <;> try rfl
  rename_i b
  cases b <;> rfl
theorem w_ifE (t : F Bool) (f g : F D) : @WR _ (fIf t f g L s) Q E = @WR _ (t L s) ⟨fun b s1 => @WB b ⟨@WR _ (f L s1) Q E⟩ ⟨@WR _ (g L s1) Q E⟩⟩ E := by
  refine (w_bind ..).trans (congrArg (fun z => @WR _ (t L s) ⟨z⟩ _) ?_)
  funext b s1
  cases b <;> rfl
theorem w_tst (f : F D) {Q : Cn (Bool → S → Prop)} : @WR _ (fTst f L s) Q E = @WR _ (f L s) ⟨fun a s1 => @WT a ⟨fun b => Q b s1⟩⟩ E := by
  refine (w_bind ..).trans (congrArg (fun z => @WR _ (f L s) ⟨z⟩ _) ?_)
  funext a s1
  cases a <;> rfl
theorem w_not (t : F Bool) {Q : Cn (Bool → S → Prop)} : @WR _ (fNot t L s) Q E = @WR _ (t L s) ⟨fun b s1 => Q (!b) s1⟩ E := w_bind ..
theorem w_and (t u : F Bool) {Q : Cn (Bool → S → Prop)} : @WR _ (fAnd t u L s) Q E = @WR _ (t L s) ⟨fun b s1 => @WB b ⟨@WR _ (u L s1) Q E⟩ ⟨Q false s1⟩⟩ E := by
  refine (w_bind ..).trans (congrArg (fun z => @WR _ (t L s) ⟨z⟩ _) ?_)
  funext b s1
  cases b <;> rfl
theorem w_or (t u : F Bool) {Q : Cn (Bool → S → Prop)} : @WR _ (fOr t u L s) Q E = @WR _ (t L s) ⟨fun b s1 => @WB b ⟨Q true s1⟩ ⟨@WR _ (u L s1) Q E⟩⟩ E := by
  refine (w_bind ..).trans (congrArg (fun z => @WR _ (t L s) ⟨z⟩ _) ?_)
  funext b s1
  cases b <;> rfl
theorem w_yes {Q : Cn (Bool → S → Prop)} : @WR _ (fYes L s) Q E = Q true s := rfl
theorem w_nil {Q : Cn (List D → S → Prop)} : @WR _ (fNil L s) Q E = Q [] s := rfl
theorem w_cons (f : F D) (r : F (List D)) {Q : Cn (List D → S → Prop)} : @WR _ (fCons f r L s) Q E = @WR _ (f L s) ⟨fun a s1 => @WR _ (r L s1) ⟨fun as s2 => Q (a :: as) s2⟩ E⟩ E := by
  refine (w_bind ..).trans (congrArg (fun z => @WR _ (f L s) ⟨z⟩ _) ?_)
  funext a s1
  exact w_bind ..
theorem w_tup (fa : F (List D)) : @WR _ (fTup fa L s) Q E = @WR _ (fa L s) ⟨fun ds s1 => ds.length ≤ big ∧ Q (.tup ds) s1⟩ E := by
  refine (w_bind ..).trans (congrArg (fun z => @WR _ (fa L s) ⟨z⟩ _) ?_)
  funext ds s1
  by_cases h : ds.length ≤ big
  · simp only [h, if_true, true_and]
    rfl
  · simp only [h, if_false, false_and]
    rfl
theorem w_lst (fa : F (List D)) : @WR _ (fLst fa L s) Q E = @WR _ (fa L s) ⟨fun ds s1 => ds.length ≤ big ∧ Q (.lst ds) s1⟩ E := by
  refine (w_bind ..).trans (congrArg (fun z => @WR _ (fa L s) ⟨z⟩ _) ?_)
  funext ds s1
  by_cases h : ds.length ≤ big
  · simp only [h, if_true, true_and]
    rfl
  · simp only [h, if_false, false_and]
    rfl
theorem w_lstT (fa : F (List D)) : @WR _ (fLstT fa L s) Q E = @WR _ (fa L s) ⟨fun ds s1 => ds.length ≤ big ∧ Q (.ref s1.length) (s1 ++ [.lst ds])⟩ E := by
  refine (w_bind ..).trans (congrArg (fun z => @WR _ (fa L s) ⟨z⟩ _) ?_)
  funext ds s1
  by_cases h : ds.length ≤ big
  · simp only [h, if_true, true_and]
    rfl
  · simp only [h, if_false, false_and]
    rfl
theorem w_cb (o : S → List D → Option D) (fa : F (List D)) : @WR _ (fCB o fa L s) Q E = @WR _ (fa L s) ⟨fun ds s1 => @WO _ (o s1 ds) ⟨fun d => Q d s1⟩⟩ E := by
  refine (w_bind ..).trans (congrArg (fun z => @WR _ (fa L s) ⟨z⟩ _) ?_)
  funext ds s1
  cases o s1 ds <;> rfl
theorem w_call (n : Nat) (G : List D → S → R D) (fa : F (List D)) : @WR _ (fCall n G fa L s) Q E = @WR _ (fa L s) ⟨fun ds s1 => ds.length = n ∧ @WR _ (G ds s1) Q E⟩ E := by
  refine (w_bind ..).trans (congrArg (fun z => @WR _ (fa L s) ⟨z⟩ _) ?_)
  funext ds s1
  by_cases h : ds.length = n
  · simp only [h, if_true, true_and]
  · simp only [h, if_false, false_and]
    rfl
theorem w_callK (n m : Nat) (pk : List Pk) (dds : List D) (G : List D → S → R D) (fa fk : F (List D)) : @WR _ (fCallK n m pk dds G fa fk L s) Q E = @WR _ (fa L s) ⟨fun ds s1 => @WR _ (fk L s1) ⟨fun zs s2 => (ds.length = n ∧ zs.length = m) ∧ @WR _ (G (arr pk ds zs dds) s2) Q E⟩ E⟩ E := by
  refine (w_bind ..).trans (congrArg (fun z => @WR _ (fa L s) ⟨z⟩ _) ?_)
  funext ds s1
  refine (w_bind ..).trans (congrArg (fun z => @WR _ (fk L s1) ⟨z⟩ _) ?_)
  funext zs s2
  by_cases h : ds.length = n ∧ zs.length = m
  · rw [if_pos h]
    simp only [h, and_self, true_and]
  · rw [if_neg h]
    simp only [h, false_and]
    rfl
theorem w_neg (f : F D) : @WR _ (fNeg f L s) Q E = @WR _ (f L s) ⟨fun d s1 => @WI d ⟨fun i => Q (.int (-i)) s1⟩⟩ E := by
  refine (w_bind ..).trans (congrArg (fun z => @WR _ (f L s) ⟨z⟩ _) ?_)
  funext a s1
  cases a <;> rfl
theorem w_no {Q : Cn (Option Int → S → Prop)} : @WR _ (fNo L s) Q E = Q none s := rfl
theorem w_pt (f : F D) {Q : Cn (Option Int → S → Prop)} : @WR _ (fPt f L s) Q E = @WR _ (f L s) ⟨fun d s1 => @WI d ⟨fun i => Q (some i) s1⟩⟩ E := by
  refine (w_bind ..).trans (congrArg (fun z => @WR _ (f L s) ⟨z⟩ _) ?_)
  funext a s1
  cases a <;> rfl
theorem w_sl (f : F D) (l h : F (Option Int)) : @WR _ (fSl f l h L s) Q E = @WR _ (f L s) ⟨fun d s1 => @WR _ (l L s1) ⟨fun lo s2 => @WR _ (h L s2) ⟨fun hi s3 => @WO _ (dSl s3 d lo hi) ⟨fun r => Q r s3⟩⟩ E⟩ E⟩ E := by
  refine (w_bind ..).trans (congrArg (fun z => @WR _ (f L s) ⟨z⟩ _) ?_)
  funext d s1
  refine (w_bind ..).trans (congrArg (fun z => @WR _ (l L s1) ⟨z⟩ _) ?_)
  funext lo s2
  refine (w_bind ..).trans (congrArg (fun z => @WR _ (h L s2) ⟨z⟩ _) ?_)
  funext hi s3
  cases dSl s3 d lo hi <;> rfl
noncomputable def fldOf (s : S) (cs : List Addr) (n : Str) (d : D) : Option D := match insOf s d with
  | some (C, fs, vs) => if C ∈ cs then (fs.zip vs).lookup n else none
  | none => none
theorem w_fld (cs : List Addr) (n : Str) (f : F D) : @WR _ (fFld cs n f L s) Q E = @WR _ (f L s) ⟨fun d s1 => @WO _ (fldOf s1 cs n d) ⟨fun r => Q r s1⟩⟩ E := by
  refine (w_bind ..).trans (congrArg (fun z => @WR _ (f L s) ⟨z⟩ _) ?_)
  funext d s1
  unfold fldOf
  cases insOf s1 d with
  | none => rfl
  | some z =>
    obtain ⟨C, fs, vs⟩ := z
    dsimp only
    by_cases h : C ∈ cs
    · rw [if_pos h, if_pos h]
      cases List.lookup n (fs.zip vs) <;> rfl
    · rw [if_neg h, if_neg h]
      rfl
theorem w_src (f : F D) {Q : Cn (Src → S → Prop)} : @WR _ (fSrc f L s) Q E = @WR _ (f L s) ⟨fun d s1 => @WO _ (iSeq s1 d) ⟨fun r => Q r s1⟩⟩ E := by
  refine (w_bind ..).trans (congrArg (fun z => @WR _ (f L s) ⟨z⟩ _) ?_)
  funext d s1
  cases iSeq s1 d <;> rfl
theorem w_rng (o : List D → Option Src) (fa : F (List D)) {Q : Cn (Src → S → Prop)} : @WR _ (fRng o fa L s) Q E = @WR _ (fa L s) ⟨fun ds s1 => @WO _ (o ds) ⟨fun r => Q r s1⟩⟩ E := by
  refine (w_bind ..).trans (congrArg (fun z => @WR _ (fa L s) ⟨z⟩ _) ?_)
  funext ds s1
  cases o ds <;> rfl
theorem w_enu (f : F D) {Q : Cn (Src → S → Prop)} : @WR _ (fEnu (fCons f fNil) L s) Q E = @WR _ (f L s) ⟨fun d s1 => @WO _ (iEnu s1 d) ⟨fun r => Q r s1⟩⟩ E := by
  unfold fEnu fCons
  cases f L s with
  | ok d s1 =>
    show @WR _ (match iEnu s1 d with
      | some r => .ok r s1
      | none => .bad) Q E = @WO _ (_) _
    cases iEnu s1 d <;> rfl
  | ex => rfl
  | bad => rfl
theorem w_listT (f : F D) : @WR _ (fListT (fCons f fNil) L s) Q E = @WR _ (f L s) ⟨fun d s1 => @WO _ (seqOf s1 d) ⟨fun xs => Q (.ref s1.length) (s1 ++ [.lst xs])⟩⟩ E := by
  unfold fListT fCons
  cases f L s with
  | ok d s1 =>
    show @WR _ (match seqOf s1 d with
      | some xs => R.ok (.ref s1.length) (s1 ++ [.lst xs])
      | none => .bad) Q E = @WO _ (_) _
    cases seqOf s1 d <;> rfl
  | ex => rfl
  | bad => rfl
noncomputable def appOf (n : Nat) (y : D) (s : S) : Option S := match s[n]? with
  | some (.lst xs) => if xs.length < big then some (s.set n (.lst (xs ++ [y]))) else none
  | _ => none
noncomputable def isLst (n : Nat) (s : S) : Bool := match s[n]? with
  | some (.lst _) => true
  | _ => false
noncomputable def WN (d : D) {Q : Cn (Nat → Prop)} : Prop := match d with
  | .ref n => Q n
  | _ => False
theorem w_tn (n : Nat) (Q : Cn (Nat → Prop)) : @WN (.ref n) Q = Q n := rfl
theorem w_app (fo f : F D) : @WR _ (fApp fo (fCons f fNil) L s) Q E = @WR _ (fo L s) ⟨fun d s1 => @WN d ⟨fun n => isLst n s1 = true ∧ @WR _ (f L s1) ⟨fun y s2 => @WO _ (appOf n y s2) ⟨fun s3 => Q .non s3⟩⟩ E⟩⟩ E := by
  refine (w_bind ..).trans (congrArg (fun z => @WR _ (fo L s) ⟨z⟩ _) ?_)
  funext d s1
  cases d <;> try rfl
  rename_i n
  show @WR _ (match s1[n]? with
    | some (.lst _) => _
    | _ => .bad) Q E = (isLst n s1 = true ∧ _)
  unfold isLst
  cases s1[n]? with
  | none => simp only [Bool.false_eq_true, false_and]; rfl
  | some o =>
    cases o <;> try (simp only [Bool.false_eq_true, false_and]; rfl)
    simp only [true_and]
    unfold fCons
    cases f L s1 with
    | ok y s2 =>
      show @WR _ (match s2[n]? with
        | some (.lst xs) => _
        | _ => .bad) Q E = @WO _ (appOf n y s2) _
      unfold appOf
      cases s2[n]? with
      | none => rfl
      | some o2 =>
        cases o2 <;> try rfl
        rename_i xs
        dsimp only
        by_cases h : xs.length < big
        · rw [if_pos h, if_pos h]
          rfl
        · rw [if_neg h, if_neg h]
          rfl
    | ex => rfl
    | bad => rfl
noncomputable def fldPut (s : S) (cs : List Addr) (n : Str) (o d : D) : Option S := match o with
  | .ref k => match s[k]? with
    | some (.ins C fs vs) => if C ∈ cs ∧ fs.length < 1000 then some (s.set k (.ins C (putN n d fs vs).1 (putN n d fs vs).2)) else none
    | _ => none
  | _ => none
theorem w_fldT (cs : List Addr) (n : Str) (fo f : F D) : @WS (sFldT cs n fo f L s) B = @WR _ (f L s) ⟨fun d s1 => @WR _ (fo L s1) ⟨fun o s2 => @WO _ (fldPut s2 cs n o d) ⟨fun s' => B.nx L s'⟩⟩ ⟨fun C fs vs s => B.ex C fs vs L s⟩⟩ ⟨fun C fs vs s => B.ex C fs vs L s⟩ := by
  refine (w_bindS ..).trans (congrArg (fun z => @WR _ (f L s) ⟨z⟩ _) ?_)
  funext d s1
  refine (w_bindS ..).trans (congrArg (fun z => @WR _ (fo L s1) ⟨z⟩ _) ?_)
  funext o s2
  cases o <;> try rfl
  rename_i k
  unfold fldPut
  dsimp only
  cases s2[k]? with
  | none => rfl
  | some o =>
    cases o <;> try rfl
    rename_i C fs vs
    dsimp only
    by_cases h : C ∈ cs ∧ fs.length < 1000
    · rw [if_pos h, if_pos h]
      rfl
    · rw [if_neg h, if_neg h]
      rfl
theorem w_make (C : Addr) (n : Nat) (G : List D → S → R D) (fa : F (List D)) : @WR _ (fMake C n G fa L s) Q E = @WR _ (fa L s) ⟨fun ds s1 => @WR _ (mkD C n G ds s1) Q E⟩ E := w_bind ..
theorem w_makeL (i : Nat) (C : Addr) (n : Nat) (G : List D → S → R D) (fa : F (List D)) : @WR _ (fMakeL i C n G fa L s) Q E = @WV (L[i]?) ⟨fun d => d = .gl C ∧ @WR _ (fMake C n G fa L s) Q E⟩ := by
  unfold fMakeL
  cases L[i]? with
  | none => rfl
  | some z => cases z with
    | none => rfl
    | some d =>
      show _ = (d = .gl C ∧ _)
      cases d <;> try (simp only [reduceCtorEq, false_and]; rfl)
      rename_i C'
      by_cases h : C' = C
      · subst h
        simp only [if_true, true_and]
      · simp only [h, if_false, D.gl.injEq, false_and]
        rfl
theorem w_mk (C : Addr) (n : Nat) (G : List D → S → R D) (ds : List D) : @WR _ (mkD C n G ds s) Q E = (ds.length + 1 = n ∧ @WR _ (G (.ref s.length :: ds) (s ++ [.ins C [] []])) ⟨fun d s2 => @WO _ (insOf s2 (.ref s.length)) ⟨fun z => (d = .non ∧ z.1 = C ∧ s2.take s.length = s ∧ D.bels s.length z.2.2 = true) ∧ Q (.ins C z.2.1 z.2.2) s⟩⟩ ⟨fun C' fs vs s2 => (s2.take s.length = s ∧ D.bels s.length vs = true) ∧ E C' fs vs s⟩) := by
  unfold mkD
  by_cases h : ds.length + 1 = n
  · rw [if_pos h]
    simp only [h, true_and]
    cases G (.ref s.length :: ds) (s ++ [.ins C [] []]) with
    | ok d s2 =>
      show @WR _ (match s2[s.length]? with
        | some (.ins C' fs vs) => _
        | _ => .bad) Q E = @WO _ (insOf s2 (.ref s.length)) _
      unfold insOf
      dsimp only
      cases s2[s.length]? with
      | none => rfl
      | some o =>
        cases o <;> try rfl
        rename_i C' fs vs
        show @WR _ (if _ then _ else _) Q E = ((d = .non ∧ C' = C ∧ s2.take s.length = s ∧ D.bels s.length vs = true) ∧ _)
        by_cases h2 : d = .non ∧ C' = C ∧ s2.take s.length = s ∧ D.bels s.length vs = true
        · rw [if_pos h2]
          simp only [h2, true_and, and_self]
          rfl
        · rw [if_neg h2]
          simp only [h2, false_and]
          rfl
    | ex C' fs vs s2 =>
      show @WR _ (if _ then _ else _) Q E = (_ ∧ _)
      by_cases h2 : s2.take s.length = s ∧ D.bels s.length vs = true
      · rw [if_pos h2]
        simp only [h2, true_and, and_self]
        rfl
      · rw [if_neg h2]
        simp only [h2, false_and]
        rfl
    | bad => rfl
  · rw [if_neg h]
    simp only [h, false_and]
    rfl
theorem get_app (s : S) (o : O) : (s ++ [o])[s.length]? = some o := by simp
theorem set_app (s : S) (o o' : O) : (s ++ [o]).set s.length o' = s ++ [o'] := by simp
theorem fld_app {C : Addr} {cs : List Addr} {n : Str} {d : D} {fs : List Str} {vs : List D} (s : S) (h : C ∈ cs) (hl : fs.length < 1000) : fldPut (s ++ [.ins C fs vs]) cs n (.ref s.length) d = some (s ++ [.ins C (putN n d fs vs).1 (putN n d fs vs).2]) := by
  unfold fldPut
  simp only [get_app, set_app, h, hl, and_self, if_true]
/-- a comprehension behind its source -/
noncomputable def lcE (q : Tg) (t : F Bool) (f : F D) (vs : List Nat) (L : Lc) (r : Src) (s1 : S) : R D := match lcL q t f r (wipeD L vs) s1.length r.items (s1 ++ [.lst []]) with
  | .ok _ s2 => match s2[s1.length]? with
    | some (.lst ys) => if (s2.take s1.length).all (O.bel s1.length) = true ∧ D.bels s1.length ys = true then .ok (.lst ys) (s2.take s1.length) else .bad
    | _ => .bad
  | _ => .bad
theorem w_lc (fi : F Src) (q : Tg) (t : F Bool) (f : F D) (vs : List Nat) : @WR _ (fLc fi q t f vs L s) Q E = @WR _ (fi L s) ⟨fun r s1 => @WR _ (lcE q t f vs L r s1) Q E⟩ E := w_bind ..
theorem w_run (N : Nat) (body : FS) (ds : List D) (s : S) : @WR _ (runF N body ds s) Q E = @WL (startD N ds) ⟨fun L => @WS (body L s) ⟨fun _ s => Q .non s, Q, fun _ _ => False, fun _ _ => False, fun C fs vs _ s => E C fs vs s⟩⟩ := by
  show @WR _ ((body (startD N ds) s).fin) Q E = @WS (body (startD N ds) s) _
  cases body (startD N ds) s <;> rfl
theorem w_cut (G : List D → S → R D) (ds : List D) (s : S) : @WR _ (cutF G ds s) Q E = @WR _ (G ds s) ⟨fun d s' => (s'.take s.length).all (O.bel s.length) = true ∧ @WO _ (fin2 s.length s' d) ⟨fun d' => Q d' (s'.take s.length)⟩⟩ ⟨fun C fs vs s' => ((s'.take s.length).all (O.bel s.length) = true ∧ D.bels s.length vs = true) ∧ E C fs vs (s'.take s.length)⟩ := by
  unfold cutF
  cases G ds s with
  | ok d s' =>
    show @WR _ (if _ then _ else _) Q E = (_ ∧ _)
    by_cases h : (s'.take s.length).all (O.bel s.length) = true
    · rw [if_pos h]
      simp only [h, true_and]
      cases fin2 s.length s' d <;> rfl
    · rw [if_neg h]
      simp only [h, Bool.false_eq_true, false_and]
      rfl
  | ex C fs vs s' =>
    show @WR _ (if _ then _ else _) Q E = (_ ∧ _)
    by_cases h : (s'.take s.length).all (O.bel s.length) = true ∧ D.bels s.length vs = true
    · rw [if_pos h]
      simp only [h, true_and]
      rfl
    · rw [if_neg h]
      simp only [h, false_and]
      rfl
  | bad => rfl
theorem w_pure (G : List D → S → R D) (ds : List D) (s : S) : @WR _ (pureF G ds s) Q E = @WR _ (G ds s) ⟨fun d s' => s'.take s.length = s ∧ @WO _ (fin2 s.length s' d) ⟨fun d' => Q d' s⟩⟩ ⟨fun C fs vs s' => (s'.take s.length = s ∧ D.bels s.length vs = true) ∧ E C fs vs s⟩ := by
  unfold pureF
  cases G ds s with
  | ok d s' =>
    show @WR _ (if _ then _ else _) Q E = (_ ∧ _)
    by_cases h : s'.take s.length = s
    · rw [if_pos h]
      simp only [h, true_and]
      cases fin2 s.length s' d <;> rfl
    · rw [if_neg h]
      simp only [h, false_and]
      rfl
  | ex C fs vs s' =>
    show @WR _ (if _ then _ else _) Q E = (_ ∧ _)
    by_cases h : s'.take s.length = s ∧ D.bels s.length vs = true
    · rw [if_pos h]
      simp only [h, true_and]
      rfl
    · rw [if_neg h]
      simp only [h, false_and]
      rfl
  | bad => rfl
end
/-! ### weakening, results -/
theorem WR.mono {α : Type} {r : R α} {Q Q' : Cn (α → S → Prop)} {E E' : Cn (Addr → List Str → List D → S → Prop)} (h : @WR _ r Q E) (hq : ∀ a s, Q a s → Q' a s) (he : ∀ C fs vs s, E C fs vs s → E' C fs vs s) : @WR _ r Q' E' := by
  cases r with
  | ok a s => exact hq _ _ h
  | ex C fs vs s => exact he _ _ _ _ h
  | bad => exact h
theorem WS.mono {r : RS} {B B' : Bs} (h : @WS r B) (h1 : ∀ L s, B.nx L s → B'.nx L s) (h2 : ∀ d s, B.rt d s → B'.rt d s) (h3 : ∀ L s, B.bk L s → B'.bk L s) (h4 : ∀ L s, B.ct L s → B'.ct L s) (h5 : ∀ C fs vs L s, B.ex C fs vs L s → B'.ex C fs vs L s) : @WS r B' := by
  cases r with
  | nx L s => exact h1 _ _ h
  | rt L s => exact h2 _ _ h
  | bk L s => exact h3 _ _ h
  | ct L s => exact h4 _ _ h
  | ex C fs vs L s => exact h5 _ _ _ _ _ h
  | bad => exact h
/-- from a wp of just one result to the equation -/
theorem eq_ok {α : Type} {r : R α} {a : α} {s : S} (h : @WR _ r ⟨fun a' s' => a' = a ∧ s' = s⟩ ⟨nE⟩) : r = .ok a s := by
  cases r with
  | ok b t =>
    obtain ⟨rfl, rfl⟩ := h
    rfl
  | ex => exact h.elim
  | bad => exact h.elim
theorem eq_ex {α : Type} {r : R α} {C : Addr} {fs : List Str} {vs : List D} {s : S} (h : @WR _ r ⟨fun _ _ => False⟩ ⟨fun C' fs' vs' s' => C' = C ∧ fs' = fs ∧ vs' = vs ∧ s' = s⟩) : r = .ex C fs vs s := by
  cases r with
  | ok b t => exact h.elim
  | ex =>
    obtain ⟨rfl, rfl, rfl, rfl⟩ := h
    rfl
  | bad => exact h.elim
theorem ex_ok {α : Type} {r : R α} {P : α → S → Prop} (h : @WR _ r ⟨P⟩ ⟨nE⟩) : ∃ a s, r = .ok a s ∧ P a s := by
  cases r with
  | ok b t => exact ⟨b, t, rfl, h⟩
  | ex => exact h.elim
  | bad => exact h.elim
theorem wb_intro {b : Bool} {P Q : Cn Prop} (h1 : b = true → P.f) (h2 : b = false → Q.f) : @WB b P Q := by
  cases b with
  | true => exact h1 rfl
  | false => exact h2 rfl
theorem wb_dec {p : Prop} [Decidable p] {P Q : Cn Prop} (h1 : p → P.f) (h2 : ¬ p → Q.f) : @WB (decide p) P Q := wb_intro (fun h => h1 (of_decide_eq_true h)) (fun h => h2 (of_decide_eq_false h))
theorem wb_not {b : Bool} {P Q : Cn Prop} : @WB (!b) P Q = @WB b Q P := by cases b <;> rfl
theorem ws_cut {u v : FS} {L : Lc} {s : S} {B : Bs} (M : Lc → S → Prop) (h1 : @WS (u L s) { B with nx := M }) (h2 : ∀ L s, M L s → @WS (v L s) B) : @WS (sSeq u v L s) B := by
  rw [w_seq]
  exact h1.mono h2 (fun _ _ h => h) (fun _ _ h => h) (fun _ _ h => h) (fun _ _ _ _ _ h => h)
/-! ### loops -/
theorem ws_for {q : Tg} {body : FS} {r : Src} {B : Bs} (I : Nat → Lc → S → Prop) : ∀ (ds : List D) (k : Nat) {L : Lc} {s : S}, I k L s →
    (∀ i d L s, ds[i]? = some d → I (k + i) L s → chk r s = true ∧ @WO _ (q d L) ⟨fun L1 => @WS (body L1 s) ⟨I (k + i + 1), B.rt, B.nx, I (k + i + 1), B.ex⟩⟩) →
    (∀ L s, I (k + ds.length) L s → chk r s = true ∧ B.nx L s) → @WS (forL q body r ds L s) B
  | [], k, L, s, h0, _, he => by
    have := he L s h0
    unfold forL
    rw [if_pos this.1]
    exact this.2
  | d :: ds, k, L, s, h0, hs, he => by
    have h1 := hs 0 d L s rfl h0
    unfold forL
    rw [if_pos h1.1]
    have h2 := h1.2
    cases eq : q d L with
    | none =>
      rw [eq] at h2
      exact h2.elim
    | some L1 =>
      rw [eq] at h2
      have h3 : @WS (body L1 s) ⟨I (k + 0 + 1), B.rt, B.nx, I (k + 0 + 1), B.ex⟩ := h2
      dsimp only
      have go : ∀ L2 s2, I (k + 0 + 1) L2 s2 → @WS (forL q body r ds L2 s2) B := fun L2 s2 h4 =>
        ws_for I ds (k + 1) h4 (fun i d L s e hi => by
          have z := hs (i + 1) d L s e
          rw [show k + (i + 1) = k + 1 + i by omega] at z
          exact z hi) (fun L s hi => by
          refine he L s ?_
          rw [List.length_cons, show k + (ds.length + 1) = k + 1 + ds.length by omega]
          exact hi)
      cases eb : body L1 s with
      | nx L2 s2 =>
        rw [eb] at h3
        exact go L2 s2 h3
      | ct L2 s2 =>
        rw [eb] at h3
        exact go L2 s2 h3
      | bk L2 s2 =>
        rw [eb] at h3
        exact h3
      | rt d s2 =>
        rw [eb] at h3
        exact h3
      | ex C fs ds L2 s2 =>
        rw [eb] at h3
        exact h3
      | bad =>
        rw [eb] at h3
        exact h3.elim
/-- for i in range: lo, lo + 1, .. -/
theorem ws_rng {q : Tg} {body : FS} {lo : Int} {n : Nat} {B : Bs} {L : Lc} {s : S} (I : Nat → Lc → S → Prop) (h0 : I 0 L s)
    (hs : ∀ i L s, i < n → I i L s → @WO _ (q (.int (lo + i)) L) ⟨fun L1 => @WS (body L1 s) ⟨I (i + 1), B.rt, B.nx, I (i + 1), B.ex⟩⟩)
    (he : ∀ L s, I n L s → B.nx L s) : @WS (forL q body ⟨rgItems lo n, none⟩ (rgItems lo n) L s) B := by
  have hl : (rgItems lo n).length = n := by simp [rgItems]
  refine ws_for I (rgItems lo n) 0 h0 (fun i d L s e hi => ⟨rfl, ?_⟩) (fun L s hi => ⟨rfl, he L s ?_⟩)
  · rw [Nat.zero_add] at hi ⊢
    unfold rgItems at e
    rw [List.getElem?_map] at e
    obtain ⟨j, ej, rfl⟩ := Option.map_eq_some_iff.mp e
    obtain ⟨hj, ej⟩ := List.getElem?_eq_some_iff.mp ej
    rw [List.getElem_range] at ej
    subst ej
    rw [List.length_range] at hj
    exact hs i L s hj hi
  · rw [Nat.zero_add, hl] at hi
    exact hi
/-- for x in a list that is not tracked -/
theorem ws_lst {α : Type} {f : α → D} {q : Tg} {body : FS} {B : Bs} {xs : List α} {on : List D} {L : Lc} {s : S} (I : Nat → Lc → S → Prop) (h0 : I 0 L s)
    (hs : ∀ i (hi : i < xs.length) L s, I i L s → @WO _ (q (f xs[i]) L) ⟨fun L1 => @WS (body L1 s) ⟨I (i + 1), B.rt, B.nx, I (i + 1), B.ex⟩⟩)
    (he : ∀ L s, I xs.length L s → B.nx L s) : @WS (forL q body ⟨on, none⟩ (xs.map f) L s) B := by
  refine ws_for I (xs.map f) 0 h0 (fun i d L s e hi => ⟨rfl, ?_⟩) (fun L s hi => ⟨rfl, he L s ?_⟩)
  · rw [Nat.zero_add] at hi ⊢
    rw [List.getElem?_map] at e
    obtain ⟨x, ex, rfl⟩ := Option.map_eq_some_iff.mp e
    obtain ⟨hj, ej⟩ := List.getElem?_eq_some_iff.mp ex
    subst ej
    exact hs i hj L s hi
  · rw [Nat.zero_add, List.length_map] at hi
    exact hi
end SI

/-! keyword-only parameters with defaults -/
namespace SI
open PySem PySem.Spec PyProof.Rows L2
theorem kb_ofD {K : PySem.W.Frag} {x qual : Str} {ar : Arguments} {bd : List Stmt} {sc : Scope} {D : Addr} {doc pm : Value} {an : Option Addr} {cdv ct : Value} {ps ks : List Str} {n : Nat} {pk : List Pk} {dvs : List V} {ms : List (Str × Value)} (hq : ∀ q ∈ ms, PySem.W.nsIn K D q.1 = some (some q.2)) (rv : Vals dvs (ms.map (·.2)))
    (h : ∀ us ws : List Value, us.length = n → ws.length = ks.length → KwChain D ms (bindArgs (PySem.W.fnOf x qual ar bd sc .none (.ref D) doc pm an cdv ct) ⟨us, ks.zip ws⟩) (ps.zip (arr pk us ws (ms.map (·.2))))) : KB K (PySem.W.fnOf x qual ar bd sc .none (.ref D) doc pm an cdv ct) ps n ks pk dvs :=
  ⟨ms.map (·.2), rv, fun s us ws X l1 l2 => BindsTo.of_looks fun M => KwChain.looks X hq (h us ws l1 l2)⟩
end SI

/-! comprehensions whose list is changed later -/
namespace SI
open PySem PySem.Spec PyProof.Rows L2
section
variable {X : Cx} {W : WX} {a b c e : Expr} {f g h : F D} {t : F Bool} {fa : F (List D)} {es : List Expr} {pos : Pos} {st : Stmt} {sts : List Stmt} {u v : FS}
/-- a comprehension's list, tracked -/
noncomputable def fLcT (fi : F Src) (q : Tg) (t : F Bool) (f : F D) (vs : List Nat) : F D := fun L s => (fi L s).bind fun r s1 => match lcL q t f r (wipeD L vs) s1.length r.items (s1 ++ [.lst []]) with
  | .ok _ s2 => match s2[s1.length]? with
    | some (.lst _) => .ok (.ref s1.length) s2
    | _ => .bad
  | _ => .bad
end
end SI

/-! methods of lists -/
namespace SI
open PySem PySem.Spec PyProof.Rows L2
section
variable {X : Cx} {W : WX} {o e : Expr} {es : List Expr} {fo : F D} {fa : F (List D)} {pos : Pos}
noncomputable def fMth (m : S → D → List D → Option (D × S)) (fo : F D) (fa : F (List D)) : F D := fun L s => (fo L s).bind fun d s1 => match lstOf s1 d with
  | some _ => (fa L s1).bind fun ds s2 => match m s2 d ds with
    | some z => .ok z.1 z.2
    | none => .bad
  | none => .bad
noncomputable def MthL (K : PySem.W.Frag) (r : V → List V → Hp → VK → Prop) (m : S → D → List D → Option (D × S)) : Prop :=
  ∀ (mu : Mu) (s : S) (H : Hp) (d : D) (ds : List D) (v : V) (vs : List V) (Q : VK) (z : D × S), Sim K mu s H → RelD K mu H d v → RelDs K mu H ds vs → m s d ds = some z → (∀ mu' H' u, Ge mu H mu' H' → Sim K mu' z.2 H' → RelD K mu' H' z.1 u → Q u H') → r v vs H Q
theorem pE_mth {name : Str} {id : String} {r : V → List V → Hp → VK → Prop} {m : S → D → List D → Option (D × S)} {apos : Pos} (slot : Slot "list" name id) (hty : typeOf (.builtin id) = pure (.type "method_descriptor")) (hm : MtR X id r) (hl : MthL X.K r m)
    (ho : PE X o (tE X.K W fo)) (ha : PA X (e :: es) (tA X.K W fa)) (hbase : attributeBase o name X.env (eval o X.env) = eval o X.env := by rfl)
    (hfew : ((backTo pos (starEach (e :: es) X.env)).all (fun x => !x.1) && (backToKw pos (keywordEach [] X.env)).all (fun x => x.1.isSome)
      && decide ((e :: es).length + ([] : List Keyword).length + (if ([] : List Keyword).isEmpty then 0 else 1) < 30)) = true := by rfl)
    (hline : (apos.endLine == pos.line) = true := by rfl) (hs : starEach (e :: es) X.env = (false, eval e X.env) :: starEach es X.env := by rfl) (hplain : (backTo pos (starEach es X.env)).any (·.1) = false := by rfl) :
    PE X (.Call (.Attribute o name apos) (e :: es) [] pos) (tE X.K W (fMth m fo fa)) := by
  refine PE.weak (pe_bm PySem.F.plainAttrs_list slot hty hm ho ha hbase hfew hline hs hplain) fun σ H Q ⟨mu, s, L, m0, l, q⟩ => ?_
  refine ⟨mu, s, L, m0, l, Post.step q fun d s1 mu1 H1 v1 g1 m1 r1 p1 => ?_⟩
  cases en : lstOf s1 d with
  | none =>
    rw [en] at p1
    exact p1.elim
  | some ys =>
    rw [en] at p1
    obtain ⟨a, vs, rfl, sq, rs⟩ := sq_lstOf m1 r1 en
    refine ⟨.inl ⟨rfl, _, sq⟩, mu1, s1, L, m1, l.mono g1, Post.step p1 fun ds s2 mu2 H2 ws g2 m2 r2 p2 => ?_⟩
    cases em : m s2 d ds with
    | none =>
      rw [em] at p2
      exact p2.elim
    | some z =>
      rw [em] at p2
      exact hl mu2 s2 H2 d ds _ ws Q z m2 (r1.mono g2) r2 em fun mu' H' u g3 m3 r3 => p2 mu' H' u g3 m3 r3
noncomputable def mInsert (s : S) (d : D) : List D → Option (D × S)
  | [.int i, y] => match d with
    | .ref n => match s[n]? with
      | some (.lst xs) => if xs.length < big ∧ 0 ≤ i ∧ i < 2 ^ 60 then some (.non, s.set n (.lst (xs.take i.toNat ++ [y] ++ xs.drop i.toNat))) else none
      | _ => none
    | _ => none
  | _ => none
theorem ml_insert {K : PySem.W.Frag} : MthL K (fun x vs H Q => ∃ (l : Addr) (xs : List V) (i : Int) (y : V), x = .ref l ∧ vs = [.int i, y] ∧ H l = some (.lst xs) ∧ xs.length < sizeLine ∧ 0 ≤ i ∧ i < 2 ^ 63 ∧ Q .non (upd H l (.lst (xs.take i.toNat ++ [y] ++ xs.drop i.toNat)))) mInsert := by
  intro mu s H d ds v vs Q z m r rs e q
  unfold mInsert at e
  split at e
  · rename_i i y
    split at e
    · rename_i n
      split at e
      · rename_i xs en
        split at e
        · rename_i hc
          cases e
          obtain ⟨a, us, rfl, ea, eh, rr⟩ := sq_ref m r en
          simp only [RelDs] at rs
          obtain ⟨w1, rs1, rfl, h1, w2, rs2, rfl, h2, rfl⟩ := rs
          have ew := rel_int.mp h1
          subst ew
          refine ⟨a, us, i, w2, rfl, rfl, eh, ?_, hc.2.1, Int.lt_trans hc.2.2 (by decide +kernel), ?_⟩
          · rw [← rr.length]
            exact Nat.lt_of_lt_of_le hc.1 (big_le (Nat.le_refl _))
          · refine q mu _ _ (Ge.put ea) (m.put ea ?_) (rel_non.mpr rfl)
            have rr2 := rr.mono (Ge.put (u := .lst (us.take i.toNat ++ [w2] ++ us.drop i.toNat)) ea)
            exact ⟨_, upd_same, ((rr2.take _).append (.cons (h2.mono (Ge.put ea)) .nil)).append (rr2.drop _)⟩
        · cases e
      · cases e
    · cases e
  · cases e
theorem pE_insert {e' : Expr} {apos : Pos} (ho : PE X o (tE X.K W fo)) (ha : PA X [e, e'] (tA X.K W fa)) (hbase : attributeBase o "insert" X.env (eval o X.env) = eval o X.env := by rfl)
    (hfew : ((backTo pos (starEach [e, e'] X.env)).all (fun x => !x.1) && (backToKw pos (keywordEach [] X.env)).all (fun x => x.1.isSome)
      && decide ([e, e'].length + ([] : List Keyword).length + (if ([] : List Keyword).isEmpty then 0 else 1) < 30)) = true := by rfl)
    (hline : (apos.endLine == pos.line) = true := by rfl) (hs : starEach [e, e'] X.env = (false, eval e X.env) :: starEach [e'] X.env := by rfl) (hplain : (backTo pos (starEach [e'] X.env)).any (·.1) = false := by rfl) :
    PE X (.Call (.Attribute o "insert" apos) [e, e'] [] pos) (tE X.K W (fMth mInsert fo fa)) := pE_mth PySem.F.slot_list_insert PySem.F.type_list_insert mt_insert ml_insert ho ha hbase hfew hline hs hplain
noncomputable def mPopAt (s : S) (d : D) : List D → Option (D × S)
  | [.int i] => match d with
    | .ref n => match s[n]? with
      | some (.lst xs) => if 0 ≤ i ∧ i < 2 ^ 60 then (xs[i.toNat]?).map fun y => (y, s.set n (.lst (xs.eraseIdx i.toNat))) else none
      | _ => none
    | _ => none
  | _ => none
theorem RelDs.eraseIdx {K : PySem.W.Frag} {mu : Mu} {H : Hp} : ∀ {ds : List D} {vs : List V} (i : Nat), RelDs K mu H ds vs → RelDs K mu H (ds.eraseIdx i) (vs.eraseIdx i)
  | [], vs, i, h => by
    simp only [RelDs] at h
    subst h
    exact .nil
  | x :: xs, vs, 0, h => by
    simp only [RelDs] at h
    obtain ⟨w, r, rfl, h1, h2⟩ := h
    exact h2
  | x :: xs, vs, i + 1, h => by
    simp only [RelDs] at h
    obtain ⟨w, r, rfl, h1, h2⟩ := h
    exact .cons h1 (RelDs.eraseIdx i h2)
theorem ml_popAt {K : PySem.W.Frag} : MthL K rPopAt mPopAt := by
  intro mu s H d ds v vs Q z m r rs e q
  unfold mPopAt at e
  split at e
  · rename_i i
    split at e
    · rename_i n
      split at e
      · rename_i xs en
        split at e
        · rename_i hc
          obtain ⟨y, ey, rfl⟩ := Option.map_eq_some_iff.mp e
          obtain ⟨a, us, rfl, ea, eh, rr⟩ := sq_ref m r en
          obtain ⟨w, rfl, rw⟩ := rel1 rs
          have ew := rel_int.mp rw
          subst ew
          obtain ⟨u, eu, ru⟩ := rr.get ey
          have hlt := (List.getElem?_eq_some_iff.mp eu).1
          refine ⟨a, us, i, i.toNat, u, rfl, rfl, eh, Int.le_trans (by decide +kernel) hc.1, Int.lt_trans hc.2 (by decide +kernel), ?_, eu, ?_⟩
          · unfold seqIndex?
            split
            · omega
            · simp
              omega
          · refine q mu _ _ (Ge.put ea) (m.put ea ⟨_, upd_same, (RelDs.eraseIdx _ rr).mono (Ge.put ea)⟩) (ru.mono (Ge.put ea))
        · cases e
      · cases e
    · cases e
  · cases e
theorem pE_popAt {apos : Pos} (ho : PE X o (tE X.K W fo)) (ha : PA X [e] (tA X.K W fa)) (hbase : attributeBase o "pop" X.env (eval o X.env) = eval o X.env := by rfl)
    (hfew : ((backTo pos (starEach [e] X.env)).all (fun x => !x.1) && (backToKw pos (keywordEach [] X.env)).all (fun x => x.1.isSome)
      && decide ([e].length + ([] : List Keyword).length + (if ([] : List Keyword).isEmpty then 0 else 1) < 30)) = true := by rfl)
    (hline : (apos.endLine == pos.line) = true := by rfl) (hs : starEach [e] X.env = (false, eval e X.env) :: starEach [] X.env := by rfl) :
    PE X (.Call (.Attribute o "pop" apos) [e] [] pos) (tE X.K W (fMth mPopAt fo fa)) := pE_mth PySem.F.slot_list_pop PySem.F.type_list_pop mt_popAt ml_popAt ho ha hbase hfew hline hs rfl
end
end SI

/-! sorted(xs, key=lambda at: rows[at][2]): a lambda that captures a name of the def -/
namespace SI
open PySem PySem.Spec PyProof.Rows L2
/-- the written part's code objects of the names tabNs: their tables are among the tables ts -/
noncomputable def tabsIn (K : PySem.W.Frag) (ts : List Addr) : Bool := K.all fun p => match p.2.data with
  | .fields vs => (match (vs[1]? : Option Value) with
    | some (.str q _) => if q ∈ tabNs then (match (vs[11]? : Option Value) with
        | some (.ref P) => decide (P ∈ ts)
        | _ => true) else true
    | _ => true)
  | _ => true
/-- no two code objects of other names share the table P -/
noncomputable def tabU (K : PySem.W.Frag) (P : Addr) (q : Str) : Bool := K.all fun p => match p.2.data with
  | .fields vs => (match (vs[11]? : Option Value) with
    | some (.ref P') => if P' = P then (match (vs[1]? : Option Value) with
        | some (.str q' _) => decide (q' = q)
        | _ => true) else true
    | _ => true)
  | _ => true
theorem tabK_start {K : PySem.W.Frag} {ts : List Addr} {mu : Mu} {H : Hp} (h : tabsIn K ts = true) (hP : ∀ P ∈ ts, H P = some (.tbl #[]) ∧ ¬ Live mu P) : TabK K mu H := by
  intro c oc vs q t P h1 h2 h3 h4 h5
  have z := List.all_eq_true.mp h _ (PySem.W.mem_of_lookupK h1)
  dsimp only at z
  rw [h2] at z
  dsimp only at z
  rw [h3] at z
  dsimp only at z
  rw [if_pos h5, h4] at z
  obtain ⟨e, n⟩ := hP P (of_decide_eq_true z)
  refine ⟨n, #[], e, True.intro, fun pos cv hc => ?_⟩
  have hc : codeAmong pos [] = some cv := hc
  simp [codeAmong] at hc
/-- what the text says of a def that makes a lambda: c its code object, P the table -/
structure LamT (K : PySem.W.Frag) (base : Heap) (mg : Str → Option Value) (q : Str) (c P : Addr) : Prop where
  tb : LamX.TabB base mg c P
  at_ : ∃ (oc : Obj) (vs : Array Value) (t : Tok), K.lookup c = some oc ∧ oc.data = .fields vs ∧ vs[1]? = some (.str q t) ∧ vs[11]? = some (.ref P)
  nm : q ∈ tabNs
  un : tabU K P q = true
section
variable {X : Cx} {pins : List (Addr × Obj)} {σ : L2.St} {H : Hp} {s : Shared}
end
/-! ### its call -/
/-- one parameter, no name of its own but that -/
structure LamS1 (sc scope : Scope) (x : Str) : Prop where
  kind : scope.kind = .function
  co : scope.isCoroutine = false
  gen : scope.isGenerator = false
  cell : ∀ y ∈ scope.names, y.2 ≠ .cell
  own : scope.names.lookup x = some .local
  free : ∀ y ∈ scope.names, y.2 = .free → sc.names.lookup y.1 = some .cell ∨ sc.names.lookup y.1 = some .free
theorem LamS1.has {X : Cx} {scope : Scope} {x : Str} (L : LamS1 X.env.scope scope x) (ok : X.Ok) : ∀ y ∈ scope.names, y.2 = .free → ∃ c, X.env.cells.lookup y.1 = some c := fun y hy e => ok.has _ (L.free y hy e)
section
variable {prog : Program} {w : World} {A : Around} {s : Shared} {f c' : Addr} {qual x : Str} {params : Arguments} {body : Expr} {scope sc : Scope} {cl : List (Str × Addr)} {pm ctv v : Value} {Q : Value → Shared → Prop}
end
/-! ### rows[at][p] -/
section
variable {prog : Program} {w : World} {A : Around} {E : Value → Shared → Prop} {s : Shared}
end
end SI

/-! the head by one kernel run: the facts of the written part, read off the heap behind the top -/
namespace Hd
open PySem PySem.Spec PyProof.Rows L2
/-- tables of code objects and the code objects of the names ex are left out -/
noncomputable def kpO (ex : List Str) (o : Obj) : Bool := match o.cls, o.data with
  | .none, .fields _ => false
  | _, .fields vs => (match (vs.toList[1]? : Option Value) with
    | some (.str q _) => (match ex with
      | [] => true
      | _ => !decide (q ∈ ex))
    | _ => true)
  | _, _ => true
/-- the objects at these addresses, without tables of code objects -/
noncomputable def frK (ex : List Str) (g : Addr → Option Obj) : List Addr → PySem.W.Frag
  | [] => []
  | a :: r => match g a with
    | some o => (match kpO ex o with
      | true => (a, o) :: frK ex g r
      | false => frK ex g r)
    | none => frK ex g r
theorem frK_at {ex : List Str} {g : Addr → Option Obj} {a : Addr} {o : Obj} : ∀ as : List Addr, (frK ex g as).lookup a = some o → g a = some o
  | [], e => nomatch (show (none : Option Obj) = some o from e)
  | b :: r, e => by
    unfold frK at e
    cases hb : g b with
    | none =>
      rw [hb] at e
      exact frK_at r e
    | some ob =>
      rw [hb] at e
      dsimp only at e
      cases hk : kpO ex ob with
      | false =>
        rw [hk] at e
        exact frK_at r e
      | true =>
        rw [hk] at e
        have e2 : (match a == b with | true => some ob | false => (frK ex g r).lookup a) = some o := e
        cases q : (a == b) with
        | true =>
          rw [q] at e2
          have eo : ob = o := Option.some.inj e2
          rw [beq_iff_eq.mp q, hb, eo]
        | false =>
          rw [q] at e2
          exact frK_at r e2
noncomputable def rgA (lo : Nat) : Nat → List Addr
  | 0 => []
  | n + 1 => lo :: rgA (lo + 1) n
noncomputable def asR (lo cnt : Nat) : List Addr := rgA lo cnt
/-! ### addresses by names -/
noncomputable def ga (K : PySem.W.Frag) (x : Str) : Addr := match PySem.W.nsIn K mainGlobals x with
  | some (some (.ref a)) => a
  | _ => 0
noncomputable def na (K : PySem.W.Frag) (d : Addr) (x : Str) : Addr := match PySem.W.nsIn K d x with
  | some (some (.ref a)) => a
  | _ => 0
noncomputable def tkA (K : PySem.W.Frag) (x : Str) : Tok := match PySem.W.nsIn K mainGlobals x with
  | some (some (.int _ t)) => t
  | some (some (.str _ t)) => t
  | _ => 0
noncomputable def ma (K : PySem.W.Frag) (C : Addr) (m : Str) : Addr := match PySem.W.findIn K (.ref C) m with
  | some (some (.ref a)) => a
  | _ => 0
noncomputable def fnA (K : PySem.W.Frag) (f : Addr) : Option FuncData := match K.lookup f with
  | some ⟨_, _, .func fd, _⟩ => some fd
  | _ => none
noncomputable def kwV (K : PySem.W.Frag) (f : Addr) : Value := match fnA K f with
  | some fd => fd.kwdefaults
  | none => .none
noncomputable def cdV (K : PySem.W.Frag) (f : Addr) : Value := match fnA K f with
  | some fd => fd.code
  | none => .none
noncomputable def rfV : Value → Addr
  | .ref a => a
  | _ => 0
/-! ### facts -/
/-! ### functions -/
noncomputable abbrev FnV : Type := Option (Str × Str × Arguments × FuncBody × Scope × Addr × List (Str × Addr) × Value × Addr)
noncomputable def fnOb (K : PySem.W.Frag) (f : Addr) : FnV := match fnA K f with
  | some fd => some (fd.name, fd.qualname, fd.params, fd.body, fd.scope, fd.globals, fd.closure, fd.defaults, fd.builtins)
  | none => none
structure FnD where
  at_ : PySem.W.Frag → Addr
  name : Str
  qual : Str
  params : Arguments
  body : List Stmt
  scope : Scope
noncomputable def FnD.val (d : FnD) : FnV := some (d.name, d.qual, d.params, .stmts d.body, d.scope, mainGlobals, [], .none, builtinsNs)
theorem fn_ok {K : PySem.W.Frag} {d : FnD} (e : fnOb K (d.at_ K) = d.val) :
    ∃ oc od osl doc pm an ct, K.lookup (d.at_ K) = some ⟨oc, od, .func (PySem.W.fnOf d.name d.qual d.params d.body d.scope .none (kwV K (d.at_ K)) doc pm an (cdV K (d.at_ K)) ct), osl⟩ := by
  obtain ⟨kV, ek⟩ : ∃ k, kwV K (d.at_ K) = k := ⟨_, rfl⟩
  obtain ⟨cV, ec⟩ : ∃ k, cdV K (d.at_ K) = k := ⟨_, rfl⟩
  rw [ek, ec]
  unfold fnOb at e
  unfold kwV at ek
  unfold cdV at ec
  unfold fnA at e ek ec
  generalize K.lookup (d.at_ K) = o at *
  cases o with
  | none => cases e
  | some o =>
    obtain ⟨oc, od, dt, osl⟩ := o
    cases dt with
    | func fd =>
      obtain ⟨n1, n2, n3, n4, n5, n6, n7, n8, n9, n10, n11, n12, n13, n14, n15⟩ := fd
      dsimp only at e ek ec
      simp only [FnD.val, Option.some.injEq, Prod.mk.injEq] at e
      obtain ⟨h1, h2, h3, h4, h5, h6, h7, h8, h9⟩ := e
      subst h1 h2 h3 h4 h5 h6 h7 h8 h9 ek ec
      exact ⟨oc, od, osl, n10, n11, n12, n14, rfl⟩
    | _ => cases e
/-! ### the Hook -/
structure Dat where
  fns : List FnD
  chk : PySem.W.Frag → List Bool
  tab : PySem.W.Frag → List Addr
  ex : List Str
noncomputable def isTab (o : Option Obj) : Bool := match o with
  | some ⟨.none, none, .fields vs, sl⟩ => vs.toList.isEmpty && sl.toList.isEmpty
  | _ => false
theorem isTab_ok {o : Option Obj} (h : isTab o = true) : o = some { cls := .none, data := .fields #[] } := by
  unfold isTab at h
  split at h
  · rename_i vs sl
    simp only [Bool.and_eq_true, List.isEmpty_iff] at h
    obtain ⟨h1, h2⟩ := h
    obtain ⟨v⟩ := vs
    obtain ⟨l⟩ := sl
    dsimp only at h1 h2
    subst h1 h2
    rfl
  · cases h
noncomputable abbrev Al : Type := Bool × List FnV
noncomputable def allB : List Bool → Bool
  | [] => true
  | b :: r => match b with
    | true => allB r
    | false => false
theorem allB_get : ∀ {l : List Bool} {i : Nat} {b : Bool}, allB l = true → l[i]? = some b → b = true
  | [], i, b, _, e => by simp at e
  | a :: r, 0, b, h, e => by
    cases a with
    | true => simpa using e.symm
    | false => cases h
  | a :: r, i + 1, b, h, e => by
    cases a with
    | true => exact allB_get (l := r) (i := i) h (by simpa using e)
    | false => cases h
noncomputable def tabB (g : Addr → Option Obj) : List Addr → Bool
  | [] => true
  | P :: r => isTab (g P) && tabB g r
theorem tabB_mem {g : Addr → Option Obj} : ∀ {l : List Addr}, tabB g l = true → ∀ P ∈ l, g P = some { cls := .none, data := .fields #[] }
  | [], _, P, h => by cases h
  | Q :: r, h, P, hP => by
    obtain ⟨h1, h2⟩ := Bool.and_eq_true_iff.mp (show (isTab (g Q) && tabB g r) = true from h)
    rcases List.mem_cons.mp hP with rfl | hP
    · exact isTab_ok h1
    · exact tabB_mem h2 P hP
noncomputable def obsK (D : Dat) (g : Addr → Option Obj) (K : PySem.W.Frag) : Al := (allB (D.chk K) && tabB g (D.tab K), D.fns.map fun d => fnOb K (d.at_ K))
noncomputable def obsG (lo cnt : Nat) (D : Dat) (g : Addr → Option Obj) : Al := obsK D g (frK D.ex g (asR lo cnt))
noncomputable def valD (D : Dat) : Al := (true, D.fns.map FnD.val)
/-- what the end leans on -/
structure Says (D : Dat) (K : PySem.W.Frag) (h : Heap) : Prop where
  inn : K.In h
  chk : allB (D.chk K) = true
  fns : D.fns.map (fun d => fnOb K (d.at_ K)) = D.fns.map FnD.val
  tab : ∀ P ∈ D.tab K, h.get? P = some { cls := .none, data := .fields #[] }
noncomputable def hook (lo cnt : Nat) (D : Dat) : PySem.W.Hook where
  α := Al
  obs := fun s => obsG lo cnt D s.heap.get?
  val := fun _ => valD D
  says := fun _ h => ∃ K : PySem.W.Frag, Says D K h
  of := fun w s e => by
    have e1 := Prod.mk.inj e
    have e2 := Bool.and_eq_true_iff.mp e1.1
    exact ⟨frK D.ex s.heap.get? (asR lo cnt), fun a o h => frK_at _ h, e2.1, e1.2, tabB_mem e2.2⟩
  keeps := fun _ _ _ ⟨K, hK⟩ k => ⟨K, PySem.W.Frag.In.keeps hK.inn k, hK.chk, hK.fns, fun P hP => k _ _ (hK.tab P hP)⟩
noncomputable def ob (lo cnt : Nat) (D : Dat) (s : PySem.W.SharedT) : Al := obsG lo cnt D (HandSHeadRun.getT s)
theorem ob_eq {lo cnt : Nat} {D : Dat} (s : PySem.W.SharedT) : ob lo cnt D s = (hook lo cnt D).obs s.abs := by
  have e : HandSHeadRun.getT s = s.abs.heap.get? := funext fun a => HandSHeadRun.getT_eq s a
  show obsG lo cnt D (HandSHeadRun.getT s) = obsG lo cnt D s.abs.heap.get?
  rw [e]
section
variable {D : Dat} {K : PySem.W.Frag} {h : Heap}
theorem Says.b (c : Says D K h) (i : Nat) {b : Bool} (e : (D.chk K)[i]? = some b := by rfl) : b = true := allB_get c.chk e
theorem Says.e {α : Type} [DecidableEq α] {x y : α} (c : Says D K h) (i : Nat) (e : (D.chk K)[i]? = some (decide (x = y)) := by rfl) : x = y := of_decide_eq_true (allB_get c.chk e)
theorem Says.f (c : Says D K h) (i : Nat) {d : FnD} (e : D.fns[i]? = some d := by rfl) :
    ∃ oc od osl doc pm an ct, K.lookup (d.at_ K) = some ⟨oc, od, .func (PySem.W.fnOf d.name d.qual d.params d.body d.scope .none (kwV K (d.at_ K)) doc pm an (cdV K (d.at_ K)) ct), osl⟩ := by
  have e2 : (D.fns.map fun d => fnOb K (d.at_ K))[i]? = (D.fns.map FnD.val)[i]? := by rw [c.fns]
  rw [List.getElem?_map, List.getElem?_map, e] at e2
  exact fn_ok (Option.some.inj e2)
end
end Hd
namespace Hd
open PySem
structure SaysL (l : List Bool) : Prop where
  all : allB l = true
theorem SaysL.b {l : List Bool} (c : SaysL l) (i : Nat) {b : Bool} (e : l[i]? = some b := by rfl) : b = true := allB_get c.all e
theorem SaysL.e {α : Type} [DecidableEq α] {x y : α} {l : List Bool} (c : SaysL l) (i : Nat) (e : l[i]? = some (decide (x = y)) := by rfl) : x = y := of_decide_eq_true (allB_get c.all e)
end Hd

/-! min, max, sorted of one list of ints; index; in -/
namespace SI
open PySem PySem.Spec PyProof.Rows L2
section
variable {X : Cx} {W : WX} {o e : Expr} {es : List Expr} {fo : F D} {fa : F (List D)} {pos : Pos}
/-- the least -/
noncomputable def lsI : List Int → Option Int
  | [] => none
  | n :: ns => some (ns.foldl min n)
noncomputable def gsI : List Int → Option Int
  | [] => none
  | n :: ns => some (ns.foldl max n)
/-! index -/
/-! sorted -/
noncomputable def srI (ns : List Int) : List Int := ns.mergeSort (fun a b => decide (a ≤ b))
end
end SI

/-! tracked dicts whose keys are ints or texts -/
namespace SI
open PySem PySem.Spec PyProof.Rows L2
noncomputable def keyD : D → Option Key
  | .int i => some (.inl i)
  | .str x => some (.inr x)
  | _ => none
noncomputable def lkD : List Key → List D → Key → Option D
  | k :: ks, v :: vs, k' => if k = k' then some v else lkD ks vs k'
  | _, _, _ => none
noncomputable def ptD : List Key → List D → Key → D → List Key × List D
  | k :: ks, v :: vs, k', d => if k = k' then (k :: ks, d :: vs) else ((k :: (ptD ks vs k' d).1), (v :: (ptD ks vs k' d).2))
  | _, _, k', d => ([k'], [d])
noncomputable def dicOf (s : S) (d : D) : Option (List Key × List D) := match d with
  | .dk ks vs => some (ks, vs)
  | .ref n => match s[n]? with
    | some (.dk ks vs) => some (ks, vs)
    | _ => none
  | _ => none
section
variable {K : PySem.W.Frag} {mu : Mu} {s : S} {H : Hp}
end
section
variable {X : Cx} {W : WX} {o i e e2 : Expr} {fo fi f g fx : F D} {pos : Pos} {k : Nat}
/-- {} that will be changed -/
noncomputable def fDictT : F D := fun _ s => .ok (.ref s.length) (s ++ [.dk [] []])
/-- {i: j} that will be changed -/
noncomputable def fDictI (i j : Int) : F D := fun _ s => .ok (.ref s.length) (s ++ [.dk [.inl i] [.int j]])
/-- d.get(k, x) -/
noncomputable def fGet (fo fk fx : F D) : F D := fun L s => (fo L s).bind fun d s1 => match dicOf s1 d with
  | some _ => (fk L s1).bind fun a s2 => (fx L s2).bind fun x s3 => match dicOf s3 d, keyD a with
    | some (ks, vs), some k => .ok ((lkD ks vs k).getD x) s3
    | _, _ => .bad
  | none => .bad
/-! list(range(..)) -/
noncomputable def rg2 (lo b : Int) : Bool := decide (0 ≤ lo ∧ lo ≤ 1000000 ∧ 0 ≤ b ∧ b ≤ 1000000)
noncomputable def fLrg1 (f : F D) : F D := fun L s => (f L s).bind fun d s1 => match d with
  | .int n => if rg2 0 n = true then .ok (.lst (rgItems 0 n.toNat)) s1 else .bad
  | _ => .bad
noncomputable def fLrg1T (f : F D) : F D := fun L s => (f L s).bind fun d s1 => match d with
  | .int n => if rg2 0 n = true then .ok (.ref s1.length) (s1 ++ [.lst (rgItems 0 n.toNat)]) else .bad
  | _ => .bad
noncomputable def fLrg2 (f g : F D) : F D := fun L s => (f L s).bind fun d s1 => (g L s1).bind fun e s2 => match d, e with
  | .int m, .int n => if rg2 m n = true then .ok (.lst (rgItems m (n - m).toNat)) s2 else .bad
  | _, _ => .bad
noncomputable def fLrg2T (f g : F D) : F D := fun L s => (f L s).bind fun d s1 => (g L s1).bind fun e s2 => match d, e with
  | .int m, .int n => if rg2 m n = true then .ok (.ref s2.length) (s2 ++ [.lst (rgItems m (n - m).toNat)]) else .bad
  | _, _ => .bad
section
variable {a b : Expr} {p p2 : Pos} {pos2 : Pos}
end
/-! pop() -/
noncomputable def fPop0 (fo : F D) : F D := fun L s => (fo L s).bind fun d s1 => match d with
  | .ref n => match s1[n]? with
    | some (.lst xs) => match xs[xs.length - 1]? with
      | some y => .ok y (s1.set n (.lst xs.dropLast))
      | none => .bad
    | _ => .bad
  | _ => .bad
theorem RelDs.dropLast {K : PySem.W.Frag} {mu : Mu} {H : Hp} {ds : List D} {vs : List V} (r : RelDs K mu H ds vs) : RelDs K mu H ds.dropLast vs.dropLast := by
  rw [List.dropLast_eq_take, List.dropLast_eq_take, r.length]
  exact r.take _
/-! in: a list or tuple of ints -/
end
end SI

/-! in: a list or tuple of texts -/
namespace SI
open PySem PySem.Spec PyProof.Rows L2
noncomputable def strsOf : List D → Option (List Str)
  | [] => some []
  | .str x :: r => (strsOf r).map (x :: ·)
  | _ => none
theorem strs_rel {K : PySem.W.Frag} {mu : Mu} {H : Hp} : ∀ {ds : List D} {vs : List V} {ns : List Str}, RelDs K mu H ds vs → strsOf ds = some ns → vs = ns.map V.str
  | [], vs, ns, r, e => by
    simp only [RelDs] at r
    cases e
    rw [r]
    rfl
  | d :: ds, vs, ns, r, e => by
    simp only [RelDs] at r
    obtain ⟨v, vr, rfl, h1, h2⟩ := r
    cases d <;> simp only [strsOf] at e <;> try cases e
    obtain ⟨ns', e', rfl⟩ := Option.map_eq_some_iff.mp e
    simp only [RelD] at h1
    rw [h1, strs_rel h2 e']
    rfl
section
variable {X : Cx} {W : WX} {i o : Expr} {f g : F D} {pos : Pos}
end
end SI

/-! tuples (int, int, tuple of ints) by their order -/
namespace SI
open PySem PySem.Spec PyProof.Rows L2
section
variable {A : Around} {s : Shared}
end
section
variable {X : Cx} {W : WX} {a b : Expr} {f g : F D} {pos : Pos} {k : Nat}
end
end SI

/-! min of a list of tuples (int, int, tuple of ints); list.remove of data -/
namespace SI
open PySem PySem.Spec PyProof.Rows L2
noncomputable abbrev K3 := Int × Int × List Int
section
variable {A : Around} {s : Shared}
/-- at a stands the tuple k -/
noncomputable def At3 (h : Heap) (v : Value) (k : K3) : Prop := ∃ (a t : Addr) (t1 t2 : Tok) (it : List Value), v = .ref a ∧ h.IsTuple a #[.int k.1 t1, .int k.2.1 t2, .ref t] ∧ h.IsTuple t it.toArray ∧ IntsAre it k.2.2
theorem At3.keep {h h' : Heap} {v : Value} {k : K3} (x : At3 h v k) (kp : ∀ b o, h.get? b = some o → h'.get? b = some o) : At3 h' v k := by
  obtain ⟨a, t, t1, t2, it, e, ⟨o, h1, r1⟩, ⟨o2, h2, r2⟩, i⟩ := x
  exact ⟨a, t, t1, t2, it, e, ⟨o, kp _ _ h1, r1⟩, ⟨o2, kp _ _ h2, r2⟩, i⟩
end
section
variable {X : Cx} {W : WX} {o e : Expr} {es : List Expr} {fo : F D} {fa : F (List D)} {pos : Pos} {k : Nat}
/-! list.remove -/
end
end SI

/-! in, not in, list.index for data (tuples in a list) -/
namespace SI
open PySem PySem.Spec PyProof.Rows L2
section
variable {X : Cx} {W : WX} {o i e : Expr} {fo f g : F D} {fa : F (List D)} {pos : Pos} {k : Nat}
end
end SI

/-! str of an int -/
namespace SI
open PySem PySem.Spec PyProof.Rows L2
section
variable {X : Cx} {W : WX} {e : Expr} {fa : F (List D)} {pos : Pos}
noncomputable def bStr (_ : S) : List D → Option D
  | [.int i] => if i.natAbs.log2 < 1920 then some (.str (toString i)) else none
  | _ => none
theorem cbl_str {K : PySem.W.Frag} : CbL K (fun xs H Q => ∃ i, xs = [.int i] ∧ i.natAbs.log2 < 1920 ∧ Q (.str (toString i)) H) bStr := by
  intro mu s H ds d vs Q m r e q
  rcases ds with _ | ⟨d1, _ | ⟨d2, ds⟩⟩
  · cases e
  · obtain ⟨v, rfl, r1⟩ := rel1 r
    cases d1 <;> simp only [bStr] at e <;> try cases e
    split at e
    · rename_i h
      cases e
      exact ⟨_, by rw [rel_int.mp r1], h, q mu H _ (Ge.refl _ _) m (rel_str.mpr rfl)⟩
    · cases e
  · cases d1 <;> cases e
theorem pE_str1 {p : Pos} (hm : X.mg "str" = none) (ha : PA X [e] (tA X.K W fa)) (hg : Gl X "str" := by rfl) (he : starEach [e] X.env = (false, eval e X.env) :: starEach [] X.env := by rfl) : PE X (.Call (.Name "str" p) [e] [] pos) (tE X.K W (fCB bStr fa)) :=
  pE_cty call_str_int cbl_str hm (by decide +kernel) ha hg (by decide) (by decide) he rfl
end
end SI

/-! texts: split, join, f-strings, int of a text, signs of a text, slices -/
namespace SI
open PySem PySem.Spec PyProof.Rows L2
section
variable {X : Cx} {W : WX} {o e : Expr} {fo fe : F D} {fa : F (List D)} {pos : Pos}
/-- a method of a text with one argument -/
noncomputable def fM1 (m : S → D → D → Option D) (fo fe : F D) : F D := fun L s => (fo L s).bind fun d s1 => match d with
  | .str _ => (fe L s1).bind fun e s2 => match m s2 d e with
    | some z => .ok z s2
    | none => .bad
  | _ => .bad
noncomputable def M1L (K : PySem.W.Frag) (r : V → List V → Hp → VK → Prop) (m : S → D → D → Option D) : Prop :=
  ∀ (mu : Mu) (s : S) (H : Hp) (d e : D) (v u : V) (Q : VK) (z : D), Sim K mu s H → RelD K mu H d v → RelD K mu H e u → m s d e = some z → (∀ mu' H' w, Ge mu H mu' H' → Sim K mu' s H' → RelD K mu' H' z w → Q w H') → r v [u] H Q
theorem pE_m1 {name : Str} {id : String} {r : V → List V → Hp → VK → Prop} {m : S → D → D → Option D} {apos : Pos} (slot : Slot "str" name id) (ty : typeOf (.builtin id) = pure (.type "method_descriptor")) (rule : MtR X id r) (hl : M1L X.K r m) (ho : PE X o (tE X.K W fo)) (he : PE X e (tE X.K W fe))
    (hs : starEach [e] X.env = [(false, eval e X.env)] := by rfl) (hbase : attributeBase o name X.env (eval o X.env) = eval o X.env := by rfl) (hline : (apos.endLine == pos.line) = true := by rfl) :
    PE X (.Call (.Attribute o name apos) [e] [] pos) (tE X.K W (fM1 m fo fe)) := by
  refine PE.weak (L2.pe_m1 slot ty rule ho he hs hbase hline) fun σ H Q ⟨mu, s, L, m0, l, q⟩ => ?_
  refine ⟨mu, s, L, m0, l, Post.step q fun d s1 mu1 H1 v1 g1 m1 r1 p1 => ?_⟩
  cases d <;> try exact p1.elim
  rename_i a
  have ev := rel_str.mp r1
  subst ev
  refine ⟨⟨a, rfl⟩, mu1, s1, L, m1, l.mono g1, Post.step p1 fun e s2 mu2 H2 u g2 m2 r2 p2 => ?_⟩
  cases em : m s2 (.str a) e with
  | none =>
    rw [em] at p2
    exact p2.elim
  | some z =>
    rw [em] at p2
    exact hl mu2 s2 H2 _ e _ u Q z m2 (rel_str.mpr rfl) r2 em fun mu' H' w g3 m3 r3 => p2 mu' H' w g3 m3 r3
/-- x.join(ys) -/
noncomputable def mJoin (s : S) : D → D → Option D
  | .str a, d => ((seqOf s d).bind strsOf).bind fun ys => if (ys.map (·.length)).sum + ys.length * a.length ≤ big then some (.str (Txt.join a ys)) else none
  | _, _ => none
theorem m1l_join {K : PySem.W.Frag} : M1L K (fun x xs H Q => ∃ a p, ∃ ys : List Str, x = .str a ∧ xs = [.ref p] ∧ (SqL K H p (ys.map V.str) ∨ SqT K H p (ys.map V.str)) ∧ (ys.map (·.length)).sum + ys.length * a.length ≤ 16777216 ∧ Q (.str (Txt.join a ys)) H) mJoin := by
  intro mu s H d e v u Q z m rd re em q
  unfold mJoin at em
  split at em
  · obtain ⟨ys, e1, e2⟩ := Option.bind_eq_some_iff.mp em
    obtain ⟨xs, e3, e4⟩ := Option.bind_eq_some_iff.mp e1
    split at e2
    · rename_i hc
      cases e2
      obtain ⟨p, vs, rfl, sq, rs⟩ := sq_seqOf m re e3
      have := strs_rel rs e4
      subst this
      exact ⟨_, p, ys, rel_str.mp rd, rfl, sq, Nat.le_trans hc (by decide), q mu H _ (Ge.refl _ _) m (rel_str.mpr rfl)⟩
    · cases e2
  · cases em
theorem pE_join {apos : Pos} (ho : PE X o (tE X.K W fo)) (he : PE X e (tE X.K W fe)) (hs : starEach [e] X.env = [(false, eval e X.env)] := by rfl) (hbase : attributeBase o "join" X.env (eval o X.env) = eval o X.env := by rfl) (hline : (apos.endLine == pos.line) = true := by rfl) :
    PE X (.Call (.Attribute o "join" apos) [e] [] pos) (tE X.K W (fM1 mJoin fo fe)) := pE_m1 PySem.F.slot_str_join PySem.F.type_str_join mt_join m1l_join ho he hs hbase hline
/-! f-strings -/
noncomputable def fFmt (f : F D) : F D := fun L s => (f L s).bind fun d s1 => match d with
  | .str y => if y.length ≤ big then .ok (.str y) s1 else .bad
  | .int i => if i.natAbs.log2 < 1920 then .ok (.str (toString i)) s1 else .bad
  | _ => .bad
theorem pE_fmt (he : PE X e (tE X.K W fe)) : PE X (.FormattedValue e (-1) none pos) (tE X.K W (fFmt fe)) := by
  refine PE.weak (pe_fmt he) fun σ H Q ⟨mu, s, L, m, l, q⟩ => ⟨mu, s, L, m, l, Post.step q fun d s1 mu1 H1 v1 g1 m1 r1 p1 => ?_⟩
  cases d <;> try exact p1.elim
  · rename_i i
    dsimp only at p1
    split at p1
    · rename_i h
      exact .inr ⟨i, rel_int.mp r1, h, p1 mu1 H1 _ (Ge.refl _ _) m1 (rel_str.mpr rfl)⟩
    · exact p1.elim
  · rename_i y
    dsimp only at p1
    split at p1
    · rename_i h
      exact .inl ⟨y, rel_str.mp r1, big_le h, p1 mu1 H1 _ (Ge.refl _ _) m1 (rel_str.mpr rfl)⟩
    · exact p1.elim
noncomputable def fJs : List (F D) → Str → F D
  | [], acc => fun L s => .ok (.str acc) s
  | f :: fs, acc => fun L s => (f L s).bind fun d s1 => match d with
    | .str y => if (acc ++ y).length ≤ big then fJs fs (acc ++ y) L s1 else .bad
    | _ => .bad
theorem tJs_of : ∀ (fs : List (F D)) (acc : Str) (σ : L2.St) (H : Hp) (Q : VK), tE X.K W (fJs fs acc) σ H Q → tJs (fs.map (tE X.K W)) acc σ H fun out H1 => Q (.str out) H1
  | [], acc, σ, H, Q, ⟨mu, s, L, m, l, q⟩ => q mu H _ (Ge.refl _ _) m (rel_str.mpr rfl)
  | f :: fs, acc, σ, H, Q, ⟨mu, s, L, m, l, q⟩ => ⟨mu, s, L, m, l, Post.step q fun d s1 mu1 H1 v1 g1 m1 r1 p1 => by
    cases d <;> try exact p1.elim
    rename_i y
    dsimp only at p1
    split at p1
    · rename_i h
      exact ⟨y, rel_str.mp r1, big_le h, tJs_of fs (acc ++ y) σ H1 Q ⟨mu1, s1, L, m1, l.mono g1, p1⟩⟩
    · exact p1.elim⟩
theorem pE_joined {v1 v2 : Expr} {rest : List Expr} {fs : List (F D)} (h : PJ X (v1 :: v2 :: rest) (fs.map (tE X.K W))) : PE X (.JoinedStr (v1 :: v2 :: rest) pos) (tE X.K W (fJs fs Str.empty)) :=
  PE.weak (pe_joined h) fun σ H Q q => tJs_of fs _ σ H Q q
theorem pJ_nil : PJ X [] (List.map (tE X.K W) []) := .nil
theorem pJ_cons {es : List Expr} {fs : List (F D)} (he : PE X e (tE X.K W fe)) (h : PJ X es (fs.map (tE X.K W))) : PJ X (e :: es) ((fe :: fs).map (tE X.K W)) := .cons he h
/-! int of a text -/
/-! one sign in a text -/
section
variable {i : Expr} {f g : F D}
end
/-! the signs of a text, one by one -/
/-! slices of a text -/
end
end SI

/-! *a, b = a list; slices and counts of texts; text += text; repr of an int -/
namespace L2
open PySem PySem.Spec PySem.Calls PyProof.Rows PySem.W
section
variable {X : Cx} {pos : Pos}
end
end L2
namespace SI
open PySem PySem.Spec PyProof.Rows L2
section
variable {X : Cx} {W : WX} {o e : Expr} {fo fe : F D} {fa : F (List D)} {pos : Pos}
/-! slices of a text -/
/-! count of a text -/
/-! text += text -/
/-! repr of an int -/
/-! None in a list or tuple of ints and None -/
section
variable {i : Expr} {f g : F D}
end
/-! text times number: '0' * n -/
end
end SI

namespace Lw
open PySem PySem.Spec PyProof.Rows L2 SI
noncomputable def topS (i : Nat) : Stmt := PySem.Challenge.pw_tellontree_k67_sheets_written.main.body.getD i (.Pass ⟨0, 0, 0, 0⟩)
noncomputable abbrev s_InvalidMachine___init__ : Stmt := (inClass (topS 2) 0)
noncomputable abbrev s_InvalidPlan___init__ : Stmt := (inClass (topS 4) 0)
noncomputable abbrev s_InvalidRows___init__ : Stmt := (inClass (topS 5) 0)
noncomputable abbrev s_is_integer : Stmt := (topS 7)
noncomputable abbrev s_between : Stmt := (topS 8)
noncomputable abbrev s_checked_count : Stmt := (topS 9)
noncomputable abbrev s_form_fault_rows : Stmt := (topS 12)
noncomputable abbrev s_checked_sources : Stmt := (topS 16)
noncomputable abbrev s_number_fault : Stmt := (topS 17)
noncomputable abbrev s_Machine___init__ : Stmt := (inClass (topS 20) 0)
noncomputable abbrev s_plan_fault_texts : Stmt := (topS 25)
noncomputable abbrev s_letters_plan_fault : Stmt := (topS 26)
noncomputable abbrev s_write_sheet : Stmt := (topS 27)
noncomputable abbrev s__law_source : Stmt := (topS 29)
noncomputable abbrev s__law_draw : Stmt := (topS 30)
noncomputable abbrev s__law_wide : Stmt := (topS 31)
noncomputable abbrev s__law_numbers : Stmt := (topS 32)
noncomputable abbrev s__law_integer : Stmt := (topS 33)
noncomputable abbrev s__law_same : Stmt := (topS 34)
noncomputable abbrev s__law_form : Stmt := (topS 35)
noncomputable abbrev s__law_odd : Stmt := (topS 36)
noncomputable abbrev s__law_changed : Stmt := (topS 37)
noncomputable abbrev s__law_spoilt : Stmt := (topS 38)
noncomputable abbrev s__law_rows : Stmt := (topS 39)
noncomputable abbrev s__law_sheet : Stmt := (topS 40)
noncomputable abbrev s__law_case : Stmt := (topS 41)
noncomputable abbrev s__law_answer : Stmt := (topS 42)
noncomputable abbrev s__law_hands_due : Stmt := (topS 43)
noncomputable abbrev s__law_rows_due : Stmt := (topS 44)
noncomputable abbrev s__law_refused : Stmt := (topS 45)
noncomputable abbrev s_law : Stmt := (topS 46)
noncomputable def zCInvalidCount (K : PySem.W.Frag) : Addr := Hd.ga K "InvalidCount"
noncomputable def zCInvalidMachine (K : PySem.W.Frag) : Addr := Hd.ga K "InvalidMachine"
noncomputable def zCInvalidPlan (K : PySem.W.Frag) : Addr := Hd.ga K "InvalidPlan"
noncomputable def zCInvalidRows (K : PySem.W.Frag) : Addr := Hd.ga K "InvalidRows"
noncomputable def zCMachine (K : PySem.W.Frag) : Addr := Hd.ga K "Machine"
noncomputable def zCTellError (K : PySem.W.Frag) : Addr := Hd.ga K "TellError"
noncomputable def zf0 (K : PySem.W.Frag) : Addr := Hd.ma K (zCInvalidMachine K) "__init__"
noncomputable def zf1 (K : PySem.W.Frag) : Addr := Hd.ma K (zCInvalidPlan K) "__init__"
noncomputable def zf10 (K : PySem.W.Frag) : Addr := Hd.ga K "plan_fault"
noncomputable def zf11 (K : PySem.W.Frag) : Addr := Hd.ga K "letters_plan_fault"
noncomputable def zf12 (K : PySem.W.Frag) : Addr := Hd.ga K "write_sheet"
noncomputable def zf13 (K : PySem.W.Frag) : Addr := Hd.ga K "_law_source"
noncomputable def zf14 (K : PySem.W.Frag) : Addr := Hd.ga K "_law_draw"
noncomputable def zf15 (K : PySem.W.Frag) : Addr := Hd.ga K "_law_wide"
noncomputable def zf16 (K : PySem.W.Frag) : Addr := Hd.ga K "_law_numbers"
noncomputable def zf17 (K : PySem.W.Frag) : Addr := Hd.ga K "_law_integer"
noncomputable def zf18 (K : PySem.W.Frag) : Addr := Hd.ga K "_law_same"
noncomputable def zf19 (K : PySem.W.Frag) : Addr := Hd.ga K "_law_form"
noncomputable def zf2 (K : PySem.W.Frag) : Addr := Hd.ma K (zCInvalidRows K) "__init__"
noncomputable def zf20 (K : PySem.W.Frag) : Addr := Hd.ga K "_law_odd"
noncomputable def zf21 (K : PySem.W.Frag) : Addr := Hd.ga K "_law_changed"
noncomputable def zf22 (K : PySem.W.Frag) : Addr := Hd.ga K "_law_spoilt"
noncomputable def zf23 (K : PySem.W.Frag) : Addr := Hd.ga K "_law_rows"
noncomputable def zf24 (K : PySem.W.Frag) : Addr := Hd.ga K "_law_sheet"
noncomputable def zf25 (K : PySem.W.Frag) : Addr := Hd.ga K "_law_case"
noncomputable def zf26 (K : PySem.W.Frag) : Addr := Hd.ga K "_law_answer"
noncomputable def zf27 (K : PySem.W.Frag) : Addr := Hd.ga K "_law_hands_due"
noncomputable def zf28 (K : PySem.W.Frag) : Addr := Hd.ga K "_law_rows_due"
noncomputable def zf29 (K : PySem.W.Frag) : Addr := Hd.ga K "_law_refused"
noncomputable def zf3 (K : PySem.W.Frag) : Addr := Hd.ga K "is_integer"
noncomputable def zf30 (K : PySem.W.Frag) : Addr := Hd.ga K "law"
noncomputable def zf4 (K : PySem.W.Frag) : Addr := Hd.ga K "between"
noncomputable def zf5 (K : PySem.W.Frag) : Addr := Hd.ga K "checked_count"
noncomputable def zf6 (K : PySem.W.Frag) : Addr := Hd.ga K "form_fault"
noncomputable def zf7 (K : PySem.W.Frag) : Addr := Hd.ga K "checked_sources"
noncomputable def zf8 (K : PySem.W.Frag) : Addr := Hd.ga K "number_fault"
noncomputable def zf9 (K : PySem.W.Frag) : Addr := Hd.ma K (zCMachine K) "__init__"
noncomputable def zkd12 (K : PySem.W.Frag) : Addr := Hd.rfV (Hd.kwV K (zf12 K))
noncomputable def zcd0 (K : PySem.W.Frag) : Value := Hd.cdV K (zf0 K)
noncomputable def zcd1 (K : PySem.W.Frag) : Value := Hd.cdV K (zf1 K)
noncomputable def zcd10 (K : PySem.W.Frag) : Value := Hd.cdV K (zf10 K)
noncomputable def zcd11 (K : PySem.W.Frag) : Value := Hd.cdV K (zf11 K)
noncomputable def zcd12 (K : PySem.W.Frag) : Value := Hd.cdV K (zf12 K)
noncomputable def zcd13 (K : PySem.W.Frag) : Value := Hd.cdV K (zf13 K)
noncomputable def zcd14 (K : PySem.W.Frag) : Value := Hd.cdV K (zf14 K)
noncomputable def zcd15 (K : PySem.W.Frag) : Value := Hd.cdV K (zf15 K)
noncomputable def zcd16 (K : PySem.W.Frag) : Value := Hd.cdV K (zf16 K)
noncomputable def zcd17 (K : PySem.W.Frag) : Value := Hd.cdV K (zf17 K)
noncomputable def zcd18 (K : PySem.W.Frag) : Value := Hd.cdV K (zf18 K)
noncomputable def zcd19 (K : PySem.W.Frag) : Value := Hd.cdV K (zf19 K)
noncomputable def zcd2 (K : PySem.W.Frag) : Value := Hd.cdV K (zf2 K)
noncomputable def zcd20 (K : PySem.W.Frag) : Value := Hd.cdV K (zf20 K)
noncomputable def zcd21 (K : PySem.W.Frag) : Value := Hd.cdV K (zf21 K)
noncomputable def zcd22 (K : PySem.W.Frag) : Value := Hd.cdV K (zf22 K)
noncomputable def zcd23 (K : PySem.W.Frag) : Value := Hd.cdV K (zf23 K)
noncomputable def zcd24 (K : PySem.W.Frag) : Value := Hd.cdV K (zf24 K)
noncomputable def zcd25 (K : PySem.W.Frag) : Value := Hd.cdV K (zf25 K)
noncomputable def zcd26 (K : PySem.W.Frag) : Value := Hd.cdV K (zf26 K)
noncomputable def zcd27 (K : PySem.W.Frag) : Value := Hd.cdV K (zf27 K)
noncomputable def zcd28 (K : PySem.W.Frag) : Value := Hd.cdV K (zf28 K)
noncomputable def zcd29 (K : PySem.W.Frag) : Value := Hd.cdV K (zf29 K)
noncomputable def zcd3 (K : PySem.W.Frag) : Value := Hd.cdV K (zf3 K)
noncomputable def zcd30 (K : PySem.W.Frag) : Value := Hd.cdV K (zf30 K)
noncomputable def zcd4 (K : PySem.W.Frag) : Value := Hd.cdV K (zf4 K)
noncomputable def zcd5 (K : PySem.W.Frag) : Value := Hd.cdV K (zf5 K)
noncomputable def zcd6 (K : PySem.W.Frag) : Value := Hd.cdV K (zf6 K)
noncomputable def zcd7 (K : PySem.W.Frag) : Value := Hd.cdV K (zf7 K)
noncomputable def zcd8 (K : PySem.W.Frag) : Value := Hd.cdV K (zf8 K)
noncomputable def zcd9 (K : PySem.W.Frag) : Value := Hd.cdV K (zf9 K)
noncomputable def ztk_GREATEST (K : PySem.W.Frag) : Tok := Hd.tkA K "GREATEST"
noncomputable def ztk_LAST_START (K : PySem.W.Frag) : Tok := Hd.tkA K "LAST_START"
noncomputable def ztk_MOST_HANDS_letters (K : PySem.W.Frag) : Tok := Hd.tkA K "MOST_HANDS_letters"
noncomputable def ztk_MOST_HANDS_texts (K : PySem.W.Frag) : Tok := Hd.tkA K "MOST_HANDS_texts"
noncomputable def ztk_MOST_LETTERS (K : PySem.W.Frag) : Tok := Hd.tkA K "MOST_LETTERS"
noncomputable def ztk_MOST_SENDS (K : PySem.W.Frag) : Tok := Hd.tkA K "MOST_SENDS"
noncomputable def ztk_MOST_TELLS (K : PySem.W.Frag) : Tok := Hd.tkA K "MOST_TELLS"
noncomputable abbrev R0 : PySem.W.OpenRow := PySem.W.OpenLaw.row PySem.Challenge.rw_tellontree_k67_sheets_written
noncomputable def dk0 : Hd.FnD := ⟨zf0, "__init__", "InvalidMachine.__init__", defArgs s_InvalidMachine___init__, defBody s_InvalidMachine___init__, defScope s_InvalidMachine___init__⟩
noncomputable def dk1 : Hd.FnD := ⟨zf1, "__init__", "InvalidPlan.__init__", defArgs s_InvalidPlan___init__, defBody s_InvalidPlan___init__, defScope s_InvalidPlan___init__⟩
noncomputable def dk2 : Hd.FnD := ⟨zf2, "__init__", "InvalidRows.__init__", defArgs s_InvalidRows___init__, defBody s_InvalidRows___init__, defScope s_InvalidRows___init__⟩
noncomputable def dk3 : Hd.FnD := ⟨zf3, "is_integer", "is_integer", defArgs s_is_integer, defBody s_is_integer, defScope s_is_integer⟩
noncomputable def dk4 : Hd.FnD := ⟨zf4, "between", "between", defArgs s_between, defBody s_between, defScope s_between⟩
noncomputable def dk5 : Hd.FnD := ⟨zf5, "checked_count", "checked_count", defArgs s_checked_count, defBody s_checked_count, defScope s_checked_count⟩
noncomputable def dk6 : Hd.FnD := ⟨zf6, "form_fault", "form_fault", defArgs s_form_fault_rows, defBody s_form_fault_rows, defScope s_form_fault_rows⟩
noncomputable def dk7 : Hd.FnD := ⟨zf7, "checked_sources", "checked_sources", defArgs s_checked_sources, defBody s_checked_sources, defScope s_checked_sources⟩
noncomputable def dk8 : Hd.FnD := ⟨zf8, "number_fault", "number_fault", defArgs s_number_fault, defBody s_number_fault, defScope s_number_fault⟩
noncomputable def dk9 : Hd.FnD := ⟨zf9, "__init__", "Machine.__init__", defArgs s_Machine___init__, defBody s_Machine___init__, defScope s_Machine___init__⟩
noncomputable def dk10 : Hd.FnD := ⟨zf10, "plan_fault", "plan_fault", defArgs s_plan_fault_texts, defBody s_plan_fault_texts, defScope s_plan_fault_texts⟩
noncomputable def dk11 : Hd.FnD := ⟨zf11, "letters_plan_fault", "letters_plan_fault", defArgs s_letters_plan_fault, defBody s_letters_plan_fault, defScope s_letters_plan_fault⟩
noncomputable def dk12 : Hd.FnD := ⟨zf12, "write_sheet", "write_sheet", defArgs s_write_sheet, defBody s_write_sheet, defScope s_write_sheet⟩
noncomputable def dk13 : Hd.FnD := ⟨zf13, "_law_source", "_law_source", defArgs s__law_source, defBody s__law_source, defScope s__law_source⟩
noncomputable def dk14 : Hd.FnD := ⟨zf14, "_law_draw", "_law_draw", defArgs s__law_draw, defBody s__law_draw, defScope s__law_draw⟩
noncomputable def dk15 : Hd.FnD := ⟨zf15, "_law_wide", "_law_wide", defArgs s__law_wide, defBody s__law_wide, defScope s__law_wide⟩
noncomputable def dk16 : Hd.FnD := ⟨zf16, "_law_numbers", "_law_numbers", defArgs s__law_numbers, defBody s__law_numbers, defScope s__law_numbers⟩
noncomputable def dk17 : Hd.FnD := ⟨zf17, "_law_integer", "_law_integer", defArgs s__law_integer, defBody s__law_integer, defScope s__law_integer⟩
noncomputable def dk18 : Hd.FnD := ⟨zf18, "_law_same", "_law_same", defArgs s__law_same, defBody s__law_same, defScope s__law_same⟩
noncomputable def dk19 : Hd.FnD := ⟨zf19, "_law_form", "_law_form", defArgs s__law_form, defBody s__law_form, defScope s__law_form⟩
noncomputable def dk20 : Hd.FnD := ⟨zf20, "_law_odd", "_law_odd", defArgs s__law_odd, defBody s__law_odd, defScope s__law_odd⟩
noncomputable def dk21 : Hd.FnD := ⟨zf21, "_law_changed", "_law_changed", defArgs s__law_changed, defBody s__law_changed, defScope s__law_changed⟩
noncomputable def dk22 : Hd.FnD := ⟨zf22, "_law_spoilt", "_law_spoilt", defArgs s__law_spoilt, defBody s__law_spoilt, defScope s__law_spoilt⟩
noncomputable def dk23 : Hd.FnD := ⟨zf23, "_law_rows", "_law_rows", defArgs s__law_rows, defBody s__law_rows, defScope s__law_rows⟩
noncomputable def dk24 : Hd.FnD := ⟨zf24, "_law_sheet", "_law_sheet", defArgs s__law_sheet, defBody s__law_sheet, defScope s__law_sheet⟩
noncomputable def dk25 : Hd.FnD := ⟨zf25, "_law_case", "_law_case", defArgs s__law_case, defBody s__law_case, defScope s__law_case⟩
noncomputable def dk26 : Hd.FnD := ⟨zf26, "_law_answer", "_law_answer", defArgs s__law_answer, defBody s__law_answer, defScope s__law_answer⟩
noncomputable def dk27 : Hd.FnD := ⟨zf27, "_law_hands_due", "_law_hands_due", defArgs s__law_hands_due, defBody s__law_hands_due, defScope s__law_hands_due⟩
noncomputable def dk28 : Hd.FnD := ⟨zf28, "_law_rows_due", "_law_rows_due", defArgs s__law_rows_due, defBody s__law_rows_due, defScope s__law_rows_due⟩
noncomputable def dk29 : Hd.FnD := ⟨zf29, "_law_refused", "_law_refused", defArgs s__law_refused, defBody s__law_refused, defScope s__law_refused⟩
noncomputable def dk30 : Hd.FnD := ⟨zf30, "law", "law", defArgs s_law, defBody s_law, defScope s_law⟩
noncomputable def chk0 (K : PySem.W.Frag) : List Bool := [decide (PySem.W.nsIn K mainGlobals "Machine" = some (some (.ref (zCMachine K)))),
  decide (PySem.W.nsIn K mainGlobals "InvalidCount" = some (some (.ref (zCInvalidCount K)))),
  decide (PySem.W.nsIn K mainGlobals "InvalidMachine" = some (some (.ref (zCInvalidMachine K)))),
  decide (PySem.W.nsIn K mainGlobals "InvalidPlan" = some (some (.ref (zCInvalidPlan K)))),
  decide (PySem.W.nsIn K mainGlobals "InvalidRows" = some (some (.ref (zCInvalidRows K)))),
  decide (PySem.W.nsIn K mainGlobals "TellError" = some (some (.ref (zCTellError K)))),
  decide (PySem.W.findIn K (.ref (zCInvalidMachine K)) "__init__" = some (some (.ref (zf0 K)))),
  PySem.W.codeIn K (zcd0 K) "InvalidMachine.__init__",
  PySem.W.keepIn K (.ref (zf0 K)),
  decide (PySem.W.findIn K (.ref (zCInvalidPlan K)) "__init__" = some (some (.ref (zf1 K)))),
  PySem.W.codeIn K (zcd1 K) "InvalidPlan.__init__",
  PySem.W.keepIn K (.ref (zf1 K)),
  decide (PySem.W.findIn K (.ref (zCInvalidRows K)) "__init__" = some (some (.ref (zf2 K)))),
  PySem.W.codeIn K (zcd2 K) "InvalidRows.__init__",
  PySem.W.keepIn K (.ref (zf2 K)),
  decide (PySem.W.nsIn K mainGlobals "is_integer" = some (some (.ref (zf3 K)))),
  PySem.W.codeIn K (zcd3 K) "is_integer",
  PySem.W.keepIn K (.ref (zf3 K)),
  decide (PySem.W.nsIn K mainGlobals "between" = some (some (.ref (zf4 K)))),
  PySem.W.codeIn K (zcd4 K) "between",
  PySem.W.keepIn K (.ref (zf4 K)),
  decide (PySem.W.nsIn K mainGlobals "checked_count" = some (some (.ref (zf5 K)))),
  PySem.W.codeIn K (zcd5 K) "checked_count",
  PySem.W.keepIn K (.ref (zf5 K)),
  decide (PySem.W.nsIn K mainGlobals "form_fault" = some (some (.ref (zf6 K))))]
noncomputable def chk1 (K : PySem.W.Frag) : List Bool := [PySem.W.codeIn K (zcd6 K) "form_fault",
  PySem.W.keepIn K (.ref (zf6 K)),
  decide (PySem.W.nsIn K mainGlobals "checked_sources" = some (some (.ref (zf7 K)))),
  PySem.W.codeIn K (zcd7 K) "checked_sources",
  PySem.W.keepIn K (.ref (zf7 K)),
  decide (PySem.W.nsIn K mainGlobals "number_fault" = some (some (.ref (zf8 K)))),
  PySem.W.codeIn K (zcd8 K) "number_fault",
  PySem.W.keepIn K (.ref (zf8 K)),
  decide (PySem.W.findIn K (.ref (zCMachine K)) "__init__" = some (some (.ref (zf9 K)))),
  PySem.W.codeIn K (zcd9 K) "Machine.__init__",
  PySem.W.keepIn K (.ref (zf9 K)),
  decide (PySem.W.nsIn K mainGlobals "plan_fault" = some (some (.ref (zf10 K)))),
  PySem.W.codeIn K (zcd10 K) "plan_fault",
  PySem.W.keepIn K (.ref (zf10 K)),
  decide (PySem.W.nsIn K mainGlobals "letters_plan_fault" = some (some (.ref (zf11 K)))),
  PySem.W.codeIn K (zcd11 K) "letters_plan_fault",
  PySem.W.keepIn K (.ref (zf11 K)),
  decide (PySem.W.nsIn K mainGlobals "write_sheet" = some (some (.ref (zf12 K)))),
  decide (Hd.kwV K (zf12 K) = .ref (zkd12 K)),
  decide (PySem.W.nsIn K (zkd12 K) "sources" = some (some .none)),
  PySem.W.codeIn K (zcd12 K) "write_sheet",
  PySem.W.keepIn K (.ref (zf12 K)),
  decide (PySem.W.nsIn K mainGlobals "_law_source" = some (some (.ref (zf13 K)))),
  PySem.W.codeIn K (zcd13 K) "_law_source",
  PySem.W.keepIn K (.ref (zf13 K))]
noncomputable def chk2 (K : PySem.W.Frag) : List Bool := [decide (PySem.W.nsIn K mainGlobals "_law_draw" = some (some (.ref (zf14 K)))),
  PySem.W.codeIn K (zcd14 K) "_law_draw",
  PySem.W.keepIn K (.ref (zf14 K)),
  decide (PySem.W.nsIn K mainGlobals "_law_wide" = some (some (.ref (zf15 K)))),
  PySem.W.codeIn K (zcd15 K) "_law_wide",
  PySem.W.keepIn K (.ref (zf15 K)),
  decide (PySem.W.nsIn K mainGlobals "_law_numbers" = some (some (.ref (zf16 K)))),
  PySem.W.codeIn K (zcd16 K) "_law_numbers",
  PySem.W.keepIn K (.ref (zf16 K)),
  decide (PySem.W.nsIn K mainGlobals "_law_integer" = some (some (.ref (zf17 K)))),
  PySem.W.codeIn K (zcd17 K) "_law_integer",
  PySem.W.keepIn K (.ref (zf17 K)),
  decide (PySem.W.nsIn K mainGlobals "_law_same" = some (some (.ref (zf18 K)))),
  PySem.W.codeIn K (zcd18 K) "_law_same",
  PySem.W.keepIn K (.ref (zf18 K)),
  decide (PySem.W.nsIn K mainGlobals "_law_form" = some (some (.ref (zf19 K)))),
  PySem.W.codeIn K (zcd19 K) "_law_form",
  PySem.W.keepIn K (.ref (zf19 K)),
  decide (PySem.W.nsIn K mainGlobals "_law_odd" = some (some (.ref (zf20 K)))),
  PySem.W.codeIn K (zcd20 K) "_law_odd",
  PySem.W.keepIn K (.ref (zf20 K)),
  decide (PySem.W.nsIn K mainGlobals "_law_changed" = some (some (.ref (zf21 K)))),
  PySem.W.codeIn K (zcd21 K) "_law_changed",
  PySem.W.keepIn K (.ref (zf21 K)),
  decide (PySem.W.nsIn K mainGlobals "_law_spoilt" = some (some (.ref (zf22 K))))]
noncomputable def chk3 (K : PySem.W.Frag) : List Bool := [PySem.W.codeIn K (zcd22 K) "_law_spoilt",
  PySem.W.keepIn K (.ref (zf22 K)),
  decide (PySem.W.nsIn K mainGlobals "_law_rows" = some (some (.ref (zf23 K)))),
  PySem.W.codeIn K (zcd23 K) "_law_rows",
  PySem.W.keepIn K (.ref (zf23 K)),
  decide (PySem.W.nsIn K mainGlobals "_law_sheet" = some (some (.ref (zf24 K)))),
  PySem.W.codeIn K (zcd24 K) "_law_sheet",
  PySem.W.keepIn K (.ref (zf24 K)),
  decide (PySem.W.nsIn K mainGlobals "_law_case" = some (some (.ref (zf25 K)))),
  PySem.W.codeIn K (zcd25 K) "_law_case",
  PySem.W.keepIn K (.ref (zf25 K)),
  decide (PySem.W.nsIn K mainGlobals "_law_answer" = some (some (.ref (zf26 K)))),
  PySem.W.codeIn K (zcd26 K) "_law_answer",
  PySem.W.keepIn K (.ref (zf26 K)),
  decide (PySem.W.nsIn K mainGlobals "_law_hands_due" = some (some (.ref (zf27 K)))),
  PySem.W.codeIn K (zcd27 K) "_law_hands_due",
  PySem.W.keepIn K (.ref (zf27 K)),
  decide (PySem.W.nsIn K mainGlobals "_law_rows_due" = some (some (.ref (zf28 K)))),
  PySem.W.codeIn K (zcd28 K) "_law_rows_due",
  PySem.W.keepIn K (.ref (zf28 K)),
  decide (PySem.W.nsIn K mainGlobals "_law_refused" = some (some (.ref (zf29 K)))),
  PySem.W.codeIn K (zcd29 K) "_law_refused",
  PySem.W.keepIn K (.ref (zf29 K)),
  decide (PySem.W.nsIn K mainGlobals "law" = some (some (.ref (zf30 K)))),
  PySem.W.codeIn K (zcd30 K) "law"]
noncomputable def chk4 (K : PySem.W.Frag) : List Bool := [PySem.W.keepIn K (.ref (zf30 K)),
  decide (PySem.W.nsIn K mainGlobals "all" = some none),
  decide (PySem.W.nsIn K mainGlobals "bool" = some none),
  decide (PySem.W.nsIn K mainGlobals "enumerate" = some none),
  decide (PySem.W.nsIn K mainGlobals "int" = some none),
  decide (PySem.W.nsIn K mainGlobals "isinstance" = some none),
  decide (PySem.W.nsIn K mainGlobals "len" = some none),
  decide (PySem.W.nsIn K mainGlobals "list" = some none),
  decide (PySem.W.nsIn K mainGlobals "max" = some none),
  decide (PySem.W.nsIn K mainGlobals "range" = some none),
  decide (PySem.W.nsIn K mainGlobals "str" = some none),
  decide (PySem.W.nsIn K mainGlobals "tuple" = some none),
  decide (PySem.W.nsIn K mainGlobals "GREATEST" = some (some (.int 1000000000 (ztk_GREATEST K)))),
  decide (PySem.W.nsIn K mainGlobals "LAST_START" = some (some (.int 1000000000000000 (ztk_LAST_START K)))),
  decide (PySem.W.nsIn K mainGlobals "MOST_HANDS_letters" = some (some (.int 40 (ztk_MOST_HANDS_letters K)))),
  decide (PySem.W.nsIn K mainGlobals "MOST_HANDS_texts" = some (some (.int 100 (ztk_MOST_HANDS_texts K)))),
  decide (PySem.W.nsIn K mainGlobals "MOST_LETTERS" = some (some (.int 40 (ztk_MOST_LETTERS K)))),
  decide (PySem.W.nsIn K mainGlobals "MOST_SENDS" = some (some (.int 2000 (ztk_MOST_SENDS K)))),
  decide (PySem.W.nsIn K mainGlobals "MOST_TELLS" = some (some (.int 400 (ztk_MOST_TELLS K)))),
  PySem.W.makesIn K (zCMachine K),
  PySem.W.isFn K (.ref (zf9 K)),
  PySem.W.keepIn K (.ref (zCMachine K)),
  PySem.W.plainGet K (zCMachine K) Str.empty,
  PySem.W.hasDictIn K (zCMachine K),
  PySem.W.plainOver K (zCMachine K)]
noncomputable def chk5 (K : PySem.W.Frag) : List Bool := [decide (PySem.W.findIn K (.ref (zCMachine K)) "__setattr__" = some (some (.builtin "object.__setattr__"))),
  decide (PySem.W.findIn K (.ref (zCMachine K)) "__class__" = some (some (.builtin "object.__class__"))),
  decide (PySem.W.specialIn K (.builtin "object.__class__") "__get__" = some (some (.builtin "getset_descriptor.__get__"))),
  decide (PySem.W.takesIn K (.builtin "object.__class__") = some true),
  decide (PySem.W.mroIn K (zCMachine K) (.type "object") = some true),
  nyB K (zCMachine K),
  ynB K (zCMachine K),
  nfB K (zCMachine K),
  decide (PySem.W.findIn K (.ref (zCMachine K)) "g" = some none),
  decide (PySem.W.findIn K (.ref (zCMachine K)) "gap" = some none),
  decide (PySem.W.findIn K (.ref (zCMachine K)) "l" = some none),
  decide (PySem.W.findIn K (.ref (zCMachine K)) "letter" = some none),
  decide (PySem.W.findIn K (.ref (zCMachine K)) "o" = some none),
  PySem.W.hasDictIn K (zCInvalidCount K),
  decide (PySem.W.subIn K (.ref (zCInvalidCount K)) (.type "BaseException") = some true),
  decide (PySem.W.typeIn K (.ref (zCInvalidCount K)) = some (.type "type")),
  PySem.W.keepIn K (.ref (zCInvalidCount K)),
  PySem.W.excIn K (zCInvalidCount K) exTail "Exception.__new__",
  PySem.W.hasDictIn K (zCInvalidMachine K),
  decide (PySem.W.subIn K (.ref (zCInvalidMachine K)) (.type "BaseException") = some true),
  decide (PySem.W.typeIn K (.ref (zCInvalidMachine K)) = some (.type "type")),
  PySem.W.keepIn K (.ref (zCInvalidMachine K)),
  PySem.W.excInitIn K (zCInvalidMachine K) exTail "Exception.__new__",
  PySem.W.excOver K (zCInvalidMachine K) exTail,
  decide (PySem.W.findIn K (.ref (zCInvalidMachine K)) "__setattr__" = some (some (.builtin "object.__setattr__")))]
noncomputable def chk6 (K : PySem.W.Frag) : List Bool := [decide (PySem.W.typeIn K (.ref (zf0 K)) = some (.type "function")),
  decide (PySem.W.takerIn K (zCInvalidMachine K) "part" = some none),
  PySem.W.hasDictIn K (zCInvalidPlan K),
  decide (PySem.W.subIn K (.ref (zCInvalidPlan K)) (.type "BaseException") = some true),
  decide (PySem.W.typeIn K (.ref (zCInvalidPlan K)) = some (.type "type")),
  PySem.W.keepIn K (.ref (zCInvalidPlan K)),
  PySem.W.excInitIn K (zCInvalidPlan K) exTail "Exception.__new__",
  PySem.W.excOver K (zCInvalidPlan K) exTail,
  decide (PySem.W.findIn K (.ref (zCInvalidPlan K)) "__setattr__" = some (some (.builtin "object.__setattr__"))),
  decide (PySem.W.typeIn K (.ref (zf1 K)) = some (.type "function")),
  decide (PySem.W.takerIn K (zCInvalidPlan K) "why" = some none),
  decide (PySem.W.takerIn K (zCInvalidPlan K) "at" = some none),
  PySem.W.hasDictIn K (zCInvalidRows K),
  decide (PySem.W.subIn K (.ref (zCInvalidRows K)) (.type "BaseException") = some true),
  decide (PySem.W.typeIn K (.ref (zCInvalidRows K)) = some (.type "type")),
  PySem.W.keepIn K (.ref (zCInvalidRows K)),
  PySem.W.excInitIn K (zCInvalidRows K) exTail "Exception.__new__",
  PySem.W.excOver K (zCInvalidRows K) exTail,
  decide (PySem.W.findIn K (.ref (zCInvalidRows K)) "__setattr__" = some (some (.builtin "object.__setattr__"))),
  decide (PySem.W.typeIn K (.ref (zf2 K)) = some (.type "function")),
  decide (PySem.W.takerIn K (zCInvalidRows K) "at" = some none),
  decide (PySem.W.exmOne K (.ref (zCInvalidCount K)) (.ref (zCInvalidCount K)) = some true),
  decide (PySem.W.exmOne K (.ref (zCInvalidMachine K)) (.ref (zCInvalidCount K)) = some false),
  decide (PySem.W.exmOne K (.ref (zCInvalidPlan K)) (.ref (zCInvalidCount K)) = some false),
  decide (PySem.W.exmOne K (.ref (zCInvalidRows K)) (.ref (zCInvalidCount K)) = some false)]
noncomputable def chk7 (K : PySem.W.Frag) : List Bool := [decide (PySem.W.exmOne K (.ref (zCInvalidCount K)) (.ref (zCInvalidPlan K)) = some false),
  decide (PySem.W.exmOne K (.ref (zCInvalidMachine K)) (.ref (zCInvalidPlan K)) = some false),
  decide (PySem.W.exmOne K (.ref (zCInvalidPlan K)) (.ref (zCInvalidPlan K)) = some true),
  decide (PySem.W.exmOne K (.ref (zCInvalidRows K)) (.ref (zCInvalidPlan K)) = some false),
  decide (PySem.W.exmOne K (.ref (zCInvalidCount K)) (.ref (zCInvalidRows K)) = some false),
  decide (PySem.W.exmOne K (.ref (zCInvalidMachine K)) (.ref (zCInvalidRows K)) = some false),
  decide (PySem.W.exmOne K (.ref (zCInvalidPlan K)) (.ref (zCInvalidRows K)) = some false),
  decide (PySem.W.exmOne K (.ref (zCInvalidRows K)) (.ref (zCInvalidRows K)) = some true),
  xfB K (zCInvalidPlan K),
  xfB K (zCInvalidRows K),
  decide (PySem.W.findIn K (.ref (zCInvalidPlan K)) "at" = some none),
  decide (PySem.W.findIn K (.ref (zCInvalidRows K)) "at" = some none),
  decide (PySem.W.findIn K (.ref (zCInvalidPlan K)) "why" = some none),
  tabsIn K []]
noncomputable def dat : Hd.Dat := ⟨[dk0, dk1, dk2, dk3, dk4, dk5, dk6, dk7, dk8, dk9, dk10, dk11, dk12, dk13, dk14, dk15, dk16, dk17, dk18, dk19, dk20, dk21, dk22, dk23, dk24, dk25, dk26, dk27, dk28, dk29, dk30], fun K => [Hd.allB (chk0 K), Hd.allB (chk1 K), Hd.allB (chk2 K), Hd.allB (chk3 K), Hd.allB (chk4 K), Hd.allB (chk5 K), Hd.allB (chk6 K), Hd.allB (chk7 K)], fun K => [], ["by_start", "crossings"]⟩
noncomputable def nmL0 : List PySem.Str := ["__name__", "TellError", "InvalidMachine", "InvalidCount", "InvalidPlan", "InvalidRows", "is_integer", "between", "checked_count", "LAST_START", "form_fault", "MOST_HANDS_letters", "MOST_LETTERS", "checked_sources", "number_fault", "GREATEST", "Machine", "MOST_HANDS_texts", "MOST_TELLS", "MOST_SENDS"]
noncomputable def nmL1 : List PySem.Str := ["plan_fault", "letters_plan_fault", "write_sheet", "_law_source", "_law_draw", "_law_wide", "_law_numbers", "_law_integer", "_law_same", "_law_form", "_law_odd", "_law_changed", "_law_spoilt", "_law_rows", "_law_sheet", "_law_case", "_law_answer", "_law_hands_due", "_law_rows_due", "_law_refused"]
noncomputable def nmL : List PySem.Str := nmL0 ++ nmL1
set_option maxHeartbeats 0 in
theorem head_run (w : World) : HandSHeadRun.RunEq R0 (PySem.W.view R0.prog [46]) (Hd.hook 0 4000 dat) (Hd.ob 0 4000 dat) 40000 nmL w := by
  intro os
  kernel_rfl
end Lw

/-! several except clauses, with and without a name -/
namespace SI
open PySem PySem.Spec PyProof.Rows L2
/-- a clause: the class, the place of its name, its suite -/
noncomputable abbrev Cla := Value × Option Nat × (Addr → Value → Option Addr → TS)
noncomputable def endsAt (i : Option Nat) (D : Ends) : Ends := match i with
  | none => D
  | some i => { nx := fun σ H => D.nx (σ.set i none) H, rt := D.rt, bk := fun σ H => D.bk (σ.set i none) H, ct := fun σ H => D.ct (σ.set i none) H }
noncomputable def stAt (i : Option Nat) (a : Addr) (σ : L2.St) : L2.St := match i with
  | none => σ
  | some i => σ.set i (some (.ref a))
noncomputable def wX (K : PySem.W.Frag) (Wo : WX) (D : Ends) : List Cla → WX
  | [] => Wo
  | (c, i, ts) :: r => fun cls d σ H => ∃ b, PySem.W.exmOne K cls c = some b ∧ (b = true → ∀ a, H a = none → ts a cls d (endsAt i D) (stAt i a σ) H) ∧ (b = false → wX K Wo D r cls d σ H)
inductive HdX (X : Cx) : List ExceptHandler → List Cla → Prop
  | nil : HdX X [] []
  | cons {x : Str} {c : Value} {ts : Addr → Value → Option Addr → TS} {b0 : Stmt} {su : List Stmt} {q1 q2 : Pos} {hs : List ExceptHandler} {l : List Cla} (nm : Names X x c)
      (go : ∀ (a : Addr) (oe : Obj) (k : Value) (d : Option Addr) (pn : List (Addr × Obj)), Zc k d oe → (∃ vs, oe.data = .fields vs) → PSs (X.suite a ((a, oe) :: pn)) (b0 :: su) (ts a k d)) (r : HdX X hs l) :
      HdX X (.ExceptHandler (some (.Name x q1)) none (b0 :: su) q2 :: hs) ((c, none, ts) :: l)
  | consAs {x n : Str} {i : Nat} {c : Value} {ts : Addr → Value → Option Addr → TS} {b0 : Stmt} {su : List Stmt} {q1 q2 : Pos} {hs : List ExceptHandler} {l : List Cla} (nm : Names X x c) (nd : X.N.Nodup) (hi : X.N[i]? = some n) (hk : X.env.kindOf n = some .local)
      (go : ∀ (a : Addr) (oe : Obj) (k : Value) (d : Option Addr) (pn : List (Addr × Obj)), Zc k d oe → (∃ vs, oe.data = .fields vs) → PSs (X.suite a ((a, oe) :: pn)) (b0 :: su) (ts a k d)) (r : HdX X hs l) :
      HdX X (.ExceptHandler (some (.Name x q1)) (some n) (b0 :: su) q2 :: hs) ((c, some i, ts) :: l)
section
variable {X : Cx} {body : List Stmt} {hd0 : ExceptHandler} {hds : List ExceptHandler} {l : List Cla} {pos : Pos} {tb : WX → TS} {Wo : WX}
theorem ps_tryX (st : X.stack = X.env :: X.outer) (fr : X.env.frame = some X.env.locals) (tk : Takes X Wo)
    (hb : ∀ (W : WX) (pn : List (Addr × Obj)) (xe : Value → Shared → Prop), Takes (X.tr pn xe) W → PassesOwn (model X.prog X.w) X.A X.env xe → PSs (X.tr pn xe) body (tb W))
    (hh : HdX X (hd0 :: hds) l) : PS X (.Try body (hd0 :: hds) [] [] pos) (fun D σ H => tb (wX X.K Wo D l) D σ H) := by
  refine ⟨fun pins s σ H D I h => ?_⟩
  have iok := I.ok
  have frs' : X.A.frames = some (X.env :: X.outer) := by rw [iok.frames, st]
  refine wpAny_Try_except (wpAny_mono ((hb (wX X.K Wo D l) (X.pn ++ pins) (fun e t1 => wpAny (model X.prog X.w) X.A (noteFrame e X.env) (fun _ t2 => wpAny (model X.prog X.w) X.A (setFlight e none) (fun _ t3 => wpAny (model X.prog X.w) X.A (handleBy e X.env (hd0 :: hds)) (SP X pins D) X.xe t3) X.xe t2) X.xe t1) (fun u t xx => ?_) PassesOwn.looking).run [] s σ H D (I.toTry _) h) (fun f t1 hsp => ?_) (fun e t1 he => he))
  · obtain ⟨a, B, t0, pins', σ1, H1, cls, d, rfl, Jt, nb, up, sky, na, os, ag, w⟩ := xx
    have J : Inv X pins σ1 H1 t0 := Jt.ofTry iok
    have sk : Sky B (X.env :: X.outer) a (Zc cls d) X.env.locals t.heap := by rw [← st]; exact sky
    show wpAny (model X.prog X.w) X.A (noteFrame (.ref a) X.env) _ _ _
    refine Sky.land Zc.steady frs' fr sk fun hp fl upp => ?_
    have Jp : Inv X pins σ1 H1 { t with heap := hp } := J.landed nb fl.1 (up.trans upp) os ag
    obtain ⟨ob, vb, hob, hzb, hdb⟩ := fl.there
    have off : a ∉ frs (X.env :: X.outer) := fun hm => by
      obtain ⟨_, ob', hob', hnf⟩ := fl.2.2.1.mem hm
      rw [hob] at hob'
      cases hob'
      exact hnf _ hdb
    have off1 : a ≠ X.env.locals := fun z => off (List.mem_filterMap.mpr ⟨X.env, List.mem_cons_self, by rw [fr, z]⟩)
    have off2 : a ∉ X.fs := fun hm => by
      obtain ⟨ev, hev, qe⟩ := List.mem_filterMap.mp hm
      exact off (List.mem_filterMap.mpr ⟨ev, List.mem_cons_of_mem _ hev, qe⟩)
    have Su := Jp.suite hob hdb na off1 off2
    have ty : PySem.W.Looks (model X.prog X.w) hp (typeOf (.ref a)) cls := fun A Q E s k q => wpAny_typeOf_ref (k _ _ hob) (by rw [hzb.1]; exact q)
    have tst : ∀ {x : Str} {c : Value} {np : Pos} (nm : Names X x c) {Q : Value → Shared → Prop} {E : Value → Shared → Prop}, Q c { t with heap := hp } → wpAny (model X.prog X.w) (X.A.mark (some (.ref a))) (eval (.Name x np) X.env) Q E { t with heap := hp } := fun {x c np} nm {Q E} q => by
      obtain ⟨ng, nb', nm1 | ⟨nm1, nv, nn⟩⟩ := nm
      · exact ld_glob (X := X.suite a ((a, ob) :: (X.pn ++ pins))) Su ng nm1 q nb'
      · exact ld_blt (X := X.suite a ((a, ob) :: (X.pn ++ pins))) Su ng nm1 nv q nn nb'
    have all : ∀ {hs' : List ExceptHandler} {l' : List Cla}, HdX X hs' l' → wX X.K Wo D l' cls d σ1 H1 → wpAny (model X.prog X.w) X.A (handleBy (.ref a) X.env hs') (SP X pins D) X.xe { t with heap := hp } := by
      intro hs' l' hk
      induction hk with
      | nil =>
        intro w
        refine wpAny_handleBy_nil ?_
        obtain ⟨k1, k2, k3, o1, v1, T1, oT1, ts1, e1, z1, d1, f1, r1⟩ := id fl
        unfold PySem.passOn
        refine wpAny_bind (wpAny_field e1 d1 f1 ?_)
        rw [if_neg (show ¬ ((Value.ref T1 == Value.none) = true) from by simp)]
        have last : wpAny (model X.prog X.w) X.A (setFlight (.ref a) X.env.frame) (fun _ t4 => wpAny (model X.prog X.w) X.A (throw (.ref a) : Sem Flow) (SP X pins D) X.xe t4) X.xe { t with heap := hp } := by
          rw [fr]
          refine HandSPX.setFlight_upZ fl fun h4 hh4 up4 => wpAny_throw (tk _ _ ?_)
          exact ⟨a, B, t0, pins, σ1, H1, cls, d, rfl, J, nb, (up.trans upp).trans up4, .inr (.inr (by rw [st]; exact hh4)), na, os, ag, w⟩
        first
          | exact wpAny_bind (wpAny_pure (wpAny_bind last))
          | exact wpAny_bind last
      | @cons x c ts b0 su q1 q2 hs2 l2 nm go r ih =>
        intro w
        obtain ⟨b, w1, w2, w3⟩ := w
        refine wpAny_handleBy_cons (codeAny_handlers_test (tst nm ((PySem.W.exm_one (M := model X.prog X.w) Jp.kIn ty w1).here ?_))) (by intro q; cases q)
        cases b with
        | true =>
          refine codeAny_handlers_suite (HandSPX.lands_againZ fl fun h4 fl4 up4 => ?_)
          have J4 : Inv X pins σ1 H1 { t with heap := h4 } := J.landed nb fl4.1 ((up.trans upp).trans up4) os ag
          obtain ⟨o4, v4, ho4, hz4, hd4⟩ := fl4.there
          refine wpAny_mono ((go a o4 cls d (X.pn ++ pins) hz4 ⟨_, hd4⟩).run [] _ _ H1 _ (J4.suite ho4 hd4 na off1 off2) (w2 rfl a na)) (fun f t6 hsp => ?_) (fun _ _ z => False.elim z)
          cases f with
          | next => exact (fun ⟨x1, x2, x3, x4⟩ => ⟨x1, x2, x3.unsuite iok, x4⟩) hsp
          | brk => exact (fun ⟨x1, x2, x3, x4⟩ => ⟨x1, x2, x3.unsuite iok, x4⟩) hsp
          | cont => exact (fun ⟨x1, x2, x3, x4⟩ => ⟨x1, x2, x3.unsuite iok, x4⟩) hsp
          | ret u => exact (fun ⟨x0, x1, x2, x3, x4, x5⟩ => ⟨x0, x1, x2, x3.unsuite iok, x4, x5⟩) hsp
        | false =>
          show wpAny _ X.A (handleBy (.ref a) X.env hs2) _ _ _
          exact ih (w3 rfl)
      | @consAs x n i c ts b0 su q1 q2 hs2 l2 nm nd hi hk go r ih =>
        intro w
        obtain ⟨b, w1, w2, w3⟩ := w
        refine wpAny_handleBy_cons (codeAny_handlers_test (tst nm ((PySem.W.exm_one (M := model X.prog X.w) Jp.kIn ty w1).here ?_))) (by intro q; cases q)
        cases b with
        | true =>
          refine codeAny_handlers_suite_as (HandSPX.lands_againZ fl fun h4 fl4 up4 => ?_)
          have J4 : Inv X pins σ1 H1 { t with heap := h4 } := J.landed nb fl4.1 ((up.trans upp).trans up4) os ag
          obtain ⟨o4, v4, ho4, hz4, hd4⟩ := fl4.there
          refine store_ok (X := X.suite a ((a, o4) :: (X.pn ++ pins))) (v := .ref a) (J4.suite ho4 hd4 na off1 off2) nd hi (.inl hk) rfl (fun t5 S5 => ?_) (.inr hk)
          refine wpAny_mono ((go a o4 cls d (X.pn ++ pins) hz4 ⟨_, hd4⟩).run [] t5 _ H1 _ S5 (w2 rfl a na)) (fun f t6 hsp => ?_) (fun _ _ z => False.elim z)
          have done : ∀ {σ6 : L2.St} {H6 : Hp} {Q : Shared → Prop}, Inv (X.suite a ((a, o4) :: (X.pn ++ pins))) [] σ6 H6 t6 → (∀ t7, Inv X pins (σ6.set i none) H6 t7 → Q t7) →
              wpAny (model X.prog X.w) X.A (do bindName X.env n .none; unbindBehindTheSuite X.env n q2) (fun _ t7 => Q t7) X.xe t6 := fun {σ6 H6 Q} S6 hq => gone_ok (S6.unsuite iok) nd hi hk hq
          cases f with
          | next => exact (fun ⟨x1, x2, x3, x4⟩ => done x3 fun _ J7 => ⟨_, _, J7, x4⟩) hsp
          | brk => exact (fun ⟨x1, x2, x3, x4⟩ => done x3 fun _ J7 => ⟨_, _, J7, x4⟩) hsp
          | cont => exact (fun ⟨x1, x2, x3, x4⟩ => done x3 fun _ J7 => ⟨_, _, J7, x4⟩) hsp
          | ret u => exact (fun ⟨x0, x1, x2, x3, x4, x5⟩ => done x3 fun _ J7 => ⟨_, _, _, J7, x4, x5⟩) hsp
        | false =>
          show wpAny _ X.A (handleBy (.ref a) X.env hs2) _ _ _
          exact ih (w3 rfl)
    exact all hh w
  · cases f with
    | next => exact (fun ⟨x1, x2, x3, x4⟩ => wpAny_execs_nil ⟨x1, x2, x3.ofTry iok, x4⟩) hsp
    | brk => exact (fun ⟨x1, x2, x3, x4⟩ => ⟨x1, x2, x3.ofTry iok, x4⟩) hsp
    | cont => exact (fun ⟨x1, x2, x3, x4⟩ => ⟨x1, x2, x3.ofTry iok, x4⟩) hsp
    | ret u => exact (fun ⟨x0, x1, x2, x3, x4, x5⟩ => ⟨x0, x1, x2, x3.ofTry iok, x4, x5⟩) hsp
end
theorem ne_ex {K : PySem.W.Frag} {A N : Addr} (h1 : PySem.W.exmOne K (.ref A) (.ref N) = some false) (h2 : PySem.W.exmOne K (.ref N) (.ref N) = some true) : A ≠ N := fun e => by
  subst e
  rw [h1] at h2
  cases h2
/-! ### at the data level -/
noncomputable abbrev Cld := List (Addr × Bool) × Option Nat × (Addr → Addr → Option Addr → FS)
noncomputable def tryM : List Cld → Addr → List Str → List D → Lc → S → RS
  | [], C, fs, vs, L, s => .ex C fs vs L s
  | (sel, none, h) :: r, C, fs, vs, L, s => match selOf sel C with
    | some true => hAll fun a od => (h a C od L s).calm
    | some false => tryM r C fs vs L s
    | none => .bad
  | (sel, some i, h) :: r, C, fs, vs, L, s => match selOf sel C with
    | some true => hAll fun a od => (h a C od (L.set i (some (.exc a C od fs vs))) s).drop i
    | some false => tryM r C fs vs L s
    | none => .bad
noncomputable def sTryM (hs : List Cld) (b : FS) : FS := fun L s => match b L s with
  | .ex C fs vs L1 s1 => tryM hs C fs vs L1 s1
  | r => r
section
variable {X : Cx} {W : WX} {pos : Pos}
inductive HdD (X : Cx) : List ExceptHandler → List Cld → Prop
  | nil : HdD X [] []
  | cons {x : Str} {Ca : Addr} {sel : List (Addr × Bool)} {fh : Addr → Addr → Option Addr → FS} {b0 : Stmt} {su : List Stmt} {q1 q2 : Pos} {hs : List ExceptHandler} {l : List Cld} (hm : X.mg x = some (.ref Ca)) (hsel : ∀ p ∈ sel, PySem.W.exmOne X.K (.ref p.1) (.ref Ca) = some p.2)
      (go : ∀ (a : Addr) (oe : Obj) (C : Addr) (d : Option Addr) (pn : List (Addr × Obj)), Zc (.ref C) d oe → (∃ vs, oe.data = .fields vs) → PSs (X.suite a ((a, oe) :: pn)) (b0 :: su) (tS X.K (fun _ _ _ _ => False) (fh a C d))) (r : HdD X hs l)
      (hg : Gl X x := by rfl) (hdb : (x == ("__debug__" : Str)) = false := by decide) :
      HdD X (.ExceptHandler (some (.Name x q1)) none (b0 :: su) q2 :: hs) ((sel, none, fh) :: l)
  | consAs {x n : Str} {i : Nat} {Ca : Addr} {sel : List (Addr × Bool)} {fh : Addr → Addr → Option Addr → FS} {b0 : Stmt} {su : List Stmt} {q1 q2 : Pos} {hs : List ExceptHandler} {l : List Cld} (nd : X.N.Nodup) (hm : X.mg x = some (.ref Ca)) (hsel : ∀ p ∈ sel, PySem.W.exmOne X.K (.ref p.1) (.ref Ca) = some p.2)
      (go : ∀ (a : Addr) (oe : Obj) (C : Addr) (d : Option Addr) (pn : List (Addr × Obj)), Zc (.ref C) d oe → (∃ vs, oe.data = .fields vs) → PSs (X.suite a ((a, oe) :: pn)) (b0 :: su) (tS X.K (fun _ _ _ _ => False) (fh a C d))) (r : HdD X hs l)
      (hi : X.N[i]? = some n := by rfl) (hk : X.env.kindOf n = some .local := by rfl) (hg : Gl X x := by rfl) (hdb : (x == ("__debug__" : Str)) = false := by decide) :
      HdD X (.ExceptHandler (some (.Name x q1)) (some n) (b0 :: su) q2 :: hs) ((sel, some i, fh) :: l)
noncomputable abbrev suT (K : PySem.W.Frag) (fh : Addr → Addr → Option Addr → FS) : Addr → Value → Option Addr → TS := fun a k d D σ H => ∃ C, k = .ref C ∧ tS K (fun _ _ _ _ => False) (fh a C d) D σ H
theorem hdD_to {hds : List ExceptHandler} {hs : List Cld} (h : HdD X hds hs) : ∃ l, HdX X hds l ∧ ∀ (D : Ends) (mu : Mu) (s : S) (L : Lc) (σ : L2.St) (H : Hp) (C : Addr) (fs : List Str) (vs : List SI.D) (od : Option Addr), Sim X.K mu s H → LR X.K mu H L σ → XR X.K mu H fs vs od → PostS X.K W D mu H (tryM hs C fs vs L s) → wX X.K W D l (.ref C) od σ H := by
  induction h with
  | nil => exact ⟨[], .nil, fun D mu s L σ H C fs vs od m l xr q => q mu σ H od (Ge.refl _ _) m l xr⟩
  | @cons x Ca sel fh b0 su q1 q2 hs' l' hm hsel go r hg hdb ih =>
    obtain ⟨l, hl, ih⟩ := ih
    refine ⟨(.ref Ca, none, suT X.K fh) :: l, .cons ⟨hg, hdb, .inl hm⟩ (fun a oe k d pn hz hv => ⟨fun pins s σ H D I h => ?_⟩) hl, fun D mu s L σ H C fs vs od m lr xr q => ?_⟩
    · obtain ⟨C, rfl, h⟩ := h
      exact (go a oe C d pn hz hv).run pins s σ H D I h
    · unfold tryM at q
      cases es : selOf sel C with
      | none =>
        rw [es] at q
        exact q.elim
      | some bb =>
        rw [es] at q
        refine ⟨bb, hsel _ (selOf_mem es), fun hbt a na => ?_, fun hbf => ?_⟩
        · subst hbt
          refine ⟨C, rfl, mu, s, L, m, lr, ?_⟩
          dsimp only at q
          rcases hAll_at (g := fun a od => (fh a C od L s).calm) a od with z | z
          · rw [z] at q
            exact q.elim
          · rw [← z] at q
            exact PostS.calm q
        · subst hbf
          exact ih D mu s L σ H C fs vs od m lr xr q
  | @consAs x n i Ca sel fh b0 su q1 q2 hs' l' nd hm hsel go r hi hk hg hdb ih =>
    obtain ⟨l, hl, ih⟩ := ih
    refine ⟨(.ref Ca, some i, suT X.K fh) :: l, .consAs ⟨hg, hdb, .inl hm⟩ nd hi hk (fun a oe k d pn hz hv => ⟨fun pins s σ H D I h => ?_⟩) hl, fun D mu s L σ H C fs vs od m lr xr q => ?_⟩
    · obtain ⟨C, rfl, h⟩ := h
      exact (go a oe C d pn hz hv).run pins s σ H D I h
    · unfold tryM at q
      cases es : selOf sel C with
      | none =>
        rw [es] at q
        exact q.elim
      | some bb =>
        rw [es] at q
        refine ⟨bb, hsel _ (selOf_mem es), fun hbt a na => ?_, fun hbf => ?_⟩
        · subst hbt
          dsimp only at q
          refine ⟨C, rfl, mu, s, L.set i (some (.exc a C od fs vs)), m, lr.set i ?_, ?_⟩
          · simp only [RelD]
            rcases xr with ⟨rfl, rfl, rfl⟩ | ⟨dx, ws, rfl, h1, h2, h3, h4⟩
            · exact ⟨trivial, [], .inl ⟨rfl, rfl⟩, rfl, .nil⟩
            · exact ⟨trivial, ws, .inr ⟨dx, rfl, h1, h2⟩, h3, h4⟩
          · rcases hAll_at (g := fun a od => (fh a C od (L.set i (some (.exc a C od fs vs))) s).drop i) a od with z | z
            · rw [z] at q
              exact q.elim
            · rw [← z] at q
              exact PostS.drop q
        · subst hbf
          exact ih D mu s L σ H C fs vs od m lr xr q
theorem pS_tryM {body : List Stmt} {hd0 : ExceptHandler} {hds : List ExceptHandler} {hs : List Cld} {fb : FS} (st : X.stack = X.env :: X.outer) (fr : X.env.frame = some X.env.locals) (tk : Takes X W)
    (hb : ∀ (W' : WX) (pn : List (Addr × Obj)) (xe : Value → Shared → Prop), Takes (X.tr pn xe) W' → PassesOwn (model X.prog X.w) X.A X.env xe → PSs (X.tr pn xe) body (tS X.K W' fb))
    (hh : HdD X (hd0 :: hds) hs) : PS X (.Try body (hd0 :: hds) [] [] pos) (tS X.K W (sTryM hs fb)) := by
  obtain ⟨l, hl, go⟩ := hdD_to (W := W) hh
  refine PS.weak (ps_tryX (tb := fun W' => tS X.K W' fb) st fr tk hb hl) fun D σ H ⟨mu, s, L, m, lr, q⟩ => ⟨mu, s, L, m, lr, ?_⟩
  unfold sTryM at q
  cases eb : fb L s with
  | nx L' s' => rw [eb] at q; exact q
  | rt d s' => rw [eb] at q; exact q
  | bk L' s' => rw [eb] at q; exact q
  | ct L' s' => rw [eb] at q; exact q
  | bad => rw [eb] at q; exact q
  | ex C fs vs L' s' =>
    rw [eb] at q
    intro mu' σ' H' od g' m' l' xr
    exact go D mu' s' L' σ' H' C fs vs od m' l' xr (PostS.ge g' q)
end
end SI

/-! range(i, j, -1) -/
namespace SI
open PySem PySem.Spec PyProof.Rows L2
section
variable {X : Cx} {W : WX} {fa : F (List D)} {pos : Pos}
end
end SI

/-! slices and sums of lists that will be changed -/
namespace SI
open PySem PySem.Spec PyProof.Rows L2
section
variable {X : Cx} {W : WX} {a b e : Expr} {f g : F D} {pos : Pos}
noncomputable def fSlT (f : F D) (l h : F (Option Int)) : F D := fun L s => (f L s).bind fun d s1 => (l L s1).bind fun lo s2 => (h L s2).bind fun hi s3 => match lstOf s3 d with
  | some xs => .ok (.ref s3.length) (s3 ++ [.lst (cutD xs lo hi)])
  | none => .bad
/-- a list that is no constant of the text -/
noncomputable def lsO (s : S) : D → Option (List D)
  | .lst xs => some xs
  | .ref n => match s[n]? with
    | some (.lst xs) => some xs
    | _ => none
  | _ => none
noncomputable def fAddT (f g : F D) : F D := fun L s => (f L s).bind fun a s1 => (g L s1).bind fun b s2 => match lsO s2 a, lsO s2 b with
  | some xs, some ys => if xs.length + ys.length ≤ big then .ok (.ref s2.length) (s2 ++ [.lst (xs ++ ys)]) else .bad
  | _, _ => .bad
end
end SI

/-! names set side by side; setdefault; a dict of one entry -/
namespace SI
open PySem PySem.Spec PyProof.Rows L2
noncomputable def sPar2 (i j : Nat) (fa : F (List D)) : FS := fun L s => (fa L s).bindS L fun ds s1 => match ds with
  | [v, w] => .nx ((L.set i (some v)).set j (some w)) s1
  | _ => .bad
noncomputable def sPar3 (i j k : Nat) (fa : F (List D)) : FS := fun L s => (fa L s).bindS L fun ds s1 => match ds with
  | [u, v, w] => .nx (((L.set i (some u)).set j (some v)).set k (some w)) s1
  | _ => .bad
section
variable {X : Cx} {W : WX} {a b d o e e2 : Expr} {fa : F (List D)} {fo fk fx f : F D} {pos : Pos} {k : Nat}
/-- d.setdefault(k, x) of a tracked dict -/
noncomputable def fSetd (fo fk fx : F D) : F D := fun L s => (fo L s).bind fun d s1 => match d with
  | .ref n => match s1[n]? with
    | some (.dk _ _) => (fk L s1).bind fun a s2 => (fx L s2).bind fun x s3 => match s3[n]?, keyD a with
      | some (.dk ks vs), some k => if ks.Nodup ∧ ks.length < big then match lkD ks vs k with
          | some v => .ok v s3
          | none => .ok x (s3.set n (.dk (ptD ks vs k x).1 (ptD ks vs k x).2))
        else .bad
      | _, _ => .bad
    | _ => .bad
  | _ => .bad
/-- {i: x} that will be changed -/
noncomputable def fDict1 (i : Int) (f : F D) : F D := fun L s => (f L (s ++ [.dk [] []])).bind fun d s2 => match s2[s.length]? with
  | some (.dk [] []) => .ok (.ref s.length) (s2.set s.length (.dk [.inl i] [d]))
  | _ => .bad
end
end SI

/-! max(xs, default=x) of ints -/
namespace SI
open PySem PySem.Spec PyProof.Rows L2
section
variable {prog : Program} {w : World} {A : Around} {J : Addr} {fp wr : List Addr} {n : Nat} {P : Nat → Value → Prop} {St : Nat → Heap → Prop}
variable {s : Shared} {E : Value → Shared → Prop} {l : Addr}
end
noncomputable def mxOf (s : S) (ds xs : List D) : Option D := match ds, xs with
  | [d], [x] => match (lstOf s d).bind intsOf with
    | some [] => some x
    | some ns => (gsI ns).map .int
    | none => none
  | _, _ => none
noncomputable def fMaxDf (fa fk : F (List D)) : F D := fun L s => (fa L s).bind fun ds s1 => (fk L s1).bind fun xs s2 => match mxOf s2 ds xs with
  | some d => .ok d s2
  | none => .bad
/-! sorted(..) whose list will be changed -/
noncomputable def srtOf (s : S) : List D → Option (List D)
  | [d] => ((lstOf s d).bind intsOf).map fun ns => (srI ns).map .int
  | _ => none
noncomputable def fSrtT (fa : F (List D)) : F D := fun L s => (fa L s).bind fun ds s1 => match srtOf s1 ds with
  | some xs => .ok (.ref s1.length) (s1 ++ [.lst xs])
  | none => .bad
end SI

/-! generators that sleep while other code runs: code that succeeds where a sleeper cannot be woken leaves the sleeper as it is -/
namespace SI
open PySem PyProof.Rows L2
open Sem (wp)
/-- frames of calls only -/
noncomputable def CallFs (fs : List Frame) : Prop := splitAtGen fs = none
/-- an entry of the table whose frames are calls -/
noncomputable def CallGen : GenState → Prop
  | .suspended _ _ _ _ fs _ => CallFs fs
  | _ => True
/-- it sleeps -/
noncomputable def Sleeps : GenState → Prop
  | .suspended .. => True
  | _ => False
/-- the same, but it cannot be woken -/
noncomputable def lame : GenState → GenState
  | .suspended _ l c p fs cl => .suspended (fun _ => .unsupported "") l c p fs cl
  | x => x
theorem lame_seen (x : GenState) : (lame x).seen = x.seen := by cases x <;> rfl
theorem lame_bare (x : GenState) : (lame x).bare = x.bare := by cases x <;> rfl
/-- T: what sleeps; G: the table; L: the table where the sleepers are lame -/
structure Lamed (T : Nat → Option GenState) (G L : Array GenState) : Prop where
  size : G.size = L.size
  sl : ∀ i x, T i = some x → Sleeps x ∧ G[i]? = some x ∧ L[i]? = some (lame x)
  eq : ∀ i, T i = none → G[i]? = L[i]?
  cl : ∀ i x, T i = none → L[i]? = some x → CallGen x
variable {T : Nat → Option GenState} {G L : Array GenState}
theorem Lamed.seen (h : Lamed T G L) {i : Nat} {x : GenState} (e : L[i]? = some x) : ∃ y, G[i]? = some y ∧ y.seen = x.seen := by
  cases ht : T i with
  | none => exact ⟨x, (h.eq i ht).trans e, rfl⟩
  | some y =>
    obtain ⟨_, h1, h2⟩ := h.sl i y ht
    rw [e] at h2
    cases h2
    exact ⟨y, h1, (lame_seen y).symm⟩
theorem Lamed.set (h : Lamed T G L) {i : Nat} (ht : T i = none) {x : GenState} (hx : CallGen x) : Lamed T (G.setIfInBounds i x) (L.setIfInBounds i x) where
  size := by rw [Array.size_setIfInBounds, Array.size_setIfInBounds, h.size]
  sl j y e := by
    have hj : i ≠ j := fun z => by subst z; rw [ht] at e; cases e
    obtain ⟨a, b, d⟩ := h.sl j y e
    exact ⟨a, by rw [Array.getElem?_setIfInBounds_ne hj]; exact b, by rw [Array.getElem?_setIfInBounds_ne hj]; exact d⟩
  eq j e := by
    rw [Array.getElem?_setIfInBounds, Array.getElem?_setIfInBounds, h.size, h.eq j e]
  cl j y e q := by
    by_cases hj : i = j
    · subst hj
      rw [Array.getElem?_setIfInBounds, if_pos rfl] at q
      split at q
      · cases q
        exact hx
      · cases q
    · rw [Array.getElem?_setIfInBounds_ne hj] at q
      exact h.cl j y e q
theorem Lamed.push (h : Lamed T G L) {x : GenState} (hx : CallGen x) : Lamed T (G.push x) (L.push x) where
  size := by rw [Array.size_push, Array.size_push, h.size]
  sl j y e := by
    obtain ⟨a, b, d⟩ := h.sl j y e
    have h1 := (Array.getElem?_eq_some_iff.mp b).1
    have h2 := (Array.getElem?_eq_some_iff.mp d).1
    exact ⟨a, by rw [Array.getElem?_push, if_neg (by omega)]; exact b, by rw [Array.getElem?_push, if_neg (by omega)]; exact d⟩
  eq j e := by rw [Array.getElem?_push, Array.getElem?_push, h.size, h.eq j e]
  cl j y e q := by
    rw [Array.getElem?_push] at q
    split at q
    · cases q
      exact hx
    · exact h.cl j y e q
section
variable {M : Model} {T : Nat → Option GenState}
end
noncomputable def sleepers (G : Array GenState) (i : Nat) : Option GenState := match G[i]? with
  | some (.suspended k l c p fs cl) => some (.suspended k l c p fs cl)
  | _ => none
end SI

/-! a generator def: its code from one sleep to the next -/
namespace SI
open PySem PySem.Spec PyProof.Rows L2 GenW
open Sem (wp)
/-- woken, it runs to an end that Φ describes -/
noncomputable def Sg (M : Model) (A : Around) (c : Code) (t : Sem PySem.Fin) (fs : List Frame) (s : Shared) (Φ : End → Shared → Prop) : Prop :=
  ∀ Γ p, Γ.code = c → Γ.Woken A → ∃ e s', Runs M Γ p t fs s e s' ∧ Φ e s'
section
variable {M : Model} {A : Around} {c c' : Code} {fs : List Frame} {s : Shared} {Φ : End → Shared → Prop}
end
section
variable {P : Program} {w : World} {A : Around} {fs : List Frame} {s : Shared} {Φ : End → Shared → Prop} {env : Env}
/-- how a sleeper goes on -/
noncomputable def GoG (M : Model) (A : Around) (gs : GenState) (s : Shared) (Φ : End → Shared → Prop) : Prop := match gs with
  | .fresh c => Sg M A c (M.den c) [] s Φ
  | .suspended k _ c _ fs _ => Sg M A c (k (.send .none)) fs s Φ
  | _ => False
end
end SI

/-! a generator def that hands out for ever: pre; while True: u; yield e; v -/
namespace SI
open PySem PySem.Spec PyProof.Rows L2 GenW
open Sem (wp)
/-- the heap's first n objects -/
noncomputable def cutH (h : Heap) (n : Nat) : Heap := ⟨h.objs.extract 0 n, h.life⟩
noncomputable def cutS (s : Shared) (n : Nat) : Shared := { s with heap := cutH s.heap n }
/-- a generator that a call has made: n0: the heap's size at the call; a, oa: its object -/
structure GCx where
  P : Program
  w : World
  K : PySem.W.Frag
  mg : Str → Option Value
  base : Heap
  N : List Str
  ps : List Str
  qual : Str
  scope : Scope
  f : Addr
  cdv : Value
  outer : List Env
  n0 : Nat
  a : Addr
  oa : Obj
  lv : Nat
noncomputable abbrev gXE (P : Program) (w : World) (K : PySem.W.Frag) (mg : Str → Option Value) (base : Heap) (N : List Str) (qual : Str) (scope : Scope) (f : Addr) (cdv : Value) (A : Around) (outer : List Env) (s : Shared) (H : Hp) : Cx :=
  { cxOf (L2.CX P w) P w K mg base N qual scope f cdv A outer s H (fun _ _ _ => False) with xe := fun _ _ => False }
/-- its context, where it is woken at s, H -/
noncomputable abbrev GCx.X (G : GCx) (A : Around) (s : Shared) (H : Hp) : Cx := gXE G.P G.w G.K G.mg G.base G.N G.qual G.scope G.f G.cdv A G.outer (cutS s G.n0) H
noncomputable abbrev GCx.env (G : GCx) : Env := envOfC G.qual G.scope G.n0 G.f G.cdv
noncomputable abbrev GCx.pin (G : GCx) : List (Addr × Obj) := [(G.a, G.oa)]
/-- what is always so -/
structure GCx.Ok (G : GCx) : Prop where
  sc : GScope G.N G.ps G.scope
  nc : ∀ y ∈ G.scope.names, y.2 ≠ .cell
  bs : G.base.objs.size ≤ G.n0
  fr : ∀ b ∈ frs G.outer, b < G.n0
  an : G.n0 < G.a
  oc : ∀ v, G.oa.data ≠ .cell v
noncomputable def GLoc (G : GCx) (σ : L2.St) (h : Heap) : Prop := ∃ m, h.Ns G.n0 m ∧ ∀ (i : Nat) (x : Str) (v : V), G.N[i]? = some x → σ[i]? = some (some v) → Vis G.scope x → ∃ u, RelV v u ∧ G.scope.names.lookup x = some .local ∧ m x = some u
section
variable {G : GCx} {A : Around} {s s1 : Shared} {H H1 : Hp} {σ : L2.St}
theorem GLoc.keep {h h' : Heap} (l : GLoc G σ h) (k : ∀ o, h.get? G.n0 = some o → h'.get? G.n0 = some o) : GLoc G σ h' := by
  obtain ⟨m, ⟨o, es, ep, ho, r⟩, q⟩ := l
  exact ⟨m, ⟨o, es, ep, k o ho, r⟩, q⟩
end
/-- a generator at the data level: where it stands, its names, the store; what it hands out -/
noncomputable abbrev GT := Nat → Lc → S → Option (D × Nat × Lc × S)
noncomputable def TPost (G : GCx) (rec : Nat → Lc → L2.St → GenState → Prop) (A : Around) (s0 : Shared) (H0 : Hp) (mu0 : Mu) (r : Option (D × Nat × Lc × S)) (e : End) (s1 : Shared) : Prop := match r with
  | some (d, ph, L, sD) => ∃ v gd l k c p fs, e = .susp v gd l k c p fs ∧ e.quiet = true ∧ ∃ mu H σ x, Ge mu0 H0 mu H ∧ Sim G.K mu sD H ∧ LR G.K mu H L σ ∧ RelD G.K mu H d x ∧ RelV x v ∧ Inv (G.X A s0 H0) G.pin σ H s1 ∧ rec ph L σ e.genState
  | none => False
/-- it sleeps (or has not begun): woken n times it does as tn says -/
noncomputable def Slp (G : GCx) (tn : GT) : Nat → Nat → Lc → L2.St → GenState → Prop
  | 0, _, _, _, _ => True
  | n + 1, ph, L, σ, gs => gs.bare = true ∧ ∀ (A : Around) (s s' : Shared) (H : Hp) (mu : Mu) (sD : S), Room (G.lv + 1) A → G.n0 ≤ s.heap.objs.size → Inv (G.X A s H) G.pin σ H s → s'.heap = s.heap → s'.os = s.os → AllBare s'.gens → Sim G.K mu sD H → LR G.K mu H L σ → tn ph L sD ≠ none →
      GoG (model G.P G.w) A gs s' (TPost G (Slp G tn n) A s H mu (tn ph L sD))
/-! ### for ever -/
noncomputable abbrev W0 : WX := fun _ _ _ _ => False
structure GBody (G : GCx) (pre : List Stmt) (test : Expr) (u : List Stmt) (e : Expr) (v : List Stmt) (dp du : FS) (de : F D) (dv : FS) : Prop where
  pre : ∀ A s H, Room G.lv (A.deeper (G.X A s H).env) → PSs (G.X A s H) pre (tS G.K W0 dp)
  tst : ∀ A s H, Room G.lv (A.deeper (G.X A s H).env) → PT (G.X A s H) test (tT G.K W0 fun _ s => .ok true s)
  u : ∀ A s H, Room G.lv (A.deeper (G.X A s H).env) → PSs (G.X A s H) u (tS G.K W0 du)
  e : ∀ A s H, Room G.lv (A.deeper (G.X A s H).env) → PE (G.X A s H) e (tE G.K W0 de)
  v : ∀ A s H, Room G.lv (A.deeper (G.X A s H).env) → PSs (G.X A s H) v (tS G.K W0 dv)
section
variable {G : GCx} {A : Around} {s0 : Shared} {H0 : Hp}
end
end SI

namespace SI
open PySem PySem.Spec PyProof.Rows L2 GenW
open Sem (wp)
section
variable {G : GCx} {pre u v : List Stmt} {test e : Expr} {yp p1 p2 : Pos} {dp du dv : FS} {de : F D}
end
end SI

/-! for .. in f(..): where f is a generator def -/
namespace SI
open PySem PySem.Spec PyProof.Rows L2 GenW
open Sem (wp)
theorem Lamed.bare {T : Nat → Option GenState} {G L : Array GenState} (h : Lamed T G L) (hb : AllBare L) : AllBare G := fun y hy => by
  obtain ⟨i, hi, e⟩ := Array.mem_iff_getElem.mp hy
  have e' : G[i]? = some y := by rw [Array.getElem?_eq_getElem hi, e]
  cases ht : T i with
  | none =>
    rw [h.eq i ht] at e'
    exact hb y (Array.mem_of_getElem? e')
  | some x =>
    obtain ⟨_, h1, h2⟩ := h.sl i x ht
    rw [e'] at h1
    cases h1
    have := hb _ (Array.mem_of_getElem? h2)
    rwa [lame_bare] at this
/-! ### the data level -/
/-- a generator def -/
structure GenOk (P : Program) (w : World) (K : PySem.W.Frag) (mg : Str → Option Value) (base : Heap) (lv : Nat) (f : Addr) (fd : FuncData) (N ps : List Str) (tn : GT) : Prop where
  ex : ∃ (oc : Value) (od : Option Addr) (name qual : Str) (params : Arguments) (body : List Stmt) (scope : Scope) (dV kV doc pm : Value) (an : Option Addr) (cdv ct : Value) (osl : Array (Option Value)),
    fd = PySem.W.fnOf name qual params body scope dV kV doc pm an cdv ct ∧ K.lookup f = some ⟨oc, od, .func fd, osl⟩ ∧ PySem.W.codeIn K cdv qual = true ∧ GScope N ps scope ∧ (∀ y ∈ scope.names, y.2 ≠ .cell) ∧
    ∀ (outer : List Env) (n0 : Nat) (a : Addr) (oa : Obj) (n : Nat) (L : Lc) (σ : L2.St), Slp ⟨P, w, K, mg, base, N, ps, qual, scope, f, cdv, outer, n0, a, oa, lv⟩ tn n 0 L σ (.fresh (.func body (envOfC qual scope n0 f cdv)))
theorem GoG.up {M : Model} {A : Around} {gs : GenState} {s : Shared} {Φ Φ' : End → Shared → Prop} (h : GoG M A gs s Φ) (w : ∀ e s1, s.gens.size ≤ s1.gens.size → Φ e s1 → Φ' e s1) : GoG M A gs s Φ' := by
  cases gs with
  | fresh c =>
    intro Γ p hc hΓ
    obtain ⟨e, s1, hr, hf⟩ := h Γ p hc hΓ
    exact ⟨e, s1, hr, w e s1 (runs_gsz hr) hf⟩
  | suspended k l c p fs cl =>
    intro Γ p hc hΓ
    obtain ⟨e, s1, hr, hf⟩ := h Γ p hc hΓ
    exact ⟨e, s1, hr, w e s1 (runs_gsz hr) hf⟩
  | running => exact h
  | finished => exact h
section
variable {X : Cx} {pins : List (Addr × Obj)} {σ : L2.St} {H H4 : Hp} {s s1 : Shared} {G : GCx} {A : Around} {σg : L2.St}
/-- older than the generator -/
structure Older (X : Cx) (pins : List (Addr × Obj)) (n0 : Nat) : Prop where
  pn : ∀ p ∈ X.pn ++ pins, p.1 < n0
  cl : ∀ x c, X.env.cells.lookup x = some c → c < n0
  lo : X.env.locals < n0
  s0 : X.s_0.heap.objs.size ≤ n0
end
end SI

namespace SI
open PySem PySem.Spec PyProof.Rows L2 GenW
open Sem (wp)
section
variable {X : Cx} {W : WX} {pins : List (Addr × Obj)} {tg : Expr} {body : List Stmt} {q : Tg} {ub : FS} {G : GCx} {g : Nat} {tn : GT} {D0 : Ends}
end
end SI
namespace SI
open PySem PySem.Spec PyProof.Rows L2 GenW
section
variable {X : Cx} {W : WX} {tg e : Expr} {es : List Expr} {body : List Stmt} {q : Tg} {ub : FS} {tn : GT} {fa : F (List D)} {x : Str} {fA : Addr} {fd : FuncData} {N ps : List Str} {k : Nat} {p pos pos' : Pos}
end
end SI

/-! a generator def from the parts of its text -/
namespace SI
open PySem PySem.Spec PyProof.Rows L2 GenW
end SI

/-! tracked dicts whose keys are tuples of ints -/
namespace SI
open PySem PySem.Spec PyProof.Rows L2
section
variable {α : Type}
noncomputable def lkL : List (List Int) → List α → List Int → Option α
  | k :: ks, v :: vs, k' => if k = k' then some v else lkL ks vs k'
  | _, _, _ => none
end
section
variable {α β : Type}
end
/-! the heap -/
/-- the tuple of ints k stands at b -/
noncomputable def KeyB (K : PySem.W.Frag) (H : Hp) (k : List Int) (b : Addr) : Prop := KTup K b (k.map V.int) ∨ H b = some (.tup (k.map V.int))
section
variable {X : Cx} {pins : List (Addr × Obj)} {σ : List (Option V)} {H : Hp} {s : Shared} {a b : Addr} {ks : List (List Int)} {k : List Int} {bs : List Addr} {vs : List V} {v : V} {r : Value} {A : Around} {E : Value → Shared → Prop}
end
section
variable {X : Cx} {o i e value : Expr} {pos pos' : Pos} {td ty tv : TE}
end
/-! the data -/
section
variable {K : PySem.W.Frag} {mu : Mu} {s : S} {H : Hp}
theorem KeyA.b {k : List Int} {b : Addr} (h : KeyA K mu H k b) : KeyB K H k b := h.imp id fun z => z.1
theorem Keys.b {ks : List (List Int)} {bs : List Addr} (h : Keys K mu H ks bs) : Paired (KeyB K H) ks bs := Paired.mapP h fun _ _ z => z.b
theorem Keys.mono {mu' : Mu} {H' : Hp} (g : Ge mu H mu' H') {ks : List (List Int)} {bs : List Addr} (h : Keys K mu H ks bs) : Keys K mu' H' ks bs := Paired.mapP h fun _ _ z => z.imp id g.fix
end
section
variable {X : Cx} {W : WX} {o i e e2 : Expr} {fo fi f g fx : F D} {pos : Pos} {k : Nat}
end
end SI

/-! max of three ints -/
namespace SI
open PySem PySem.Spec PyProof.Rows L2
section
variable {X : Cx} {W : WX} {e e2 e3 : Expr} {fa : F (List D)} {pos : Pos}
end
end SI

/-! max of six ints -/
namespace SI
open PySem PySem.Spec PyProof.Rows L2
open Sem (wp)
section
variable {prog : Program} {w : World} {A : Around} {E : Value → Shared → Prop} {s : Shared}
end
section
variable {X : Cx} {W : WX} {e e2 e3 e4 e5 e6 : Expr} {fa : F (List D)} {pos : Pos}
end
end SI

/-! sorted(xs, key=lambda r: r[0] * FINE // r[1]) of a list of pairs of ints -/
namespace SI
open PySem PySem.Spec PyProof.Rows L2
end SI

/-! for x in reversed(a list that nobody changes) -/
namespace SI
open PySem PySem.Spec PyProof.Rows L2
end SI

/-! *e among the items of a display -/
namespace SI
open PySem PySem.Spec PyProof.Rows L2 StX
variable {X : Cx} {W : WX} {e : Expr} {es : List Expr} {f : F D} {fa : F (List D)} {p : Pos}
noncomputable def fStar (f : F D) (fa : F (List D)) : F (List D) := fun L s => (f L s).bind fun d s1 => match lstOf s1 d with
  | some xs => (fa L s1).bind fun ys s2 => .ok (xs ++ ys) s2
  | none => .bad
theorem pA_star (ha : PE X e (tE X.K W f)) (hr : PA X es (tA X.K W fa)) (hs : starEach (.Starred e p :: es) X.env = (true, eval e X.env) :: starEach es X.env := by rfl) : PA X (.Starred e p :: es) (tA X.K W (fStar f fa)) := by
  refine PA.weak (pa_star ha hr hs) fun σ H Q hq => ?_
  obtain ⟨mu, s, L, m, l, p⟩ := hq
  refine ⟨mu, s, L, m, l, Post.step p fun d1 s1 mu1 H1 v1 g1 m1 r1 p1 => ?_⟩
  split at p1
  · rename_i xs e
    obtain ⟨a, vs, rfl, sq, rs⟩ := sq_lstOf m1 r1 e
    refine ⟨a, vs, rfl, .inr sq, mu1, s1, L, m1, l.mono g1, Post.step p1 fun d2 s2 mu2 H2 v2 g2 m2 r2 p2 => ?_⟩
    exact p2 mu2 H2 _ (Ge.refl _ _) m2 ((rs.mono g2).append r2)
  · exact p1.elim
end SI

namespace Pg
open PySem L2 SI
structure Cl where
  Machine : Addr
  Desk : Addr
  Reader : Addr
  TellError : Addr
  InvalidMachine : Addr
  InvalidCount : Addr
  InvalidTime : Addr
  InvalidTurns : Addr
  InvalidRoots : Addr
  InvalidName : Addr
  InvalidNames : Addr
  InvalidPlan : Addr
  InvalidRows : Addr
  InvalidText : Addr
  LimitExceeded : Addr
  NothingLeft : Addr
  cs : List Addr
noncomputable def G_is_integer (c : Cl) : List D → S → R D := runF 1
  ((sRet (fAndV (fCB (bIsi c.cs) (fCons (fVar 0) (fCons (fC (.ty "int")) fNil))) (fNotV (fCB (bIsi c.cs) (fCons (fVar 0) (fCons (fC (.ty "bool")) fNil)))))))
noncomputable def G_between (c : Cl) : List D → S → R D := runF 3
  ((sRet (fAndV (fCall 1 (G_is_integer c) (fCons (fVar 0) fNil)) (fChain dLe dLe (fVar 1) (fVar 0) (fVar 2)))))
noncomputable def G_Machine___init__ (c : Cl) : List D → S → R D := runF 4
  ((sSeq (sIf (fNot (fTst (fCall 3 (G_between c) (fCons (fVar 1) (fCons (fC (.int 0)) (fCons (fC (.int 1000000000)) fNil)))))) (sRaise1 c.InvalidMachine "part" (fCons (fC (.str "o")) fNil)) sNext)
    (sSeq (sIf (fNot (fTst (fCall 3 (G_between c) (fCons (fVar 2) (fCons (fC (.int 0)) (fCons (fC (.int 1000000000)) fNil)))))) (sRaise1 c.InvalidMachine "part" (fCons (fC (.str "l")) fNil)) sNext)
    (sSeq (sIf (fNot (fTst (fCall 3 (G_between c) (fCons (fVar 3) (fCons (fC (.int 1)) (fCons (fC (.int 1000000000)) fNil)))))) (sRaise1 c.InvalidMachine "part" (fCons (fC (.str "g")) fNil)) sNext)
    (sSeq (sIf (fTst (fOp (dEqD false) (fOp dAdd (fOp dMul (fC (.int 2)) (fVar 1)) (fVar 2)) (fC (.int 0)))) (sRaise1 c.InvalidMachine "part" (fCons (fC (.str "letter")) fNil)) sNext)
    (sSeq (sFldT [c.Machine] "o" (fVar 0) (fVar 1))
    (sSeq (sFldT [c.Machine] "l" (fVar 0) (fVar 2))
    (sSeq (sFldT [c.Machine] "g" (fVar 0) (fVar 3))
    (sSeq (sFldT [c.Machine] "letter" (fVar 0) (fOp dAdd (fOp dMul (fC (.int 2)) (fVar 1)) (fVar 2)))
    (sFldT [c.Machine] "gap" (fVar 0) (fCB bMax (fCons (fVar 1) (fCons (fVar 3) fNil)))))))))))))
noncomputable def G_checked_count (c : Cl) : List D → S → R D := runF 3
  ((sSeq (sIf (fNot (fTst (fCall 3 (G_between c) (fCons (fVar 0) (fCons (fVar 1) (fCons (fVar 2) fNil)))))) (sRaise0 c.InvalidCount) sNext)
    (sRet (fVar 0))))
noncomputable def G_form_fault_rows (c : Cl) : List D → S → R D := runF 6
  ((sSeq (sIf (fOr (fNot (fTst (fCB (bIsiT c.cs) (fCons (fVar 0) (fCons (fTup (fCons (fC (.ty "list")) (fCons (fC (.ty "tuple")) fNil))) fNil))))) (fTst (fOp dGt (fCB bLen (fCons (fVar 0) fNil)) (fVar 2)))) (sRet (fTup (fCons (fC (.str "form")) (fCons (fNeg (fC (.int 1))) fNil)))) sNext)
    (sSeq (sFor (fEnu (fCons (fVar 0) fNil)) (gTp (gCn (gN 3) (gCn (gN 4) gNl))) (sSeq (sIf (fOr (fNot (fTst (fCB (bIsi c.cs) (fCons (fVar 4) (fCons (fC (.ty "tuple")) fNil))))) (fTst (fOp (dEqD true) (fCB bLen (fCons (fVar 4) fNil)) (fVar 1)))) (sRet (fTup (fCons (fC (.str "form")) (fCons (fVar 3) fNil)))) sNext)
    (sSeq (sFor (fSrc (fVar 4)) (gN 5) (sIf (fNot (fTst (fCall 1 (G_is_integer c) (fCons (fVar 5) fNil)))) (sRet (fTup (fCons (fC (.str "form")) (fCons (fVar 3) fNil)))) sNext))
    (sIf (fOr (fTst (fOp dLt (fOp dIx (fVar 4) (fNeg (fC (.int 1)))) (fC (.int 0)))) (fTst (fOp dGt (fOp dIx (fVar 4) (fNeg (fC (.int 1)))) (fC (.int 1000000000000000))))) (sRet (fTup (fCons (fC (.str "form")) (fCons (fVar 3) fNil)))) sNext))))
    (sRet (fC .non)))))
noncomputable def G_checked_sources (c : Cl) : List D → S → R D := runF 4
  ((sSeq (sExpr (fCall 3 (G_checked_count c) (fCons (fVar 0) (fCons (fC (.int 2)) (fCons (fC (.int 40)) fNil)))))
    (sSeq (sIf (fOr (fNot (fTst (fCB (bIsiT c.cs) (fCons (fVar 1) (fCons (fTup (fCons (fC (.ty "list")) (fCons (fC (.ty "tuple")) fNil))) fNil))))) (fNot (fTst (fChain dLe dLe (fC (.int 1)) (fCB bLen (fCons (fVar 1) fNil)) (fC (.int 40)))))) (sRaise1 c.InvalidRows "at" (fCons (fNeg (fC (.int 1))) fNil)) sNext)
    (sSeq (sFor (fEnu (fCons (fVar 1) fNil)) (gTp (gCn (gN 2) (gCn (gN 3) gNl))) (sIf (fNot (fTst (fCall 3 (G_between c) (fCons (fVar 3) (fCons (fC (.int 0)) (fCons (fOp dSub (fVar 0) (fC (.int 1))) fNil)))))) (sRaise1 c.InvalidRows "at" (fCons (fVar 2) fNil)) sNext))
    (sRet (fCB bList (fCons (fVar 1) fNil)))))))
noncomputable def G_number_fault (c : Cl) : List D → S → R D := runF 9
  ((sSeq (sFor (fEnu (fCons (fVar 2) fNil)) (gTp (gCn (gN 3) (gCn (gN 4) gNl))) (sIf (fNot (fTst (fChain dLe dLt (fC (.int 0)) (fOp dIx (fVar 4) (fC (.int 0))) (fVar 1)))) (sRet (fTup (fCons (fC (.str "letter")) (fCons (fVar 3) fNil)))) sNext))
    (sSeq (sFor (fEnu (fCons (fVar 2) fNil)) (gTp (gCn (gN 3) (gCn (gTp (gCn (gN 5) (gCn (gN 6) (gCn (gN 7) (gCn (gN 8) gNl))))) gNl))) (sIf (fOr (fNot (fTst (fChain dLe dLt (fC (.int 0)) (fVar 6) (fVar 0)))) (fOr (fNot (fTst (fChain dLe dLt (fC (.int 0)) (fVar 7) (fVar 0)))) (fTst (fOp (dEqD false) (fVar 6) (fVar 7))))) (sRet (fTup (fCons (fC (.str "hand")) (fCons (fVar 3) fNil)))) sNext))
    (sRet (fC .non)))))
noncomputable def G_plan_fault_texts (c : Cl) : List D → S → R D := runF 7
  ((sSeq (sAsg 2 (fCall 3 (G_form_fault_rows c) (fCons (fVar 1) (fCons (fC (.int 3)) (fCons (fC (.int 400)) fNil)))))
    (sSeq (sIf (fTst (fOp (dIs true) (fVar 2) (fC .non))) (sRet (fVar 2)) sNext)
    (sSeq (sFor (fEnu (fCons (fVar 1) fNil)) (gTp (gCn (gN 3) (gCn (gTp (gCn (gN 4) (gCn (gN 5) (gCn (gN 6) gNl)))) gNl))) (sIf (fOr (fNot (fTst (fChain dLe dLt (fC (.int 0)) (fVar 4) (fVar 0)))) (fOr (fNot (fTst (fChain dLt dLt (fC (.int 0)) (fVar 5) (fVar 0)))) (fTst (fOp (dEqD false) (fVar 4) (fVar 5))))) (sRet (fTup (fCons (fC (.str "hand")) (fCons (fVar 3) fNil)))) sNext))
    (sRet (fC .non))))))
noncomputable def G_letters_plan_fault (c : Cl) : List D → S → R D := runF 4
  ((sSeq (sAsg 3 (fCall 3 (G_form_fault_rows c) (fCons (fVar 2) (fCons (fC (.int 4)) (fCons (fC (.int 2000)) fNil)))))
    (sSeq (sIf (fTst (fOp (dIs false) (fVar 3) (fC .non))) (sAsg 3 (fCall 3 (G_number_fault c) (fCons (fVar 0) (fCons (fVar 1) (fCons (fVar 2) fNil))))) sNext)
    (sRet (fVar 3)))))
noncomputable def G_write_sheet (c : Cl) : List D → S → R D := pureF (runF 11
  ((sSeq (sAsg 4 (fLst fNil))
    (sSeq (sAsg 5 (fC (.str "tell")))
    (sSeq (sIf (fTst (fOp (dIs false) (fVar 3) (fC .non))) (sSeq (sExpr (fCall 3 (G_checked_count c) (fCons (fVar 1) (fCons (fC (.int 1)) (fCons (fC (.int 100)) fNil)))))
    (sAsg 6 (fCall 2 (G_plan_fault_texts c) (fCons (fVar 1) (fCons (fVar 2) fNil))))) (sSeq (sAsg 4 (fCall 2 (G_checked_sources c) (fCons (fVar 1) (fCons (fVar 3) fNil))))
    (sSeq (sAsg 5 (fC (.str "send")))
    (sAsg 6 (fCall 3 (G_letters_plan_fault c) (fCons (fVar 1) (fCons (fCB bLen (fCons (fVar 4) fNil)) (fCons (fVar 2) fNil))))))))
    (sSeq (sIf (fTst (fOp (dIs true) (fVar 6) (fC .non))) (sRaise2 c.InvalidPlan "why" "at" (fCons (fOp dIx (fVar 6) (fC (.int 0))) (fCons (fOp dIx (fVar 6) (fC (.int 1))) fNil))) sNext)
    (sSeq (sAsg 7 (fLstT (fCons (fJs [(fC (.str "machine ")), (fFmt (fFld [c.Machine] "o" (fVar 0))), (fC (.str " ")), (fFmt (fFld [c.Machine] "l" (fVar 0))), (fC (.str " ")), (fFmt (fFld [c.Machine] "g" (fVar 0)))] Str.empty) (fCons (fJs [(fC (.str "hands ")), (fFmt (fVar 1))] Str.empty) fNil))))
    (sSeq (sFor (fSrc (fVar 4)) (gN 8) (sExpr (fApp (fVar 7) (fCons (fJs [(fC (.str "source ")), (fFmt (fVar 8))] Str.empty) fNil))))
    (sSeq (sFor (fSrc (fVar 2)) (gN 9) (sExpr (fApp (fVar 7) (fCons (fM1 mJoin (fC (.str " ")) (fLst (fCons (fVar 5) (fStar (fLc (fSrc (fVar 9)) (gN 10) fYes (fCB bStr (fCons (fVar 10) fNil)) [10]) fNil)))) fNil))))
    (sRet (fOp dAdd (fM1 mJoin (fC (.str "\n")) (fVar 7)) (fC (.str "\n")))))))))))))
end Pg

namespace Lw
open PySem L2 SI Pg
noncomputable def OkC (c : Cl) : Prop := c.cs = [c.Machine] ∧ c.InvalidMachine ≠ c.InvalidCount ∧ c.InvalidPlan ≠ c.InvalidCount ∧ c.InvalidRows ≠ c.InvalidCount ∧ c.InvalidCount ≠ c.InvalidPlan ∧ c.InvalidMachine ≠ c.InvalidPlan ∧ c.InvalidRows ≠ c.InvalidPlan ∧ c.InvalidCount ≠ c.InvalidRows ∧ c.InvalidMachine ≠ c.InvalidRows ∧ c.InvalidPlan ≠ c.InvalidRows
noncomputable def xsel_InvalidCount (c : Cl) : List (Addr × Bool) := [(c.InvalidCount, true), (c.InvalidMachine, false), (c.InvalidPlan, false), (c.InvalidRows, false)]
noncomputable def xsel_InvalidPlan (c : Cl) : List (Addr × Bool) := [(c.InvalidPlan, true), (c.InvalidCount, false), (c.InvalidMachine, false), (c.InvalidRows, false)]
noncomputable def xsel_InvalidRows (c : Cl) : List (Addr × Bool) := [(c.InvalidRows, true), (c.InvalidCount, false), (c.InvalidMachine, false), (c.InvalidPlan, false)]
noncomputable def xs_at (c : Cl) : List Addr := [c.InvalidPlan, c.InvalidRows]
noncomputable def xs_why (c : Cl) : List Addr := [c.InvalidPlan]
noncomputable def G__law_source (c : Cl) : List D → S → R D := runF 2
  ((sRet (fLstT (fCons (fLc (fSrc (fSl (fVar 0) fNo (fPt (fC (.int 63))))) (gN 1) fYes (fCB bInt (fCons (fVar 1) fNil)) [1]) (fCons (fC (.int 0)) (fCons (fC (.int 0)) (fCons (fC (.int 0)) (fCons (fC (.int 7)) fNil))))))))
noncomputable def G__law_draw (c : Cl) : List D → S → R D := runF 7
  ((sSeq (sAugS dIxL dAddI dPut (fVar 0) (fC (.int 3)) (fC (.int 1)))
    (sSeq (sIf (fAnd (fTst (fOp (dEqD false) (fOp dIx (fVar 0) (fC (.int 2))) (fC (.int 0)))) (fTst (fOp dLt (fOp dIx (fVar 0) (fC (.int 1))) (fCB bLen (fCons (fOp dIx (fVar 0) (fC (.int 0))) fNil))))) (sSeq (sAsg 2 (fOp dIx (fOp dIx (fVar 0) (fC (.int 0))) (fOp dIx (fVar 0) (fC (.int 1)))))
    (sSeq (sAugS dIxL dAddI dPut (fVar 0) (fC (.int 1)) (fC (.int 1)))
    (sIf (fTst (fOp dGe (fVar 2) (fOp dPow (fC (.int 10)) (fC (.int 18))))) (sPut dPut (fVar 2) (fVar 0) (fC (.int 2))) (sPut dPut (fOp dMod (fCB bInt (fCons (fOp dAdd (fOp dAdd (fOp dMul (fOp dIx (fVar 0) (fC (.int 4))) (fC (.int 48271))) (fOp dMul (fVar 2) (fC (.int 2)))) (fC (.int 11))) fNil)) (fC (.int 2147483629))) (fVar 0) (fC (.int 4)))))) sNext)
    (sSeq (sIf (fTst (fOp dGt (fOp dIx (fVar 0) (fC (.int 2))) (fC (.int 0)))) (sSeq (sAsg 3 (fOp dMod (fCB bInt (fCons (fOp dIx (fVar 0) (fC (.int 2))) fNil)) (fVar 1)))
    (sSeq (sPut dPut (fOp dDiv (fOp dIx (fVar 0) (fC (.int 2))) (fVar 1)) (fVar 0) (fC (.int 2)))
    (sRet (fVar 3)))) sNext)
    (sSeq (sAsg 4 (fOp dMod (fCB bInt (fCons (fOp dMul (fOp dAdd (fOp dAdd (fOp dIx (fVar 0) (fC (.int 4))) (fOp dMul (fC (.int 6151)) (fOp dIx (fVar 0) (fC (.int 3))))) (fC (.int 1))) (fC (.int 69621))) fNil)) (fC (.int 2147483647))))
    (sSeq (sAsg 5 (fOp dMod (fCB bInt (fCons (fOp dMul (fVar 4) (fOp dAdd (fOp dDiv (fVar 4) (fC (.int 1013))) (fC (.int 48271)))) fNil)) (fC (.int 2147483647))))
    (sSeq (sAsg 6 (fOp dMod (fCB bInt (fCons (fOp dMul (fVar 5) (fOp dAdd (fOp dDiv (fVar 5) (fC (.int 2011))) (fC (.int 40692)))) fNil)) (fC (.int 2147483399))))
    (sRet (fOp dMod (fCB bInt (fCons (fOp dDiv (fVar 6) (fC (.int 8))) fNil)) (fVar 1))))))))))
noncomputable def G__law_wide (c : Cl) : List D → S → R D := runF 5
  ((sSeq (sIf (fTst (fOp dLe (fVar 1) (fC (.int 1000000)))) (sRet (fCall 2 (G__law_draw c) (fCons (fVar 0) (fCons (fVar 1) fNil)))) sNext)
    (sSeq (sAsg 2 (fCall 2 (G__law_draw c) (fCons (fVar 0) (fCons (fC (.int 1000000)) fNil))))
    (sSeq (sAsg 3 (fCall 2 (G__law_draw c) (fCons (fVar 0) (fCons (fC (.int 1000000)) fNil))))
    (sSeq (sAsg 4 (fCall 2 (G__law_draw c) (fCons (fVar 0) (fCons (fC (.int 1000000)) fNil))))
    (sRet (fOp dMod (fCB bInt (fCons (fOp dAdd (fOp dMul (fOp dAdd (fOp dMul (fVar 2) (fC (.int 1000000))) (fVar 3)) (fC (.int 1000000))) (fVar 4)) fNil)) (fVar 1))))))))
noncomputable def G__law_numbers (c : Cl) : List D → S → R D := runF 6
  ((sSeq (sAsg 1 (fOp dIx (fLst (fCons (fC (.int 4)) (fCons (fC (.int 6)) (fCons (fC (.int 13)) (fCons (fC (.int 41)) (fCons (fOp dAdd (fOp dPow (fC (.int 10)) (fC (.int 9))) (fC (.int 1))) fNil)))))) (fCall 2 (G__law_draw c) (fCons (fVar 0) (fCons (fC (.int 5)) fNil)))))
    (sSeq (sAsg 2 (fCall 2 (G__law_draw c) (fCons (fVar 0) (fCons (fC (.int 6)) fNil))))
    (sSeq (sAsg 3 (fCall 2 (G__law_wide c) (fCons (fVar 0) (fCons (fVar 1) fNil))))
    (sSeq (sAsg 4 (fCall 2 (G__law_wide c) (fCons (fVar 0) (fCons (fVar 1) fNil))))
    (sSeq (sAsg 5 (fOp dAdd (fC (.int 1)) (fCall 2 (G__law_wide c) (fCons (fVar 0) (fCons (fOp dSub (fVar 1) (fC (.int 1))) fNil)))))
    (sSeq (sIf (fTst (fOp (dEqD false) (fVar 2) (fC (.int 0)))) (sAsg 3 (fC (.int 0))) sNext)
    (sSeq (sIf (fTst (fOp (dEqD false) (fVar 2) (fC (.int 1)))) (sAsg 4 (fC (.int 0))) sNext)
    (sSeq (sIf (fAnd (fTst (fOp (dEqD false) (fVar 2) (fC (.int 2)))) (fTst (fOp dGt (fVar 1) (fC (.int 1000))))) (sAsg 5 (fOp dAdd (fC (.int 1)) (fOp dMod (fCB bInt (fCons (fVar 5) fNil)) (fC (.int 9))))) sNext)
    (sSeq (sIf (fTst (fOp (dEqD false) (fOp dAdd (fOp dMul (fC (.int 2)) (fVar 3)) (fVar 4)) (fC (.int 0)))) (sAsg 4 (fC (.int 1))) sNext)
    (sRet (fTup (fCons (fVar 3) (fCons (fVar 4) (fCons (fVar 5) fNil)))))))))))))))
noncomputable def G__law_integer (c : Cl) : List D → S → R D := runF 1
  ((sRet (fAndV (fCB (bIsi c.cs) (fCons (fVar 0) (fCons (fC (.ty "int")) fNil))) (fNotV (fCB (bIsi c.cs) (fCons (fVar 0) (fCons (fC (.ty "bool")) fNil)))))))
noncomputable def Gn__law_same (c : Cl) : Nat → List D → S → R D
  | 0 => runF 3 sBad
  | n + 1 => runF 3
      ((sSeq (sIf (fTst (fOp (dIs false) (fVar 1) (fC .non))) (sRet (fOp (dIs false) (fVar 0) (fC .non))) sNext)
    (sSeq (sIf (fTst (fCB (bIsi c.cs) (fCons (fVar 1) (fCons (fC (.ty "bool")) fNil)))) (sRet (fAndV (fCB (bIsi c.cs) (fCons (fVar 0) (fCons (fC (.ty "bool")) fNil))) (fOp (dEqD false) (fVar 0) (fVar 1)))) sNext)
    (sSeq (sIf (fTst (fCB (bIsi c.cs) (fCons (fVar 1) (fCons (fC (.ty "int")) fNil)))) (sRet (fAndV (fCall 1 (G__law_integer c) (fCons (fVar 0) fNil)) (fOp (dEqD false) (fVar 0) (fVar 1)))) sNext)
    (sSeq (sIf (fTst (fCB (bIsi c.cs) (fCons (fVar 1) (fCons (fC (.ty "str")) fNil)))) (sRet (fAndV (fCB (bIsi c.cs) (fCons (fVar 0) (fCons (fC (.ty "str")) fNil))) (fOp (dEqD false) (fVar 0) (fVar 1)))) sNext)
    (sSeq (sIf (fAnd (fTst (fCB (bIsi c.cs) (fCons (fVar 1) (fCons (fC (.ty "list")) fNil)))) (fNot (fTst (fCB (bIsi c.cs) (fCons (fVar 0) (fCons (fC (.ty "list")) fNil)))))) (sRet (fC (.bl false))) sNext)
    (sSeq (sIf (fAnd (fTst (fCB (bIsi c.cs) (fCons (fVar 1) (fCons (fC (.ty "tuple")) fNil)))) (fNot (fTst (fCB (bIsi c.cs) (fCons (fVar 0) (fCons (fC (.ty "tuple")) fNil)))))) (sRet (fC (.bl false))) sNext)
    (sSeq (sIf (fTst (fOp (dEqD true) (fCB bLen (fCons (fVar 0) fNil)) (fCB bLen (fCons (fVar 1) fNil)))) (sRet (fC (.bl false))) sNext)
    (sSeq (sFor (fRng dRng1 (fCons (fCB bLen (fCons (fVar 1) fNil)) fNil)) (gN 2) (sIf (fNot (fTst (fCall 2 (Gn__law_same c n) (fCons (fOp dIx (fVar 0) (fVar 2)) (fCons (fOp dIx (fVar 1) (fVar 2)) fNil))))) (sRet (fC (.bl false))) sNext))
    (sRet (fC (.bl true))))))))))))
noncomputable def G__law_same (c : Cl) : List D → S → R D := Gn__law_same c 24
noncomputable def G__law_form (c : Cl) : List D → S → R D := runF 6
  ((sSeq (sIf (fOr (fNot (fTst (fCB (bIsiT c.cs) (fCons (fVar 0) (fCons (fTup (fCons (fC (.ty "list")) (fCons (fC (.ty "tuple")) fNil))) fNil))))) (fTst (fOp dGt (fCB bLen (fCons (fVar 0) fNil)) (fVar 2)))) (sRet (fTup (fCons (fC (.str "form")) (fCons (fNeg (fC (.int 1))) fNil)))) sNext)
    (sSeq (sFor (fRng dRng1 (fCons (fCB bLen (fCons (fVar 0) fNil)) fNil)) (gN 3) (sSeq (sAsg 4 (fOp dIx (fVar 0) (fVar 3)))
    (sSeq (sIf (fOr (fNot (fTst (fCB (bIsi c.cs) (fCons (fVar 4) (fCons (fC (.ty "tuple")) fNil))))) (fTst (fOp (dEqD true) (fCB bLen (fCons (fVar 4) fNil)) (fVar 1)))) (sRet (fTup (fCons (fC (.str "form")) (fCons (fVar 3) fNil)))) sNext)
    (sSeq (sIf (fNot (fTst (fCB bAll (fCons (fLc (fSrc (fVar 4)) (gN 5) fYes (fCall 1 (G__law_integer c) (fCons (fVar 5) fNil)) [5]) fNil)))) (sRet (fTup (fCons (fC (.str "form")) (fCons (fVar 3) fNil)))) sNext)
    (sIf (fOr (fTst (fOp dLt (fOp dIx (fVar 4) (fOp dSub (fVar 1) (fC (.int 1)))) (fC (.int 0)))) (fTst (fOp dGt (fOp dIx (fVar 4) (fOp dSub (fVar 1) (fC (.int 1)))) (fOp dPow (fC (.int 10)) (fC (.int 15)))))) (sRet (fTup (fCons (fC (.str "form")) (fCons (fVar 3) fNil)))) sNext)))))
    (sRet (fC .non)))))
noncomputable def G__law_odd (c : Cl) : List D → S → R D := runF 5
  ((sSeq (sAsg 2 (fOp dAdd (fCB bTuple (fCons (fLc (fRng dRng1 (fCons (fOp dSub (fVar 1) (fC (.int 3))) fNil)) (gN 4) fYes (fC (.int 0)) [4]) fNil)) (fTup (fCons (fC (.int 1)) (fCons (fC (.int 0)) (fCons (fC (.int 5)) fNil))))))
    (sSeq (sAsg 3 (fLst (fCons (fC .non) (fCons (fC (.int 0)) (fCons (fC (.str "row")) (fCons (fTup fNil) (fCons (fCB bList (fCons (fVar 2) fNil)) (fCons (fSl (fVar 2) fNo (fPt (fOp dSub (fVar 1) (fC (.int 1))))) (fCons (fOp dAdd (fVar 2) (fTup (fCons (fC (.int 1)) fNil))) (fCons (fOp dAdd (fSl (fVar 2) fNo (fPt (fOp dSub (fVar 1) (fC (.int 1))))) (fTup (fCons (fC .non) fNil))) fNil))))))))))
    (sSeq (sAsg 3 (fOp dAdd (fVar 3) (fLst (fCons (fOp dAdd (fSl (fVar 2) fNo (fPt (fOp dSub (fVar 1) (fC (.int 1))))) (fTup (fCons (fC (.bl true)) fNil))) (fCons (fOp dAdd (fTup (fCons (fC (.str "1")) fNil)) (fSl (fVar 2) (fPt (fC (.int 1))) fNo)) (fCons (fOp dAdd (fTup (fCons (fC (.bl false)) fNil)) (fSl (fVar 2) (fPt (fC (.int 1))) fNo)) (fCons (fOp dAdd (fSl (fVar 2) fNo (fPt (fOp dSub (fVar 1) (fC (.int 1))))) (fTup (fCons (fNeg (fC (.int 1))) fNil))) fNil)))))))
    (sSeq (sAsg 3 (fOp dAdd (fVar 3) (fLst (fCons (fOp dAdd (fSl (fVar 2) fNo (fPt (fOp dSub (fVar 1) (fC (.int 1))))) (fTup (fCons (fOp dAdd (fOp dPow (fC (.int 10)) (fC (.int 15))) (fC (.int 1))) fNil))) (fCons (fTup (fCons (fVar 2) fNil)) (fCons fDict0 (fCons (fOp dAdd (fSl (fVar 2) fNo (fPt (fOp dSub (fVar 1) (fC (.int 1))))) (fTup (fCons (fTup (fCons (fC (.int 5)) fNil)) fNil))) fNil)))))))
    (sRet (fOp dIx (fVar 3) (fCall 2 (G__law_draw c) (fCons (fVar 0) (fCons (fCB bLen (fCons (fVar 3) fNil)) fNil))))))))))
noncomputable def G__law_changed (c : Cl) : List D → S → R D := runF 7
  ((sSeq (sAsg 3 (fCB bLen (fCons (fVar 1) fNil)))
    (sSeq (sAsg 4 (fOp dIx (fLst (fCons (fOp dSub (fVar 3) (fC (.int 1))) (fCons (fOp dSub (fVar 3) (fC (.int 1))) (fCons (fCall 2 (G__law_draw c) (fCons (fVar 0) (fCons (fVar 3) fNil))) fNil)))) (fCall 2 (G__law_draw c) (fCons (fVar 0) (fCons (fC (.int 3)) fNil)))))
    (sSeq (sAsg 5 (fOp dIx (fVar 1) (fVar 4)))
    (sSeq (sAsg 6 (fLst (fCons (fOp dAdd (fVar 5) (fC (.int 1))) (fCons (fOp dSub (fVar 5) (fC (.int 1))) (fCons (fOp dAdd (fVar 5) (fC (.int 1))) (fCons (fOp dSub (fVar 5) (fC (.int 1))) (fCons (fC (.int 0)) (fCons (fVar 2) (fCons (fNeg (fC (.int 1))) (fCons (fOp dSub (fVar 2) (fC (.int 1))) (fCons (fCall 2 (G__law_draw c) (fCons (fVar 0) (fCons (fOp dAdd (fVar 2) (fC (.int 1))) fNil))) fNil)))))))))))
    (sSeq (sAsg 6 (fOp dAdd (fVar 6) (fLst (fCons (fOp dPow (fC (.int 10)) (fC (.int 15))) (fCons (fOp dAdd (fOp dPow (fC (.int 10)) (fC (.int 15))) (fC (.int 1))) (fCons (fOp dAdd (fVar 5) (fC (.int 2))) (fCons (fCB bMax (fCons (fC (.int 0)) (fCons (fOp dSub (fVar 5) (fC (.int 2))) fNil))) (fCons (fC (.bl true)) (fCons (fOp dPow (fC (.int 10)) (fC (.int 30))) fNil)))))))))
    (sRet (fOp dAdd (fOp dAdd (fSl (fVar 1) fNo (fPt (fVar 4))) (fTup (fCons (fOp dIx (fVar 6) (fCall 2 (G__law_draw c) (fCons (fVar 0) (fCons (fCB bLen (fCons (fVar 6) fNil)) fNil)))) fNil))) (fSl (fVar 1) (fPt (fOp dAdd (fVar 4) (fC (.int 1)))) fNo)))))))))
noncomputable def G__law_spoilt (c : Cl) : List D → S → R D := cutF (runF 9
  ((sSeq (sAsg 4 (fCall 2 (G__law_draw c) (fCons (fVar 0) (fCons (fC (.int 8)) fNil))))
    (sSeq (sAsg 1 (fListT (fCons (fVar 1) fNil)))
    (sSeq (sIf (fOr (fTst (fOp (dEqD false) (fVar 4) (fC (.int 0)))) (fTst (fOp (dEqD false) (fCB bLen (fCons (fVar 1) fNil)) (fC (.int 0))))) (sSeq (sExpr (fMth mInsert (fVar 1) (fCons (fCall 2 (G__law_draw c) (fCons (fVar 0) (fCons (fOp dAdd (fCB bLen (fCons (fVar 1) fNil)) (fC (.int 1))) fNil))) (fCons (fCall 2 (G__law_odd c) (fCons (fVar 0) (fCons (fVar 2) fNil))) fNil))))
    (sRet (fVar 1))) sNext)
    (sSeq (sAsg 5 (fCall 2 (G__law_draw c) (fCons (fVar 0) (fCons (fCB bLen (fCons (fVar 1) fNil)) fNil))))
    (sSeq (sAsg 6 (fOp dIx (fVar 1) (fVar 5)))
    (sSeq (sAsg 7 (fAndV (fCB (bIsi c.cs) (fCons (fVar 6) (fCons (fC (.ty "tuple")) fNil))) (fAndV (fOp (dEqD false) (fCB bLen (fCons (fVar 6) fNil)) (fVar 2)) (fCB bAll (fCons (fLc (fSrc (fVar 6)) (gN 8) fYes (fCall 1 (G__law_integer c) (fCons (fVar 8) fNil)) [8]) fNil)))))
    (sSeq (sIf (fTst (fOp (dEqD false) (fVar 4) (fC (.int 1)))) (sExpr (fMth mPopAt (fVar 1) (fCons (fVar 5) fNil))) (sIf (fTst (fOp (dEqD false) (fVar 4) (fC (.int 2)))) (sExpr (fMth mInsert (fVar 1) (fCons (fCall 2 (G__law_draw c) (fCons (fVar 0) (fCons (fOp dAdd (fCB bLen (fCons (fVar 1) fNil)) (fC (.int 1))) fNil))) (fCons (fVar 6) fNil)))) (sIf (fAnd (fTst (fOp (dEqD false) (fVar 4) (fC (.int 3)))) (fTst (fVar 7))) (sPut dPut (fOp dAdd (fSl (fVar 6) fNo (fPt (fOp dSub (fVar 2) (fC (.int 3))))) (fTup (fCons (fOp dIx (fVar 6) (fOp dSub (fVar 2) (fC (.int 2)))) (fCons (fOp dIx (fVar 6) (fOp dSub (fVar 2) (fC (.int 3)))) (fCons (fOp dIx (fVar 6) (fOp dSub (fVar 2) (fC (.int 1)))) fNil))))) (fVar 1) (fVar 5)) (sIf (fTst (fVar 7)) (sPut dPut (fCall 3 (G__law_changed c) (fCons (fVar 0) (fCons (fVar 6) (fCons (fVar 3) fNil)))) (fVar 1) (fVar 5)) (sPut dPut (fCall 2 (G__law_odd c) (fCons (fVar 0) (fCons (fVar 2) fNil))) (fVar 1) (fVar 5))))))
    (sRet (fVar 1)))))))))))
noncomputable def G__law_rows (c : Cl) : List D → S → R D := cutF (runF 9
  ((sSeq (sAsg 4 (fLstT fNil))
    (sSeq (sFor (fRng dRng1 (fCons (fVar 2) fNil)) (gN 5) (sSeq (sAsg 6 (fCall 2 (G__law_draw c) (fCons (fVar 0) (fCons (fVar 1) fNil))))
    (sSeq (sAsg 7 (fCall 2 (G__law_draw c) (fCons (fVar 0) (fCons (fVar 1) fNil))))
    (sSeq (sIf (fAnd (fTst (fOp (dEqD false) (fVar 7) (fC (.int 0)))) (fTst (fOp (dEqD false) (fVar 3) (fC (.int 0))))) (sAsg 7 (fOp dSub (fVar 1) (fC (.int 1)))) sNext)
    (sSeq (sIf (fAnd (fTst (fOp (dEqD false) (fVar 7) (fVar 6))) (fTst (fOp dGt (fVar 6) (fC (.int 0))))) (sAsg 6 (fOp dSub (fVar 6) (fC (.int 1)))) (sIf (fTst (fOp (dEqD false) (fVar 7) (fVar 6))) (sAsg 7 (fOp dSub (fVar 1) (fC (.int 1)))) sNext))
    (sSeq (sAsg 8 (fOp dIx (fLst (fCons (fCall 2 (G__law_draw c) (fCons (fVar 0) (fCons (fC (.int 30)) fNil))) (fCons (fCall 2 (G__law_wide c) (fCons (fVar 0) (fCons (fOp dAdd (fOp dPow (fC (.int 10)) (fC (.int 15))) (fC (.int 1))) fNil))) (fCons (fOp dPow (fC (.int 10)) (fC (.int 15))) (fCons (fC (.int 0)) fNil))))) (fCall 2 (G__law_draw c) (fCons (fVar 0) (fCons (fC (.int 4)) fNil)))))
    (sIf (fTst (fOp (dEqD false) (fVar 3) (fC (.int 0)))) (sExpr (fApp (fVar 4) (fCons (fTup (fCons (fVar 6) (fCons (fVar 7) (fCons (fVar 8) fNil)))) fNil))) (sExpr (fApp (fVar 4) (fCons (fTup (fCons (fCall 2 (G__law_draw c) (fCons (fVar 0) (fCons (fVar 3) fNil))) (fCons (fVar 6) (fCons (fVar 7) (fCons (fVar 8) fNil))))) fNil))))))))))
    (sRet (fVar 4))))))
noncomputable def G__law_sheet (c : Cl) : List D → S → R D := runF 9
  ((sSeq (sAsg 4 (fLst (fCons (fOp dAdd (fC (.str "machine ")) (fM1 mJoin (fC (.str " ")) (fLc (fSrc (fVar 0)) (gN 6) fYes (fCB bStr (fCons (fVar 6) fNil)) [6]))) (fCons (fOp dAdd (fC (.str "hands ")) (fCB bStr (fCons (fVar 1) fNil))) fNil))))
    (sSeq (sAsg 5 (fC (.str "tell ")))
    (sSeq (sIf (fTst (fOp (dIs true) (fVar 2) (fC .non))) (sSeq (sAsg 4 (fOp dAdd (fVar 4) (fLc (fSrc (fVar 2)) (gN 7) fYes (fOp dAdd (fC (.str "source ")) (fCB bStr (fCons (fVar 7) fNil))) [7])))
    (sAsg 5 (fC (.str "send ")))) sNext)
    (sSeq (sAsg 4 (fOp dAdd (fVar 4) (fLc (fSrc (fVar 3)) (gN 8) fYes (fOp dAdd (fVar 5) (fM1 mJoin (fC (.str " ")) (fLc (fSrc (fVar 8)) (gN 6) fYes (fCB bStr (fCons (fVar 6) fNil)) [6]))) [8])))
    (sRet (fOp dAdd (fM1 mJoin (fC (.str "\n")) (fVar 4)) (fC (.str "\n")))))))))
noncomputable def G__law_case (c : Cl) : List D → S → R D := runF 7
  ((sSeq (sAsg 1 (fCall 1 (G__law_numbers c) (fCons (fVar 0) fNil)))
    (sSeq (sAsg 2 (fOp dIx (fLst (fCons (fC (.int 3)) (fCons (fC (.int 2)) (fCons (fC (.int 5)) (fCons (fC (.int 1)) (fCons (fC (.int 40)) (fCons (fC (.int 100)) fNil))))))) (fCall 2 (G__law_draw c) (fCons (fVar 0) (fCons (fC (.int 6)) fNil)))))
    (sSeq (sAsg 3 (fC .non))
    (sSeq (sIf (fAnd (fTst (fOp dGt (fVar 2) (fC (.int 1)))) (fAnd (fTst (fOp dLt (fVar 2) (fC (.int 41)))) (fTst (fOp (dEqD false) (fCall 2 (G__law_draw c) (fCons (fVar 0) (fCons (fC (.int 2)) fNil))) (fC (.int 0)))))) (sAsg 3 (fLc (fRng dRng1 (fCons (fOp dIx (fLst (fCons (fC (.int 1)) (fCons (fC (.int 2)) (fCons (fC (.int 3)) (fCons (fC (.int 40)) fNil))))) (fCall 2 (G__law_draw c) (fCons (fVar 0) (fCons (fC (.int 4)) fNil)))) fNil)) (gN 6) fYes (fCall 2 (G__law_draw c) (fCons (fVar 0) (fCons (fVar 2) fNil))) [6])) sNext)
    (sSeq (sAsg 4 (fOp dIx (fLst (fCons (fC (.int 2)) (fCons (fC (.int 0)) (fCons (fC (.int 1)) (fCons (fC (.int 4)) (fCons (fC (.int 9)) (fCons (fC (.int 30)) fNil))))))) (fCall 2 (G__law_draw c) (fCons (fVar 0) (fCons (fC (.int 6)) fNil)))))
    (sSeq (sIf (fTst (fOp (dEqD false) (fVar 2) (fC (.int 1)))) (sAsg 4 (fC (.int 0))) sNext)
    (sSeq (sAsg 5 (fC (.int 0)))
    (sSeq (sIf (fTst (fOp (dIs true) (fVar 3) (fC .non))) (sAsg 5 (fCB bLen (fCons (fVar 3) fNil))) sNext)
    (sRet (fTup (fCons (fVar 1) (fCons (fVar 2) (fCons (fVar 3) (fCons (fCall 4 (G__law_rows c) (fCons (fVar 0) (fCons (fVar 2) (fCons (fVar 4) (fCons (fVar 5) fNil))))) fNil)))))))))))))))
noncomputable def G__law_answer (c : Cl) : List D → S → R D := runF 6
  ((sSeq (sTryM [(xsel_InvalidCount c, none, fun a0 C0 d0 => (sRet (fTup (fCons (fC (.str "count")) fNil)))), (xsel_InvalidRows c, some 5, fun a0 C0 d0 => (sRet (fTup (fCons (fC (.str "rows")) (fCons (fXf a0 C0 d0 (xs_at c) "at" (fVar 5)) fNil))))), (xsel_InvalidPlan c, some 5, fun a0 C0 d0 => (sRet (fTup (fCons (fC (.str "plan")) (fCons (fXf a0 C0 d0 (xs_why c) "why" (fVar 5)) (fCons (fXf a0 C0 d0 (xs_at c) "at" (fVar 5)) fNil))))))] (sAsg 4 (fCallK 3 1 [.p 0, .p 1, .p 2, .k 0] [] (G_write_sheet c) (fCons (fVar 0) (fCons (fVar 1) (fCons (fVar 2) fNil))) (fCons (fVar 3) fNil))))
    (sRet (fTup (fCons (fC (.str "told")) (fCons (fVar 4) fNil))))))
noncomputable def G__law_hands_due (c : Cl) : List D → S → R D := runF 6
  ((sSeq (sFor (fRng dRng1 (fCons (fCB bLen (fCons (fVar 0) fNil)) fNil)) (gN 3) (sSeq (sAsgG (gTp (gCn (gN 4) (gCn (gN 5) gNl))) (fSl (fOp dIx (fVar 0) (fVar 3)) (fPt (fNeg (fC (.int 3)))) (fPt (fNeg (fC (.int 1))))))
    (sIf (fOr (fTst (fOp dLt (fVar 4) (fC (.int 0)))) (fOr (fTst (fOp dGe (fVar 4) (fVar 1))) (fOr (fTst (fOp dLt (fVar 5) (fVar 2))) (fOr (fTst (fOp dGe (fVar 5) (fVar 1))) (fTst (fOp (dEqD false) (fVar 4) (fVar 5))))))) (sRet (fTup (fCons (fC (.str "plan")) (fCons (fC (.str "hand")) (fCons (fVar 3) fNil))))) sNext)))
    (sRet (fC .non))))
noncomputable def G__law_rows_due (c : Cl) : List D → S → R D := runF 5
  ((sSeq (sIf (fTst (fOp (dIs false) (fVar 2) (fC .non))) (sAsg 3 (fCall 3 (G__law_form c) (fCons (fVar 0) (fCons (fC (.int 3)) (fCons (fC (.int 400)) fNil))))) (sAsg 3 (fCall 3 (G__law_form c) (fCons (fVar 0) (fCons (fC (.int 4)) (fCons (fC (.int 2000)) fNil))))))
    (sSeq (sIf (fTst (fOp (dIs true) (fVar 3) (fC .non))) (sRet (fTup (fCons (fC (.str "plan")) (fCons (fOp dIx (fVar 3) (fC (.int 0))) (fCons (fOp dIx (fVar 3) (fC (.int 1))) fNil))))) sNext)
    (sSeq (sIf (fTst (fOp (dIs false) (fVar 2) (fC .non))) (sRet (fCall 3 (G__law_hands_due c) (fCons (fVar 0) (fCons (fVar 1) (fCons (fC (.int 1)) fNil))))) sNext)
    (sSeq (sFor (fRng dRng1 (fCons (fCB bLen (fCons (fVar 0) fNil)) fNil)) (gN 4) (sIf (fOr (fTst (fOp dLt (fOp dIx (fOp dIx (fVar 0) (fVar 4)) (fC (.int 0))) (fC (.int 0)))) (fTst (fOp dGe (fOp dIx (fOp dIx (fVar 0) (fVar 4)) (fC (.int 0))) (fCB bLen (fCons (fVar 2) fNil))))) (sRet (fTup (fCons (fC (.str "plan")) (fCons (fC (.str "letter")) (fCons (fVar 4) fNil))))) sNext))
    (sRet (fCall 3 (G__law_hands_due c) (fCons (fVar 0) (fCons (fVar 1) (fCons (fC (.int 0)) fNil))))))))))
noncomputable def G__law_refused (c : Cl) : List D → S → R D := runF 11
  ((sSeq (sAsg 5 (fLst (fCons (fC (.int 0)) (fCons (fC (.int 101)) (fCons (fNeg (fC (.int 1))) (fCons (fC (.bl true)) (fCons (fC .non) (fCons (fC (.str "3")) (fCons (fLst (fCons (fC (.int 3)) fNil)) (fCons (fOp dAdd (fC (.int 101)) (fCall 2 (G__law_wide c) (fCons (fVar 0) (fCons (fOp dPow (fC (.int 10)) (fC (.int 17))) fNil)))) fNil))))))))))
    (sSeq (sAsg 6 (fOp dIx (fVar 5) (fCall 2 (G__law_draw c) (fCons (fVar 0) (fCons (fCB bLen (fCons (fVar 5) fNil)) fNil)))))
    (sSeq (sIf (fOr (fTst (fOp (dEqD true) (fCall 4 (G__law_answer c) (fCons (fVar 1) (fCons (fVar 6) (fCons (fVar 3) (fCons (fVar 4) fNil))))) (fTup (fCons (fC (.str "count")) fNil)))) (fTst (fOp (dEqD true) (fCall 4 (G__law_answer c) (fCons (fVar 1) (fCons (fVar 6) (fCons (fC .non) (fCons (fLst (fCons (fVar 6) fNil)) fNil))))) (fTup (fCons (fC (.str "count")) fNil))))) (sRet (fC (.bl false))) sNext)
    (sSeq (sIf (fTst (fOp (dEqD true) (fCall 4 (G__law_answer c) (fCons (fVar 1) (fCons (fOp dIx (fLst (fCons (fC (.int 1)) (fCons (fC (.int 41)) (fCons (fC (.int 100)) fNil)))) (fCall 2 (G__law_draw c) (fCons (fVar 0) (fCons (fC (.int 3)) fNil)))) (fCons (fVar 3) (fCons (fLst (fCons (fC (.int 0)) fNil)) fNil))))) (fTup (fCons (fC (.str "count")) fNil)))) (sRet (fC (.bl false))) sNext)
    (sSeq (sIf (fTst (fOp (dIs false) (fVar 4) (fC .non))) (sRet (fC (.bl true))) sNext)
    (sSeq (sAsg 7 (fCall 2 (G__law_draw c) (fCons (fVar 0) (fCons (fCB bLen (fCons (fVar 4) fNil)) fNil))))
    (sSeq (sAsg 8 (fOp dAdd (fOp dAdd (fSl (fVar 4) fNo (fPt (fVar 7))) (fLst (fCons (fOp dIx (fLst (fCons (fVar 2) (fCons (fNeg (fC (.int 1))) (fCons (fC .non) (fCons (fC (.bl true)) (fCons (fC (.str "0")) fNil)))))) (fCall 2 (G__law_draw c) (fCons (fVar 0) (fCons (fC (.int 5)) fNil)))) fNil))) (fSl (fVar 4) (fPt (fOp dAdd (fVar 7) (fC (.int 1)))) fNo)))
    (sSeq (sIf (fNot (fTst (fCall 2 (G__law_same c) (fCons (fCall 4 (G__law_answer c) (fCons (fVar 1) (fCons (fVar 2) (fCons (fOp dIx (fLst (fCons (fVar 3) (fCons (fC .non) fNil))) (fCall 2 (G__law_draw c) (fCons (fVar 0) (fCons (fC (.int 2)) fNil)))) (fCons (fVar 8) fNil))))) (fCons (fTup (fCons (fC (.str "rows")) (fCons (fVar 7) fNil))) fNil))))) (sRet (fC (.bl false))) sNext)
    (sSeq (sAsg 9 (fLst (fCons (fLst fNil) (fCons (fTup fNil) (fCons (fC (.int 5)) (fCons (fC (.str "0")) (fCons fDict0 (fCons (fLc (fRng dRng1 (fCons (fC (.int 41)) fNil)) (gN 10) fYes (fC (.int 0)) [10]) (fCons (fC (.bl true)) fNil)))))))))
    (sRet (fCall 2 (G__law_same c) (fCons (fCall 4 (G__law_answer c) (fCons (fVar 1) (fCons (fVar 2) (fCons (fVar 3) (fCons (fOp dIx (fVar 9) (fCall 2 (G__law_draw c) (fCons (fVar 0) (fCons (fC (.int 7)) fNil)))) fNil))))) (fCons (fTup (fCons (fC (.str "rows")) (fCons (fNeg (fC (.int 1))) fNil))) fNil))))))))))))))
noncomputable def G_law (c : Cl) : List D → S → R D := runF 17
  ((sSeq (sAsg 1 (fCall 1 (G__law_source c) (fCons (fVar 0) fNil)))
    (sSeq (sAsgG (gTp (gCn (gN 2) (gCn (gN 3) (gCn (gN 4) (gCn (gN 5) gNl))))) (fCall 1 (G__law_case c) (fCons (fVar 1) fNil)))
    (sSeq (sAsg 6 (fMake c.Machine 4 (G_Machine___init__ c) (fCons (fOp dIx (fVar 2) (fC (.int 0))) (fCons (fOp dIx (fVar 2) (fC (.int 1))) (fCons (fOp dIx (fVar 2) (fC (.int 2))) fNil)))))
    (sSeq (sAsg 7 (fCB bList (fCons (fVar 5) fNil)))
    (sSeq (sAsg 8 (fVar 4))
    (sSeq (sIf (fTst (fOp (dIs true) (fVar 4) (fC .non))) (sAsg 8 (fCB bList (fCons (fVar 4) fNil))) sNext)
    (sSeq (sAsg 9 (fTup (fCons (fC (.str "told")) (fCons (fCall 4 (G__law_sheet c) (fCons (fVar 2) (fCons (fVar 3) (fCons (fVar 4) (fCons (fVar 5) fNil))))) fNil))))
    (sSeq (sIf (fOr (fNot (fTst (fCall 2 (G__law_same c) (fCons (fCall 4 (G__law_answer c) (fCons (fVar 6) (fCons (fVar 3) (fCons (fVar 7) (fCons (fVar 8) fNil))))) (fCons (fVar 9) fNil))))) (fOr (fTst (fOp (dEqD true) (fVar 7) (fVar 5))) (fTst (fOp (dEqD true) (fVar 8) (fVar 4))))) (sRet (fC (.bl false))) sNext)
    (sSeq (sIf (fAnd (fTst (fOp (dIs false) (fVar 4) (fC .non))) (fTst (fOp (dEqD true) (fCallK 3 0 [.p 0, .p 1, .p 2, .d 0] [.non] (G_write_sheet c) (fCons (fVar 6) (fCons (fVar 3) (fCons (fCB bTuple (fCons (fVar 5) fNil)) fNil))) fNil) (fOp dIx (fVar 9) (fC (.int 1)))))) (sRet (fC (.bl false))) sNext)
    (sSeq (sIf (fAnd (fTst (fOp (dIs true) (fVar 4) (fC .non))) (fTst (fOp (dEqD true) (fCallK 3 1 [.p 0, .p 1, .p 2, .k 0] [] (G_write_sheet c) (fCons (fVar 6) (fCons (fVar 3) (fCons (fCB bTuple (fCons (fVar 5) fNil)) fNil))) (fCons (fCB bTuple (fCons (fVar 4) fNil)) fNil)) (fOp dIx (fVar 9) (fC (.int 1)))))) (sRet (fC (.bl false))) sNext)
    (sSeq (sIf (fNot (fTst (fCall 5 (G__law_refused c) (fCons (fVar 1) (fCons (fVar 6) (fCons (fVar 3) (fCons (fVar 5) (fCons (fVar 4) fNil)))))))) (sRet (fC (.bl false))) sNext)
    (sSeq (sAsg 10 (fOp dAdd (fC (.int 3)) (fCB bInt (fCons (fOp (dIs true) (fVar 4) (fC .non)) fNil))))
    (sSeq (sFor (fRng dRng1 (fCons (fC (.int 4)) fNil)) (gN 11) (sSeq (sAsg 12 (fCB bList (fCons (fVar 5) fNil)))
    (sSeq (sFor (fRng dRng1 (fCons (fOp dAdd (fC (.int 1)) (fCall 2 (G__law_draw c) (fCons (fVar 1) (fCons (fC (.int 2)) fNil)))) fNil)) (gN 13) (sAsg 12 (fCall 4 (G__law_spoilt c) (fCons (fVar 1) (fCons (fVar 12) (fCons (fVar 10) (fCons (fVar 3) fNil)))))))
    (sSeq (sAsg 9 (fCall 3 (G__law_rows_due c) (fCons (fVar 12) (fCons (fVar 3) (fCons (fVar 4) fNil)))))
    (sSeq (sIf (fTst (fOp (dIs false) (fVar 9) (fC .non))) (sAsg 9 (fTup (fCons (fC (.str "told")) (fCons (fCall 4 (G__law_sheet c) (fCons (fVar 2) (fCons (fVar 3) (fCons (fVar 4) (fCons (fVar 12) fNil))))) fNil)))) sNext)
    (sIf (fNot (fTst (fCall 2 (G__law_same c) (fCons (fCall 4 (G__law_answer c) (fCons (fVar 6) (fCons (fVar 3) (fCons (fVar 12) (fCons (fVar 4) fNil))))) (fCons (fVar 9) fNil))))) (sRet (fC (.bl false))) sNext))))))
    (sSeq (sAsg 14 (fLst (fCons (fTup (fCons (fC (.str "plan")) (fCons (fC (.str "form")) (fCons (fNeg (fC (.int 1))) fNil)))) (fCons (fTup (fCons (fC (.str "plan")) (fCons (fC (.str "form")) (fCons (fNeg (fC (.int 1))) fNil)))) fNil))))
    (sSeq (sAsg 15 (fLc (fSrc (fLst (fCons (fTup (fCons (fC (.int 0)) (fCons (fC (.int 1)) (fCons (fC (.int 5)) fNil)))) (fCons (fTup (fCons (fC (.int 0)) (fCons (fC (.int 0)) (fCons (fC (.int 1)) (fCons (fC (.int 5)) fNil))))) fNil)))) (gN 16) fYes (fCall 4 (G__law_answer c) (fCons (fVar 6) (fCons (fVar 3) (fCons (fLc (fRng dRng1 (fCons (fC (.int 2001)) fNil)) (gN 11) fYes (fVar 16) [11]) (fCons (fVar 4) fNil))))) [16]))
    (sRet (fOp (dEqD false) (fVar 15) (fVar 14)))))))))))))))))))
end Lw

namespace SI
open PySem L2
section
variable {L : Lc} {s : S} {Q : Cn (D → S → Prop)} {E : Cn (Addr → List Str → List D → S → Prop)}
/-- .. tracked -/
noncomputable def lcTE (q : Tg) (t : F Bool) (f : F D) (vs : List Nat) (L : Lc) (r : Src) (s1 : S) : R D := match lcL q t f r (wipeD L vs) s1.length r.items (s1 ++ [.lst []]) with
  | .ok _ s2 => match s2[s1.length]? with
    | some (.lst _) => .ok (.ref s1.length) s2
    | _ => .bad
  | _ => .bad
theorem w_lcT (fi : F Src) (q : Tg) (t : F Bool) (f : F D) (vs : List Nat) : @WR _ (fLcT fi q t f vs L s) Q E = @WR _ (fi L s) ⟨fun r s1 => @WR _ (lcTE q t f vs L r s1) Q E⟩ E := w_bind ..
theorem w_calm (r : RS) {B : Bs} : @WS (r.calm) B = @WS r { B with ex := fun _ _ _ _ _ => False } := by
  cases r <;> rfl
theorem w_tryM {B : Bs} (hs : List Cld) (b : FS) : @WS (sTryM hs b L s) B = @WS (b L s) { B with ex := fun C fs vs L1 s1 => @WS (tryM hs C fs vs L1 s1) B } := by
  unfold sTryM
  cases b L s <;> rfl
theorem w_tm0 {B : Bs} (C : Addr) (fs : List Str) (vs : List D) : @WS (tryM [] C fs vs L s) B = B.ex C fs vs L s := rfl
theorem w_tmN {B : Bs} (sel : List (Addr × Bool)) (h : Addr → Addr → Option Addr → FS) (r : List Cld) (C : Addr) (fs : List Str) (vs : List D) : @WS (tryM ((sel, none, h) :: r) C fs vs L s) B = @WO _ (selOf sel C) ⟨fun z => @WB z ⟨@WS (hAll fun a od => (h a C od L s).calm) B⟩ ⟨@WS (tryM r C fs vs L s) B⟩⟩ := by
  rw [tryM]
  cases selOf sel C with
  | none => rfl
  | some z => cases z <;> rfl
theorem w_tmS {B : Bs} (sel : List (Addr × Bool)) (i : Nat) (h : Addr → Addr → Option Addr → FS) (r : List Cld) (C : Addr) (fs : List Str) (vs : List D) : @WS (tryM ((sel, some i, h) :: r) C fs vs L s) B = @WO _ (selOf sel C) ⟨fun z => @WB z ⟨@WS (hAll fun a od => (h a C od (L.set i (some (.exc a C od fs vs))) s).drop i) B⟩ ⟨@WS (tryM r C fs vs L s) B⟩⟩ := by
  rw [tryM]
  cases selOf sel C with
  | none => rfl
  | some z => cases z <;> rfl
theorem w_dictT : @WR _ (fDictT L s) Q E = Q (.ref s.length) (s ++ [.dk [] []]) := rfl
theorem w_dictI (i j : Int) : @WR _ (fDictI i j L s) Q E = Q (.ref s.length) (s ++ [.dk [.inl i] [.int j]]) := rfl
noncomputable def getOf (s : S) (d a : D) : Option (Option D) := match dicOf s d, keyD a with
  | some (ks, vs), some k => some (lkD ks vs k)
  | _, _ => none
theorem w_get (fo fk fx : F D) : @WR _ (fGet fo fk fx L s) Q E = @WR _ (fo L s) ⟨fun d s1 => @WO _ (dicOf s1 d) ⟨fun _ => @WR _ (fk L s1) ⟨fun a s2 => @WR _ (fx L s2) ⟨fun x s3 => @WO _ (getOf s3 d a) ⟨fun o => Q (o.getD x) s3⟩⟩ E⟩ E⟩⟩ E := by
  refine (w_bind ..).trans (congrArg (fun z => @WR _ (fo L s) ⟨z⟩ _) ?_)
  funext d s1
  cases dicOf s1 d with
  | none => rfl
  | some z =>
    show @WR _ ((fk L s1).bind _) Q E = @WR _ (fk L s1) _ _
    refine (w_bind ..).trans (congrArg (fun z => @WR _ (fk L s1) ⟨z⟩ _) ?_)
    funext a s2
    refine (w_bind ..).trans (congrArg (fun z => @WR _ (fx L s2) ⟨z⟩ _) ?_)
    funext x s3
    unfold getOf
    cases dicOf s3 d with
    | none => rfl
    | some z =>
      obtain ⟨ks, vs⟩ := z
      cases keyD a <;> rfl
theorem w_lrg1 (f : F D) : @WR _ (fLrg1 f L s) Q E = @WR _ (f L s) ⟨fun d s1 => @WI d ⟨fun n => rg2 0 n = true ∧ Q (.lst (rgItems 0 n.toNat)) s1⟩⟩ E := by
  refine (w_bind ..).trans (congrArg (fun z => @WR _ (f L s) ⟨z⟩ _) ?_)
  funext d s1
  cases d <;> try rfl
  rename_i n
  show @WR _ (if rg2 0 n = true then _ else _) Q E = (_ ∧ _)
  cases rg2 0 n <;> simp [WR]
theorem w_lrg1T (f : F D) : @WR _ (fLrg1T f L s) Q E = @WR _ (f L s) ⟨fun d s1 => @WI d ⟨fun n => rg2 0 n = true ∧ Q (.ref s1.length) (s1 ++ [.lst (rgItems 0 n.toNat)])⟩⟩ E := by
  refine (w_bind ..).trans (congrArg (fun z => @WR _ (f L s) ⟨z⟩ _) ?_)
  funext d s1
  cases d <;> try rfl
  rename_i n
  show @WR _ (if rg2 0 n = true then _ else _) Q E = (_ ∧ _)
  cases rg2 0 n <;> simp [WR]
theorem w_lrg2 (f g : F D) : @WR _ (fLrg2 f g L s) Q E = @WR _ (f L s) ⟨fun d s1 => @WR _ (g L s1) ⟨fun e s2 => @WI d ⟨fun m => @WI e ⟨fun n => rg2 m n = true ∧ Q (.lst (rgItems m (n - m).toNat)) s2⟩⟩⟩ E⟩ E := by
  refine (w_bind ..).trans (congrArg (fun z => @WR _ (f L s) ⟨z⟩ _) ?_)
  funext d s1
  refine (w_bind ..).trans (congrArg (fun z => @WR _ (g L s1) ⟨z⟩ _) ?_)
  funext e s2
  cases d <;> cases e <;> try rfl
  rename_i m n
  show @WR _ (if rg2 m n = true then _ else _) Q E = (_ ∧ _)
  cases rg2 m n <;> simp [WR]
theorem w_lrg2T (f g : F D) : @WR _ (fLrg2T f g L s) Q E = @WR _ (f L s) ⟨fun d s1 => @WR _ (g L s1) ⟨fun e s2 => @WI d ⟨fun m => @WI e ⟨fun n => rg2 m n = true ∧ Q (.ref s2.length) (s2 ++ [.lst (rgItems m (n - m).toNat)])⟩⟩⟩ E⟩ E := by
  refine (w_bind ..).trans (congrArg (fun z => @WR _ (f L s) ⟨z⟩ _) ?_)
  funext d s1
  refine (w_bind ..).trans (congrArg (fun z => @WR _ (g L s1) ⟨z⟩ _) ?_)
  funext e s2
  cases d <;> cases e <;> try rfl
  rename_i m n
  show @WR _ (if rg2 m n = true then _ else _) Q E = (_ ∧ _)
  cases rg2 m n <;> simp [WR]
noncomputable def popOf (s : S) (d : D) : Option (D × S) := match d with
  | .ref n => match s[n]? with
    | some (.lst xs) => match xs[xs.length - 1]? with
      | some y => some (y, s.set n (.lst xs.dropLast))
      | none => none
    | _ => none
  | _ => none
theorem w_pop0 (fo : F D) : @WR _ (fPop0 fo L s) Q E = @WR _ (fo L s) ⟨fun d s1 => @WO _ (popOf s1 d) ⟨fun z => Q z.1 z.2⟩⟩ E := by
  refine (w_bind ..).trans (congrArg (fun z => @WR _ (fo L s) ⟨z⟩ _) ?_)
  funext d s1
  cases d <;> try rfl
  rename_i n
  unfold popOf
  dsimp only
  cases s1[n]? with
  | none => rfl
  | some o =>
    cases o <;> try rfl
    rename_i xs
    dsimp only
    cases xs[xs.length - 1]? <;> rfl
theorem w_slT (f : F D) (l h : F (Option Int)) : @WR _ (fSlT f l h L s) Q E = @WR _ (f L s) ⟨fun d s1 => @WR _ (l L s1) ⟨fun lo s2 => @WR _ (h L s2) ⟨fun hi s3 => @WO _ (lstOf s3 d) ⟨fun xs => Q (.ref s3.length) (s3 ++ [.lst (cutD xs lo hi)])⟩⟩ E⟩ E⟩ E := by
  refine (w_bind ..).trans (congrArg (fun z => @WR _ (f L s) ⟨z⟩ _) ?_)
  funext d s1
  refine (w_bind ..).trans (congrArg (fun z => @WR _ (l L s1) ⟨z⟩ _) ?_)
  funext lo s2
  refine (w_bind ..).trans (congrArg (fun z => @WR _ (h L s2) ⟨z⟩ _) ?_)
  funext hi s3
  cases lstOf s3 d <;> rfl
theorem w_addT (f g : F D) : @WR _ (fAddT f g L s) Q E = @WR _ (f L s) ⟨fun a s1 => @WR _ (g L s1) ⟨fun b s2 => @WO _ (lsO s2 a) ⟨fun xs => @WO _ (lsO s2 b) ⟨fun ys => xs.length + ys.length ≤ big ∧ Q (.ref s2.length) (s2 ++ [.lst (xs ++ ys)])⟩⟩⟩ E⟩ E := by
  refine (w_bind ..).trans (congrArg (fun z => @WR _ (f L s) ⟨z⟩ _) ?_)
  funext a s1
  refine (w_bind ..).trans (congrArg (fun z => @WR _ (g L s1) ⟨z⟩ _) ?_)
  funext b s2
  cases lsO s2 a with
  | none => rfl
  | some xs =>
    cases lsO s2 b with
    | none => rfl
    | some ys =>
      show @WR _ (if xs.length + ys.length ≤ big then _ else _) Q E = (_ ∧ _)
      by_cases h : xs.length + ys.length ≤ big
      · simp only [h, if_true, true_and]
        rfl
      · simp only [h, if_false, false_and]
        rfl
theorem w_mth (m : S → D → List D → Option (D × S)) (fo : F D) (fa : F (List D)) : @WR _ (fMth m fo fa L s) Q E = @WR _ (fo L s) ⟨fun d s1 => @WO _ (lstOf s1 d) ⟨fun _ => @WR _ (fa L s1) ⟨fun ds s2 => @WO _ (m s2 d ds) ⟨fun z => Q z.1 z.2⟩⟩ E⟩⟩ E := by
  refine (w_bind ..).trans (congrArg (fun z => @WR _ (fo L s) ⟨z⟩ _) ?_)
  funext d s1
  cases lstOf s1 d with
  | none => rfl
  | some _ =>
    refine (w_bind ..).trans (congrArg (fun z => @WR _ (fa L s1) ⟨z⟩ _) ?_)
    funext ds s2
    cases m s2 d ds <;> rfl
end
theorem bMin_int (s : S) (i j : Int) : bMin s [.int i, .int j] = some (.int (min i j)) := by
  show some (D.int (if j < i then j else i)) = _
  congr 2
  omega
theorem bMax_int (s : S) (i j : Int) : bMax s [.int i, .int j] = some (.int (max i j)) := by
  show some (D.int (if j > i then j else i)) = _
  congr 2
  omega
theorem bAbs_int (s : S) (i : Int) : bAbs s [.int i] = some (.int (i.natAbs : Int)) := by
  show some (D.int (if i < 0 then -i else i)) = _
  congr 2
  omega
theorem dIs_non (neg : Bool) (s : S) : dIs neg s .non .non = some (.bl (!neg)) := by cases neg <;> rfl
theorem dIs_int (neg : Bool) (s : S) (i : Int) : dIs neg s (.int i) .non = some (.bl neg) := by cases neg <;> rfl
theorem dIs_nn {neg : Bool} {s : S} {d : D} (h : d ≠ .non) : dIs neg s d .non = some (.bl neg) := by
  unfold dIs
  rw [decide_eq_false h]
  cases neg <;> rfl
theorem iSeq_lst (s : S) (xs : List D) : iSeq s (.lst xs) = some ⟨xs, none⟩ := rfl
theorem iSeq_tup (s : S) (xs : List D) : iSeq s (.tup xs) = some ⟨xs, none⟩ := rfl
theorem iSeq_rdl (s : S) (xs : List D) : iSeq s (.rdl xs) = some ⟨xs, none⟩ := rfl
theorem iEnu_lst (s : S) (xs : List D) : iEnu s (.lst xs) = some ⟨enumI 0 xs, none⟩ := rfl
theorem iEnu_tup (s : S) (xs : List D) : iEnu s (.tup xs) = some ⟨enumI 0 xs, none⟩ := rfl
theorem rg_ok {i : Int} (h0 : -4611686018427387904 ≤ i) (h1 : i < 4611686018427387904) : rgOk i = true := by
  unfold rgOk
  rw [decide_eq_true_eq]
  omega
theorem rng1 {j : Int} (h0 : -4611686018427387904 ≤ j) (h1 : j < 4611686018427387904) : dRng1 [.int j] = some ⟨rgItems 0 j.toNat, none⟩ := by
  show (if rgOk j = true then _ else _) = _
  rw [if_pos (rg_ok h0 h1)]
theorem dMul_ok {s : S} {i j : Int} {a b : Nat} (ha : i.natAbs.log2 ≤ a) (hb : j.natAbs.log2 ≤ b) (h : a + b < 100000000) : dMul s (.int i) (.int j) = some (.int (i * j)) := by
  rw [dMul_int, if_pos (mulOk_log ha hb h)]
/-- numbers of everyday size -/
theorem dMul_small {s : S} {i j : Int} (h0 : -(10 ^ 60) ≤ i) (h1 : i ≤ 10 ^ 60) (h2 : -(10 ^ 60) ≤ j) (h3 : j ≤ 10 ^ 60) : dMul s (.int i) (.int j) = some (.int (i * j)) := by
  have k : ∀ x : Int, -(10 ^ 60) ≤ x → x ≤ 10 ^ 60 → x.natAbs.log2 ≤ 250 := fun x a b => by
    refine Nat.le_of_lt (log2_small (by decide) ?_)
    have e : (10 : Int) ^ 60 < 2 ^ 250 := by decide +kernel
    have : x.natAbs ≤ 10 ^ 60 := by omega
    have e2 : 10 ^ 60 < 2 ^ 250 := by decide +kernel
    omega
  exact dMul_ok (k i h0 h1) (k j h2 h3) (by decide)
/-! names side by side, setdefault, a dict of one entry, max with a default -/
section
variable {L : Lc} {s : S} {B : Bs} {Q : Cn (D → S → Prop)} {E : Cn (Addr → List Str → List D → S → Prop)}
noncomputable def nth2 : List D → Option (D × D)
  | [v, w] => some (v, w)
  | _ => none
noncomputable def nth3 : List D → Option (D × D × D)
  | [u, v, w] => some (u, v, w)
  | _ => none
theorem nth2_eq (v w : D) : nth2 [v, w] = some (v, w) := rfl
theorem nth3_eq (u v w : D) : nth3 [u, v, w] = some (u, v, w) := rfl
theorem w_par2 (i j : Nat) (fa : F (List D)) : @WS (sPar2 i j fa L s) B = @WR _ (fa L s) ⟨fun ds s1 => @WO _ (nth2 ds) ⟨fun p => @WL ((L.set i (some p.1)).set j (some p.2)) ⟨fun L' => B.nx L' s1⟩⟩⟩ ⟨fun C fs vs s => B.ex C fs vs L s⟩ := by
  refine (w_bindS ..).trans (congrArg (fun z => @WR _ (fa L s) ⟨z⟩ _) ?_)
  funext ds s1
  rcases ds with _ | ⟨a, _ | ⟨b, _ | ⟨d, ds⟩⟩⟩ <;> rfl
theorem w_par3 (i j k : Nat) (fa : F (List D)) : @WS (sPar3 i j k fa L s) B = @WR _ (fa L s) ⟨fun ds s1 => @WO _ (nth3 ds) ⟨fun p => @WL (((L.set i (some p.1)).set j (some p.2.1)).set k (some p.2.2)) ⟨fun L' => B.nx L' s1⟩⟩⟩ ⟨fun C fs vs s => B.ex C fs vs L s⟩ := by
  refine (w_bindS ..).trans (congrArg (fun z => @WR _ (fa L s) ⟨z⟩ _) ?_)
  funext ds s1
  rcases ds with _ | ⟨a, _ | ⟨b, _ | ⟨d, _ | ⟨e, ds⟩⟩⟩⟩ <;> rfl
noncomputable def isDk (n : Nat) (s : S) : Bool := match s[n]? with
  | some (.dk _ _) => true
  | _ => false
noncomputable def setdOf (n : Nat) (a x : D) (s : S) : Option (D × S) := match s[n]?, keyD a with
  | some (.dk ks vs), some k => if ks.Nodup ∧ ks.length < big then match lkD ks vs k with
      | some v => some (v, s)
      | none => some (x, s.set n (.dk (ptD ks vs k x).1 (ptD ks vs k x).2))
    else none
  | _, _ => none
theorem w_setd (fo fk fx : F D) : @WR _ (fSetd fo fk fx L s) Q E = @WR _ (fo L s) ⟨fun d s1 => @WN d ⟨fun n => isDk n s1 = true ∧ @WR _ (fk L s1) ⟨fun a s2 => @WR _ (fx L s2) ⟨fun x s3 => @WO _ (setdOf n a x s3) ⟨fun r => Q r.1 r.2⟩⟩ E⟩ E⟩⟩ E := by
  refine (w_bind ..).trans (congrArg (fun z => @WR _ (fo L s) ⟨z⟩ _) ?_)
  funext d s1
  cases d <;> try rfl
  rename_i n
  show @WR _ (match s1[n]? with
    | some (.dk _ _) => _
    | _ => .bad) Q E = (isDk n s1 = true ∧ _)
  unfold isDk
  cases s1[n]? with
  | none => simp only [Bool.false_eq_true, false_and]; rfl
  | some o =>
    cases o <;> try (simp only [Bool.false_eq_true, false_and]; rfl)
    simp only [true_and]
    refine (w_bind ..).trans (congrArg (fun z => @WR _ (fk L s1) ⟨z⟩ _) ?_)
    funext a s2
    refine (w_bind ..).trans (congrArg (fun z => @WR _ (fx L s2) ⟨z⟩ _) ?_)
    funext x s3
    unfold setdOf
    cases s3[n]? with
    | none => rfl
    | some o2 =>
      cases o2 <;> try rfl
      rename_i ks vs
      cases keyD a with
      | none => rfl
      | some k =>
        dsimp only
        by_cases h : ks.Nodup ∧ ks.length < big
        · rw [if_pos h, if_pos h]
          cases lkD ks vs k <;> rfl
        · rw [if_neg h, if_neg h]
          rfl
noncomputable def dict1Of (n : Nat) (i : Int) (d : D) (s : S) : Option S := match s[n]? with
  | some (.dk [] []) => some (s.set n (.dk [.inl i] [d]))
  | _ => none
theorem w_dict1 (i : Int) (f : F D) : @WR _ (fDict1 i f L s) Q E = @WR _ (f L (s ++ [.dk [] []])) ⟨fun d s2 => @WO _ (dict1Of s.length i d s2) ⟨fun s' => Q (.ref s.length) s'⟩⟩ E := by
  refine (w_bind ..).trans (congrArg (fun z => @WR _ (f L (s ++ [.dk [] []])) ⟨z⟩ _) ?_)
  funext d s2
  unfold dict1Of
  cases s2[s.length]? with
  | none => rfl
  | some o =>
    cases o <;> try rfl
    rename_i ks vs
    cases ks <;> cases vs <;> rfl
theorem w_maxDf (fa fk : F (List D)) : @WR _ (fMaxDf fa fk L s) Q E = @WR _ (fa L s) ⟨fun ds s1 => @WR _ (fk L s1) ⟨fun xs s2 => @WO _ (mxOf s2 ds xs) ⟨fun d => Q d s2⟩⟩ E⟩ E := by
  refine (w_bind ..).trans (congrArg (fun z => @WR _ (fa L s) ⟨z⟩ _) ?_)
  funext ds s1
  refine (w_bind ..).trans (congrArg (fun z => @WR _ (fk L s1) ⟨z⟩ _) ?_)
  funext xs s2
  cases mxOf s2 ds xs <;> rfl
theorem w_srtT (fa : F (List D)) : @WR _ (fSrtT fa L s) Q E = @WR _ (fa L s) ⟨fun ds s1 => @WO _ (srtOf s1 ds) ⟨fun xs => Q (.ref s1.length) (s1 ++ [.lst xs])⟩⟩ E := by
  refine (w_bind ..).trans (congrArg (fun z => @WR _ (fa L s) ⟨z⟩ _) ?_)
  funext ds s1
  cases srtOf s1 ds <;> rfl
end
end SI

/-! binomials, and rows of turns by their sums: plain -/
local macro_rules
  | `(tactic| simp_arith [$xs,*]) => `(tactic| simp (implicitDefEqProofs := false) only [$xs,*, ↓SI.w_srtT, ↓SI.w_par2, ↓SI.w_par3, ↓SI.w_setd, ↓SI.w_dict1, ↓SI.w_maxDf, ↓SI.w_slT, ↓SI.w_addT, ↓SI.w_dictT, ↓SI.w_dictI, ↓SI.w_get, ↓SI.w_lrg1T, ↓SI.w_lrg2T, ↓SI.w_lrg1, ↓SI.w_lrg2, ↓SI.w_pop0, ↓SI.w_lcT, ↓SI.w_mth, ↓SI.w_calm, ↓SI.w_tryM, ↓SI.w_tm0, ↓SI.w_tmN, ↓SI.w_tmS, ↓SI.w_seq, ↓SI.w_next, ↓SI.w_break, ↓SI.w_cont, ↓SI.w_retN, ↓SI.w_asg, ↓SI.w_expr, ↓SI.w_ret, ↓SI.w_if, ↓SI.w_asgG, ↓SI.w_for, ↓SI.w_put, ↓SI.w_aug, ↓SI.w_augS, ↓SI.w_raise0, ↓SI.w_raise1, ↓SI.w_raise2, ↓SI.w_try, ↓SI.w_tryAs, ↓SI.w_var, ↓SI.w_c, ↓SI.w_op, ↓SI.w_chain, ↓SI.w_notV, ↓SI.w_andV, ↓SI.w_orV, ↓SI.w_ifE, ↓SI.w_tst, ↓SI.w_not, ↓SI.w_and, ↓SI.w_or, ↓SI.w_yes, ↓SI.w_nil, ↓SI.w_cons, ↓SI.w_tup, ↓SI.w_lst, ↓SI.w_lstT, ↓SI.w_cb, ↓SI.w_call, ↓SI.w_callK, ↓SI.w_neg, ↓SI.w_no, ↓SI.w_pt, ↓SI.w_sl, ↓SI.w_fld, ↓SI.w_src, ↓SI.w_rng, ↓SI.w_enu, ↓SI.w_listT, ↓SI.w_app, ↓SI.w_lc, ↓SI.w_xf, ↓SI.w_fldT, ↓SI.w_make, ↓SI.w_makeL, ↓SI.w_run, ↓SI.w_cut, ↓SI.w_pure, ↓SI.w_drop, SI.nth2_eq, SI.nth3_eq, SI.w_ok, SI.w_ex, SI.w_nx, SI.w_rt, SI.w_bk, SI.w_ct, SI.w_exS, SI.w_some, SI.w_v, SI.w_tr, SI.w_fa, SI.w_tb, SI.w_ti, SI.w_tn, SI.w_L, SI.w_L0, SI.wb_not, SI.cn_f, SI.startD, SI.arr, SI.gN_eq, SI.gTp, SI.gCn, SI.gNl, Option.bind_some, List.filterMap_cons, List.filterMap_nil, List.map_cons, List.map_nil, List.replicate_succ, List.replicate_zero, List.cons_append, List.nil_append, List.getElem?_cons_zero, List.getElem?_cons_succ, List.set_cons_zero, List.set_cons_succ, List.length_cons, List.length_nil, Nat.reduceAdd, Nat.reduceSub, Nat.reduceLeDiff, Nat.reduceEqDiff, Int.reducePow, Int.reduceToNat, Int.reduceNeg, Int.reduceAdd, Int.reduceMul, Int.reduceSub, Int.reduceLT, Int.reduceLE, Int.reduceEq, Nat.zero_add, Int.zero_add, SI.big_eq, true_and, and_true, and_self, SI.dSub_int, SI.dAdd_int, SI.dAddI_int, SI.dLt_int, SI.dLe_int, SI.dGt_int, SI.dGe_int, SI.dEqD_int, SI.bInt_int, SI.bLen_lst, SI.bLen_tup, SI.bMin_int, SI.bMax_int, SI.bAbs_int, SI.dIs_non, SI.dIs_int, SI.dIs_nn, Bool.not_true, Bool.not_false, decide_true, decide_false, reduceIte, Bool.false_eq_true, if_false, if_true, SI.iSeq_lst, SI.iSeq_tup, SI.iSeq_rdl, SI.iEnu_lst, SI.iEnu_tup])
local macro_rules
  | `(tactic| simp_arith) => `(tactic| simp (implicitDefEqProofs := false) only [↓SI.w_srtT, ↓SI.w_par2, ↓SI.w_par3, ↓SI.w_setd, ↓SI.w_dict1, ↓SI.w_maxDf, ↓SI.w_slT, ↓SI.w_addT, ↓SI.w_dictT, ↓SI.w_dictI, ↓SI.w_get, ↓SI.w_lrg1T, ↓SI.w_lrg2T, ↓SI.w_lrg1, ↓SI.w_lrg2, ↓SI.w_pop0, ↓SI.w_lcT, ↓SI.w_mth, ↓SI.w_calm, ↓SI.w_tryM, ↓SI.w_tm0, ↓SI.w_tmN, ↓SI.w_tmS, ↓SI.w_seq, ↓SI.w_next, ↓SI.w_break, ↓SI.w_cont, ↓SI.w_retN, ↓SI.w_asg, ↓SI.w_expr, ↓SI.w_ret, ↓SI.w_if, ↓SI.w_asgG, ↓SI.w_for, ↓SI.w_put, ↓SI.w_aug, ↓SI.w_augS, ↓SI.w_raise0, ↓SI.w_raise1, ↓SI.w_raise2, ↓SI.w_try, ↓SI.w_tryAs, ↓SI.w_var, ↓SI.w_c, ↓SI.w_op, ↓SI.w_chain, ↓SI.w_notV, ↓SI.w_andV, ↓SI.w_orV, ↓SI.w_ifE, ↓SI.w_tst, ↓SI.w_not, ↓SI.w_and, ↓SI.w_or, ↓SI.w_yes, ↓SI.w_nil, ↓SI.w_cons, ↓SI.w_tup, ↓SI.w_lst, ↓SI.w_lstT, ↓SI.w_cb, ↓SI.w_call, ↓SI.w_callK, ↓SI.w_neg, ↓SI.w_no, ↓SI.w_pt, ↓SI.w_sl, ↓SI.w_fld, ↓SI.w_src, ↓SI.w_rng, ↓SI.w_enu, ↓SI.w_listT, ↓SI.w_app, ↓SI.w_lc, ↓SI.w_xf, ↓SI.w_fldT, ↓SI.w_make, ↓SI.w_makeL, ↓SI.w_run, ↓SI.w_cut, ↓SI.w_pure, ↓SI.w_drop, SI.nth2_eq, SI.nth3_eq, SI.w_ok, SI.w_ex, SI.w_nx, SI.w_rt, SI.w_bk, SI.w_ct, SI.w_exS, SI.w_some, SI.w_v, SI.w_tr, SI.w_fa, SI.w_tb, SI.w_ti, SI.w_tn, SI.w_L, SI.w_L0, SI.wb_not, SI.cn_f, SI.startD, SI.arr, SI.gN_eq, SI.gTp, SI.gCn, SI.gNl, Option.bind_some, List.filterMap_cons, List.filterMap_nil, List.map_cons, List.map_nil, List.replicate_succ, List.replicate_zero, List.cons_append, List.nil_append, List.getElem?_cons_zero, List.getElem?_cons_succ, List.set_cons_zero, List.set_cons_succ, List.length_cons, List.length_nil, Nat.reduceAdd, Nat.reduceSub, Nat.reduceLeDiff, Nat.reduceEqDiff, Int.reducePow, Int.reduceToNat, Int.reduceNeg, Int.reduceAdd, Int.reduceMul, Int.reduceSub, Int.reduceLT, Int.reduceLE, Int.reduceEq, Nat.zero_add, Int.zero_add, SI.big_eq, true_and, and_true, and_self, SI.dSub_int, SI.dAdd_int, SI.dAddI_int, SI.dLt_int, SI.dLe_int, SI.dGt_int, SI.dGe_int, SI.dEqD_int, SI.bInt_int, SI.bLen_lst, SI.bLen_tup, SI.bMin_int, SI.bMax_int, SI.bAbs_int, SI.dIs_non, SI.dIs_int, SI.dIs_nn, Bool.not_true, Bool.not_false, decide_true, decide_false, reduceIte, Bool.false_eq_true, if_false, if_true, SI.iSeq_lst, SI.iSeq_tup, SI.iSeq_rdl, SI.iEnu_lst, SI.iEnu_tup])
local macro_rules
  | `(tactic| simp_all_arith [$xs,*]) => `(tactic| simp (implicitDefEqProofs := false) only [$xs,*, ↓SI.w_srtT, ↓SI.w_par2, ↓SI.w_par3, ↓SI.w_setd, ↓SI.w_dict1, ↓SI.w_maxDf, ↓SI.w_slT, ↓SI.w_addT, ↓SI.w_dictT, ↓SI.w_dictI, ↓SI.w_get, ↓SI.w_lrg1T, ↓SI.w_lrg2T, ↓SI.w_lrg1, ↓SI.w_lrg2, ↓SI.w_pop0, ↓SI.w_lcT, ↓SI.w_mth, ↓SI.w_calm, ↓SI.w_tryM, ↓SI.w_tm0, ↓SI.w_tmN, ↓SI.w_tmS, ↓SI.w_next, ↓SI.w_break, ↓SI.w_cont, ↓SI.w_retN, ↓SI.w_asg, ↓SI.w_expr, ↓SI.w_ret, ↓SI.w_if, ↓SI.w_asgG, ↓SI.w_for, ↓SI.w_put, ↓SI.w_aug, ↓SI.w_augS, ↓SI.w_raise0, ↓SI.w_raise1, ↓SI.w_raise2, ↓SI.w_try, ↓SI.w_tryAs, ↓SI.w_var, ↓SI.w_c, ↓SI.w_op, ↓SI.w_chain, ↓SI.w_notV, ↓SI.w_andV, ↓SI.w_orV, ↓SI.w_ifE, ↓SI.w_tst, ↓SI.w_not, ↓SI.w_and, ↓SI.w_or, ↓SI.w_yes, ↓SI.w_nil, ↓SI.w_cons, ↓SI.w_tup, ↓SI.w_lst, ↓SI.w_lstT, ↓SI.w_cb, ↓SI.w_call, ↓SI.w_callK, ↓SI.w_neg, ↓SI.w_no, ↓SI.w_pt, ↓SI.w_sl, ↓SI.w_fld, ↓SI.w_src, ↓SI.w_rng, ↓SI.w_enu, ↓SI.w_listT, ↓SI.w_app, ↓SI.w_lc, ↓SI.w_xf, ↓SI.w_fldT, ↓SI.w_make, ↓SI.w_makeL, ↓SI.w_run, ↓SI.w_cut, ↓SI.w_pure, ↓SI.w_drop, ↓SI.wq_asg, ↓SI.wq_asgG, ↓SI.wq_expr, ↓SI.wq_put, ↓SI.wq_aug, ↓SI.wq_augS, ↓SI.wq_for, SI.nth2_eq, SI.nth3_eq, SI.w_ok, SI.w_ex, SI.w_nx, SI.w_rt, SI.w_bk, SI.w_ct, SI.w_exS, SI.w_some, SI.w_v, SI.w_tr, SI.w_fa, SI.w_tb, SI.w_ti, SI.w_tn, SI.w_L, SI.w_L0, SI.wb_not, SI.cn_f, SI.startD, SI.arr, SI.gN_eq, SI.gTp, SI.gCn, SI.gNl, Option.bind_some, List.filterMap_cons, List.filterMap_nil, List.map_cons, List.map_nil, List.replicate_succ, List.replicate_zero, List.cons_append, List.nil_append, List.getElem?_cons_zero, List.getElem?_cons_succ, List.set_cons_zero, List.set_cons_succ, List.length_cons, List.length_nil, Nat.reduceAdd, Nat.reduceSub, Nat.reduceLeDiff, Nat.reduceEqDiff, Int.reducePow, Int.reduceToNat, Int.reduceNeg, Int.reduceAdd, Int.reduceMul, Int.reduceSub, Int.reduceLT, Int.reduceLE, Int.reduceEq, Nat.zero_add, Int.zero_add, SI.big_eq, true_and, and_true, and_self, SI.dSub_int, SI.dAdd_int, SI.dAddI_int, SI.dLt_int, SI.dLe_int, SI.dGt_int, SI.dGe_int, SI.dEqD_int, SI.bInt_int, SI.bLen_lst, SI.bLen_tup, SI.bMin_int, SI.bMax_int, SI.bAbs_int, SI.dIs_non, SI.dIs_int, SI.dIs_nn, Bool.not_true, Bool.not_false, decide_true, decide_false, reduceIte, Bool.false_eq_true, if_false, if_true, SI.iSeq_lst, SI.iSeq_tup, SI.iSeq_rdl, SI.iEnu_lst, SI.iEnu_tup])
local macro_rules
  | `(tactic| simp_all_arith) => `(tactic| simp (implicitDefEqProofs := false) only [↓SI.w_srtT, ↓SI.w_par2, ↓SI.w_par3, ↓SI.w_setd, ↓SI.w_dict1, ↓SI.w_maxDf, ↓SI.w_slT, ↓SI.w_addT, ↓SI.w_dictT, ↓SI.w_dictI, ↓SI.w_get, ↓SI.w_lrg1T, ↓SI.w_lrg2T, ↓SI.w_lrg1, ↓SI.w_lrg2, ↓SI.w_pop0, ↓SI.w_lcT, ↓SI.w_mth, ↓SI.w_calm, ↓SI.w_tryM, ↓SI.w_tm0, ↓SI.w_tmN, ↓SI.w_tmS, ↓SI.w_next, ↓SI.w_break, ↓SI.w_cont, ↓SI.w_retN, ↓SI.w_asg, ↓SI.w_expr, ↓SI.w_ret, ↓SI.w_if, ↓SI.w_asgG, ↓SI.w_for, ↓SI.w_put, ↓SI.w_aug, ↓SI.w_augS, ↓SI.w_raise0, ↓SI.w_raise1, ↓SI.w_raise2, ↓SI.w_try, ↓SI.w_tryAs, ↓SI.w_var, ↓SI.w_c, ↓SI.w_op, ↓SI.w_chain, ↓SI.w_notV, ↓SI.w_andV, ↓SI.w_orV, ↓SI.w_ifE, ↓SI.w_tst, ↓SI.w_not, ↓SI.w_and, ↓SI.w_or, ↓SI.w_yes, ↓SI.w_nil, ↓SI.w_cons, ↓SI.w_tup, ↓SI.w_lst, ↓SI.w_lstT, ↓SI.w_cb, ↓SI.w_call, ↓SI.w_callK, ↓SI.w_neg, ↓SI.w_no, ↓SI.w_pt, ↓SI.w_sl, ↓SI.w_fld, ↓SI.w_src, ↓SI.w_rng, ↓SI.w_enu, ↓SI.w_listT, ↓SI.w_app, ↓SI.w_lc, ↓SI.w_xf, ↓SI.w_fldT, ↓SI.w_make, ↓SI.w_makeL, ↓SI.w_run, ↓SI.w_cut, ↓SI.w_pure, ↓SI.w_drop, ↓SI.wq_asg, ↓SI.wq_asgG, ↓SI.wq_expr, ↓SI.wq_put, ↓SI.wq_aug, ↓SI.wq_augS, ↓SI.wq_for, SI.nth2_eq, SI.nth3_eq, SI.w_ok, SI.w_ex, SI.w_nx, SI.w_rt, SI.w_bk, SI.w_ct, SI.w_exS, SI.w_some, SI.w_v, SI.w_tr, SI.w_fa, SI.w_tb, SI.w_ti, SI.w_tn, SI.w_L, SI.w_L0, SI.wb_not, SI.cn_f, SI.startD, SI.arr, SI.gN_eq, SI.gTp, SI.gCn, SI.gNl, Option.bind_some, List.filterMap_cons, List.filterMap_nil, List.map_cons, List.map_nil, List.replicate_succ, List.replicate_zero, List.cons_append, List.nil_append, List.getElem?_cons_zero, List.getElem?_cons_succ, List.set_cons_zero, List.set_cons_succ, List.length_cons, List.length_nil, Nat.reduceAdd, Nat.reduceSub, Nat.reduceLeDiff, Nat.reduceEqDiff, Int.reducePow, Int.reduceToNat, Int.reduceNeg, Int.reduceAdd, Int.reduceMul, Int.reduceSub, Int.reduceLT, Int.reduceLE, Int.reduceEq, Nat.zero_add, Int.zero_add, SI.big_eq, true_and, and_true, and_self, SI.dSub_int, SI.dAdd_int, SI.dAddI_int, SI.dLt_int, SI.dLe_int, SI.dGt_int, SI.dGe_int, SI.dEqD_int, SI.bInt_int, SI.bLen_lst, SI.bLen_tup, SI.bMin_int, SI.bMax_int, SI.bAbs_int, SI.dIs_non, SI.dIs_int, SI.dIs_nn, Bool.not_true, Bool.not_false, decide_true, decide_false, reduceIte, Bool.false_eq_true, if_false, if_true, SI.iSeq_lst, SI.iSeq_tup, SI.iSeq_rdl, SI.iEnu_lst, SI.iEnu_tup])
namespace Mt
noncomputable def bin : Nat → Nat → Nat
  | _, 0 => 1
  | 0, _ + 1 => 0
  | n + 1, k + 1 => bin n k + bin n (k + 1)
/-! sums -/
noncomputable def sm : Nat → (Nat → Nat) → Nat
  | 0, _ => 0
  | n + 1, f => sm n f + f n
noncomputable def smZ : Nat → (Nat → Int) → Int
  | 0, _ => 0
  | n + 1, f => smZ n f + f n
theorem sm_congr {n : Nat} {f g : Nat → Nat} (h : ∀ i, i < n → f i = g i) : sm n f = sm n g := by
  induction n with
  | zero => rfl
  | succ n ih => rw [sm, sm, ih fun i hi => h i (by omega), h n (by omega)]
theorem smZ_congr {n : Nat} {f g : Nat → Int} (h : ∀ i, i < n → f i = g i) : smZ n f = smZ n g := by
  induction n with
  | zero => rfl
  | succ n ih => rw [smZ, smZ, ih fun i hi => h i (by omega), h n (by omega)]
theorem sm_front (n : Nat) (f : Nat → Nat) : sm (n + 1) f = f 0 + sm n fun i => f (i + 1) := by
  induction n with
  | zero => simp [sm]
  | succ n ih => rw [sm, ih, sm, Nat.add_assoc]
theorem smZ_add (n : Nat) (f g : Nat → Int) : smZ n (fun i => f i + g i) = smZ n f + smZ n g := by
  induction n with
  | zero => rfl
  | succ n ih =>
    simp only [smZ, ih]
    omega
theorem smZ_sub (n : Nat) (f g : Nat → Int) : smZ n (fun i => f i - g i) = smZ n f - smZ n g := by
  induction n with
  | zero => rfl
  | succ n ih =>
    simp only [smZ, ih]
    omega
theorem smZ_zero {n : Nat} {f : Nat → Int} (h : ∀ i, i < n → f i = 0) : smZ n f = 0 := by
  induction n with
  | zero => rfl
  | succ n ih => rw [smZ, ih fun i hi => h i (by omega), h n (by omega)]; rfl
theorem smZ_le {n : Nat} {f g : Nat → Int} (h : ∀ i, i < n → f i ≤ g i) : smZ n f ≤ smZ n g := by
  induction n with
  | zero => exact Int.le_refl _
  | succ n ih =>
    have h1 := ih fun i hi => h i (by omega)
    have h2 := h n (by omega)
    rw [smZ, smZ]
    omega
theorem smZ_nonneg {n : Nat} {f : Nat → Int} (h : ∀ i, i < n → 0 ≤ f i) : 0 ≤ smZ n f := by
  have := smZ_le (n := n) (f := fun _ => 0) (g := f) h
  rwa [smZ_zero fun _ _ => rfl] at this
theorem smZ_extend {n m : Nat} {f : Nat → Int} (h : n ≤ m) (hz : ∀ i, n ≤ i → i < m → f i = 0) : smZ m f = smZ n f := by
  induction h with
  | refl => rfl
  | step hle ih =>
    rename_i k
    rw [smZ, ih fun i h1 h2 => hz i h1 (by omega), hz k hle (by omega), Int.add_zero]
theorem smZ_shorter {n m : Nat} {f : Nat → Int} (h : n ≤ m) (hp : ∀ i, i < m → 0 ≤ f i) : smZ n f ≤ smZ m f := by
  induction h with
  | refl => exact Int.le_refl _
  | step hle ih =>
    rename_i k
    have := ih fun i hi => hp i (by omega)
    have := hp k (by omega)
    rw [smZ]
    omega
theorem sm_le {n : Nat} {f g : Nat → Nat} (h : ∀ i, i < n → f i ≤ g i) : sm n f ≤ sm n g := by
  induction n with
  | zero => exact Nat.le_refl _
  | succ n ih =>
    have h1 := ih fun i hi => h i (by omega)
    have h2 := h n (by omega)
    rw [sm, sm]
    omega
theorem sm_shorter {n m : Nat} (f : Nat → Nat) (h : n ≤ m) : sm n f ≤ sm m f := by
  induction h with
  | refl => exact Nat.le_refl _
  | step _ ih => rw [sm]; omega
/-! rows of turns -/
noncomputable def cap (t : Option Nat) (m : Nat) : Nat := match t with
  | none => m + 1
  | some t => min t (m + 1)
/-- how many rows of d turns, each below t, have a sum of at most m -/
noncomputable def cnt (t : Option Nat) : Nat → Nat → Nat
  | 0, _ => 1
  | d + 1, m => sm (cap t m) fun i => cnt t d (m - i)
theorem cnt_0 (t : Option Nat) (m : Nat) : cnt t 0 m = 1 := rfl
theorem cnt_s (t : Option Nat) (d m : Nat) : cnt t (d + 1) m = sm (cap t m) fun i => cnt t d (m - i) := rfl
noncomputable def back (t : Option Nat) (d m : Nat) : Nat := match t with
  | none => 0
  | some t => if t ≤ m then cnt (some t) d (m - t) else 0
theorem cnt_rec (t : Option Nat) (ht : t ≠ some 0) (d m : Nat) : cnt t (d + 1) (m + 1) + back t d (m + 1) = cnt t (d + 1) m + cnt t d (m + 1) := by
  cases t with
  | none =>
    rw [cnt_s, cnt_s]
    show sm (m + 1 + 1) _ + 0 = sm (m + 1) _ + _
    rw [sm_front, Nat.sub_zero, sm_congr (g := fun i => cnt none d (m - i)) fun i hi => by rw [show m + 1 - (i + 1) = m - i by omega]]
    omega
  | some t =>
    have ht' : 0 < t := by
      rcases Nat.eq_zero_or_pos t with h | h
      · exact absurd (by rw [h]) ht
      · exact h
    rw [cnt_s, cnt_s]
    by_cases h : t ≤ m + 1
    · have e1 : cap (some t) (m + 1) = (t - 1) + 1 := by unfold cap; dsimp only; omega
      have e2 : cap (some t) m = (t - 1) + 1 := by unfold cap; dsimp only; omega
      have e3 : back (some t) d (m + 1) = cnt (some t) d (m - (t - 1)) := by
        unfold back
        dsimp only
        rw [if_pos h, show m + 1 - t = m - (t - 1) by omega]
      rw [e1, e2, e3, sm_front, Nat.sub_zero, sm, sm_congr (g := fun i => cnt (some t) d (m - i)) fun i hi => by rw [show m + 1 - (i + 1) = m - i by omega]]
      omega
    · have e1 : cap (some t) (m + 1) = (m + 1) + 1 := by unfold cap; dsimp only; omega
      have e2 : cap (some t) m = m + 1 := by unfold cap; dsimp only; omega
      have e3 : back (some t) d (m + 1) = 0 := by
        unfold back
        dsimp only
        rw [if_neg h]
      rw [e1, e2, e3, sm_front, Nat.sub_zero, sm_congr (g := fun i => cnt (some t) d (m - i)) fun i hi => by rw [show m + 1 - (i + 1) = m - i by omega]]
      omega
theorem cnt_s0 (t : Option Nat) (ht : t ≠ some 0) : ∀ d : Nat, cnt t d 0 = 1
  | 0 => rfl
  | d + 1 => by
    have e : cap t 0 = 1 := by
      cases t with
      | none => rfl
      | some t =>
        have : t ≠ 0 := fun h => ht (by rw [h])
        unfold cap
        dsimp only
        omega
    rw [cnt_s, e, sm, sm, Nat.zero_add, cnt_s0 t ht d]
theorem cap_mono (t : Option Nat) {m n : Nat} (h : m ≤ n) : cap t m ≤ cap t n := by
  cases t with
  | none => unfold cap; dsimp only; omega
  | some t => unfold cap; dsimp only; omega
theorem cnt_mono (t : Option Nat) : ∀ (d : Nat) {m n : Nat}, m ≤ n → cnt t d m ≤ cnt t d n
  | 0, _, _, _ => Nat.le_refl _
  | d + 1, m, n, h => by
    rw [cnt_s, cnt_s]
    exact Nat.le_trans (sm_le fun i _ => cnt_mono t d (by omega)) (sm_shorter _ (cap_mono t h))
theorem sm_const (n k : Nat) : sm n (fun _ => k) = n * k := by
  induction n with
  | zero => simp [sm]
  | succ n ih => rw [sm, ih, Nat.succ_mul]
/-! the alternating sum -/
noncomputable def B (d : Nat) (x : Int) : Int := if x < 0 then 0 else (bin (x.toNat + d) d : Nat)
noncomputable def cz (t : Option Nat) (d : Nat) (m : Int) : Int := if m < 0 then 0 else (cnt t d m.toNat : Nat)
theorem cz_neg {t : Option Nat} {d : Nat} {x : Int} (h : x < 0) : cz t d x = 0 := if_pos h
theorem cz_nat (t : Option Nat) (d k : Nat) : cz t d (k : Int) = (cnt t d k : Nat) := by
  unfold cz
  rw [if_neg (by omega), Int.toNat_natCast]
end Mt

namespace Pg
open PySem L2 SI Mt
variable {c : Cl}
/-! ### the number of turns -/
noncomputable def tD : Option Nat → D
  | none => .non
  | some t => .int t
noncomputable def OkT (t : Option Nat) : Prop := ∀ n, t = some n → 1 ≤ n ∧ n ≤ 10 ^ 12
theorem OkT.ne {t : Option Nat} (h : OkT t) : t ≠ some 0 := fun e => by
  have := (h 0 e).1
  omega
/-! ### machines -/
structure Mc where
  o : Int
  l : Int
  g : Int
namespace Mc
noncomputable def letter (M : Mc) : Int := 2 * M.o + M.l
noncomputable def gap (M : Mc) : Int := max M.o M.g
structure Ok (M : Mc) : Prop where
  o0 : 0 ≤ M.o
  o1 : M.o ≤ 1000000000
  l0 : 0 ≤ M.l
  l1 : M.l ≤ 1000000000
  g0 : 1 ≤ M.g
  g1 : M.g ≤ 1000000000
  z : 0 < 2 * M.o + M.l
noncomputable def d (M : Mc) (c : Cl) : D := .ins c.Machine ["o", "l", "g", "letter", "gap"] [.int M.o, .int M.l, .int M.g, .int M.letter, .int M.gap]
variable {M : Mc}
theorem Ok.letter0 (h : M.Ok) : 1 ≤ M.letter := by
  have := h.z
  unfold letter
  omega
theorem Ok.gap0 (h : M.Ok) : 1 ≤ M.gap := by
  have := h.g0
  unfold gap
  omega
end Mc
variable {M : Mc}
theorem fld_any {s : S} {n : Str} {r : D} (hn : (List.zip (["o", "l", "g", "letter", "gap"] : List Str) [D.int M.o, .int M.l, .int M.g, .int M.letter, .int M.gap]).lookup n = some r) : fldOf s [c.Machine] n (M.d c) = some r := by
  unfold fldOf
  show (if c.Machine ∈ [c.Machine] then _ else _) = _
  rw [if_pos (List.mem_singleton.mpr rfl)]
  exact hn
theorem fld_o (s : S) : fldOf s [c.Machine] "o" (M.d c) = some (.int M.o) := fld_any rfl
theorem fld_l (s : S) : fldOf s [c.Machine] "l" (M.d c) = some (.int M.l) := fld_any rfl
noncomputable def hor (M : Mc) (t : Option Nat) : Int := match t with
  | none => 120 * M.letter
  | some _ => 40 * M.letter
/-! ### how many are known -/
noncomputable def FR (M : Mc) (t : Option Nat) (x : Int) : Int := smZ (x / M.letter + 1).toNat fun d => cz t d ((x - d * M.letter) / M.gap)
noncomputable def FRs (M : Mc) (t : Option Nat) (x : Int) : List Int → Int
  | [] => 0
  | r :: rs => FR M t (x - r) + FRs M t x rs
theorem cz_nonneg (t : Option Nat) (d : Nat) (m : Int) : 0 ≤ cz t d m := by
  unfold cz
  split <;> omega
theorem FR_nonneg (M : Mc) (t : Option Nat) (x : Int) : 0 ≤ FR M t x := smZ_nonneg fun _ _ => cz_nonneg ..
theorem FRs_nonneg (M : Mc) (t : Option Nat) (x : Int) : ∀ rs : List Int, 0 ≤ FRs M t x rs
  | [] => Int.le_refl _
  | r :: rs => Int.add_nonneg (FR_nonneg ..) (FRs_nonneg M t x rs)
/-- r is T, or is above e if T is -/
structure Kn (T e r : Int) : Prop where
  le : r ≤ T
  or : r = T ∨ e < r
theorem Kn.eq {T e r : Int} (h : Kn T e r) (hT : T ≤ e) : r = T := by
  rcases h.or with h1 | h1
  · exact h1
  · have := h.le
    omega
theorem Kn.lt {T e r : Int} (h : Kn T e r) (hT : e < T) : e < r := by
  rcases h.or with h1 | h1
  · omega
  · exact h1
end Pg

namespace Pg
open PySem L2 SI Mt
variable {c : Cl} {M : Mc}
/-! ### integers and other things -/
theorem isint_int (i : Int) (s : S) : G_is_integer c [.int i] s = .ok (.bl true) s := rfl
/-- no integer -/
noncomputable def NI (c : Cl) (d : D) : Prop := ∀ s, G_is_integer c [d] s = .ok (.bl false) s
theorem NI.nint {i : Int} (h : NI c (.int i)) : False := by
  have := (h []).symm.trans (isint_int i [])
  cases this
theorem ni_non : NI c .non := fun _ => rfl
theorem ni_bl (b : Bool) : NI c (.bl b) := fun _ => rfl
theorem ni_str (x : Str) : NI c (.str x) := fun _ => rfl
theorem ni_tup (xs : List D) : NI c (.tup xs) := fun _ => rfl
theorem ni_lst (xs : List D) : NI c (.lst xs) := fun _ => rfl
inductive Th (c : Cl) : D → Prop
  | int (i : Int) : Th c (.int i)
  | ni {d : D} (h : NI c d) : Th c d
/-- an integer from lo to hi -/
noncomputable def gb (d : D) (lo hi : Int) : Bool := match d with
  | .int i => decide (lo ≤ i) && decide (i ≤ hi)
  | _ => false
theorem gb_ni {d : D} (h : NI c d) (lo hi : Int) : gb d lo hi = false := by
  unfold gb
  split
  · exact h.nint.elim
  · rfl
theorem gb_int {d : D} {lo hi : Int} (h : gb d lo hi = true) : ∃ i, d = .int i ∧ lo ≤ i ∧ i ≤ hi := by
  unfold gb at h
  split at h
  · rename_i i
    simp at h
    exact ⟨i, rfl, h.1, h.2⟩
  · cases h
theorem gb_in {i lo hi : Int} (h0 : lo ≤ i) (h1 : i ≤ hi) : gb (.int i) lo hi = true := by
  unfold gb
  simp [h0, h1]
theorem between_ok {d : D} (h : Th c d) (lo hi : Int) (s : S) : G_between c [d, .int lo, .int hi] s = .ok (.bl (gb d lo hi)) s := by
  apply eq_ok
  unfold G_between
  cases h with
  | int i =>
    unfold gb
    by_cases h : lo ≤ i
    · simp_arith [isint_int, h, Bool.true_and]
    · simp_arith [isint_int, h, Bool.false_and]
  | ni h =>
    rw [gb_ni h]
    have h' := h s
    simp_arith [h']
theorem between_int {i lo hi : Int} (h0 : lo ≤ i) (h1 : i ≤ hi) (s : S) : G_between c [.int i, .int lo, .int hi] s = .ok (.bl true) s := by
  rw [between_ok (.int i), gb_in h0 h1]
theorem count_ok {i lo hi : Int} (h0 : lo ≤ i) (h1 : i ≤ hi) (s : S) : G_checked_count c [.int i, .int lo, .int hi] s = .ok (.int i) s := by
  apply eq_ok
  unfold G_checked_count
  simp_arith [between_int h0 h1]
theorem count_bad {d : D} {lo hi : Int} (h : Th c d) (hb : gb d lo hi = false) (s : S) : G_checked_count c [d, .int lo, .int hi] s = .ex c.InvalidCount [] [] s := by
  apply eq_ex
  unfold G_checked_count
  simp_arith [between_ok h, hb]
/-! ### roots -/
/-- ascending from lo on, at most 10 ** 12 -/
noncomputable def Asc : Int → List Int → Prop
  | _, [] => True
  | lo, r :: rs => lo ≤ r ∧ r ≤ 1000000000000 ∧ Asc r rs
theorem Asc.mono {lo lo' : Int} (h : lo' ≤ lo) : ∀ {rs : List Int}, Asc lo rs → Asc lo' rs
  | [], _ => trivial
  | r :: rs, ⟨h1, h2, h3⟩ => ⟨by omega, h2, h3⟩
theorem Asc.mem {lo : Int} : ∀ {rs : List Int}, Asc lo rs → ∀ r ∈ rs, lo ≤ r ∧ r ≤ 1000000000000
  | r :: rs, ⟨h1, h2, h3⟩, x, hx => by
    rcases List.mem_cons.mp hx with rfl | hx
    · exact ⟨h1, h2⟩
    · exact (h3.mono h1).mem x hx
structure OkR (rs : List Int) : Prop where
  l0 : 1 ≤ rs.length
  l1 : rs.length ≤ 6
  asc : Asc 0 rs
theorem OkR.mem {rs : List Int} (h : OkR rs) : ∀ r ∈ rs, 0 ≤ r ∧ r ≤ 1000000000000 := h.asc.mem
/-! ### Machine(..) -/
theorem mk_ok (hM : M.Ok) (s : S) : mkD c.Machine 4 (G_Machine___init__ c) [.int M.o, .int M.l, .int M.g] s = .ok (M.d c) s := by
  have o0 := hM.o0
  have o1 := hM.o1
  apply eq_ok
  rw [w_mk]
  unfold G_Machine___init__
  have hm : ∀ s, dMul s (.int 2) (.int M.o) = some (.int (2 * M.o)) := fun s => dMul_small (by omega) (by omega) (by omega) (by omega)
  have f0 : fldPut (s ++ [.ins c.Machine [] []]) [c.Machine] "o" (.ref s.length) (.int M.o) = some (s ++ [.ins c.Machine ["o"] [.int M.o]]) := fld_app s (List.mem_singleton.mpr rfl) (by show 0 < 1000; decide)
  have f1 : fldPut (s ++ [.ins c.Machine ["o"] [.int M.o]]) [c.Machine] "l" (.ref s.length) (.int M.l) = some (s ++ [.ins c.Machine ["o", "l"] [.int M.o, .int M.l]]) := fld_app s (List.mem_singleton.mpr rfl) (by show 1 < 1000; decide)
  have f2 : fldPut (s ++ [.ins c.Machine ["o", "l"] [.int M.o, .int M.l]]) [c.Machine] "g" (.ref s.length) (.int M.g) = some (s ++ [.ins c.Machine ["o", "l", "g"] [.int M.o, .int M.l, .int M.g]]) := fld_app s (List.mem_singleton.mpr rfl) (by show 2 < 1000; decide)
  have f3 : fldPut (s ++ [.ins c.Machine ["o", "l", "g"] [.int M.o, .int M.l, .int M.g]]) [c.Machine] "letter" (.ref s.length) (.int (2 * M.o + M.l)) = some (s ++ [.ins c.Machine ["o", "l", "g", "letter"] [.int M.o, .int M.l, .int M.g, .int (2 * M.o + M.l)]]) := fld_app s (List.mem_singleton.mpr rfl) (by show 3 < 1000; decide)
  have f4 : fldPut (s ++ [.ins c.Machine ["o", "l", "g", "letter"] [.int M.o, .int M.l, .int M.g, .int (2 * M.o + M.l)]]) [c.Machine] "gap" (.ref s.length) (.int (max M.o M.g)) = some (s ++ [.ins c.Machine ["o", "l", "g", "letter", "gap"] [.int M.o, .int M.l, .int M.g, .int (2 * M.o + M.l), .int (max M.o M.g)]]) := fld_app s (List.mem_singleton.mpr rfl) (by show 4 < 1000; decide)
  have gi : insOf (s ++ [.ins c.Machine ["o", "l", "g", "letter", "gap"] [.int M.o, .int M.l, .int M.g, .int (2 * M.o + M.l), .int (max M.o M.g)]]) (.ref s.length) = some ((c.Machine, (["o", "l", "g", "letter", "gap"] : List Str), [D.int M.o, .int M.l, .int M.g, .int (2 * M.o + M.l), .int (max M.o M.g)])) := by
    unfold insOf
    simp only [get_app]
  simp_arith [between_int hM.o0 hM.o1, between_int hM.l0 hM.l1, between_int hM.g0 hM.g1, hm, show ¬ 2 * M.o + M.l = 0 by have := hM.z; omega, f0, f1, f2, f3, f4, gi, List.take_left]
  exact ⟨rfl, rfl⟩
/-! ### reach, least_time -/
noncomputable def MOST : Int := 10000000000000000000000000000000000000000
end Pg

namespace SI
open PySem L2 Pg Mt
variable {c : Cl} {Q : Cn (D → S → Prop)} {E : Cn (Addr → List Str → List D → S → Prop)} {v : SrcV} {n : Nat} {r : S} {lim : Int}
theorem SrcV.Ok.mono {m : Nat} (h : v.Ok n) (hm : n ≤ m) : v.Ok m := ⟨h.i0, h.a0, h.b0, by have := h.bn; omega, h.d0, h.dn, h.cs⟩
theorem src_wp {ns : List Int} (hl : ns.length ≤ 63) (hb : ∀ z ∈ ns, Builtin.Int.intBits z ≤ 1048576) (h : ∀ v : SrcV, v.Ok 0 → Q (.ref 0) [v.o]) : @WR _ (srcG [.rdl (ns.map D.int)] []) Q E := by
  rw [src_ok ns hl]
  exact h _ (src_start hb)
/-! items of a written list -/
theorem it0 (s : S) (a : D) (xs : List D) : dIx s (.tup (a :: xs)) (.int 0) = some a := by
  rw [dIx_tup, atI_in (by decide) (by simp only [List.length_cons]; omega)]
  rfl
theorem it1 (s : S) (a b : D) (xs : List D) : dIx s (.tup (a :: b :: xs)) (.int 1) = some b := by
  rw [dIx_tup, atI_in (by decide) (by simp only [List.length_cons]; omega)]
  rfl
theorem it2 (s : S) (a b d : D) (xs : List D) : dIx s (.tup (a :: b :: d :: xs)) (.int 2) = some d := by
  rw [dIx_tup, atI_in (by decide) (by simp only [List.length_cons]; omega)]
  rfl
/-- the item at a drawn place has what all items have -/
theorem pick {s : S} {xs : List D} {i : Int} {P : D → Prop} (h0 : 0 ≤ i) (h1 : i < xs.length) (hp : ∀ x ∈ xs, P x) : ∃ x, dIx s (.lst xs) (.int i) = some x ∧ P x := by
  have hl : i.toNat < xs.length := by omega
  refine ⟨xs[i.toNat], ?_, hp _ (List.getElem_mem hl)⟩
  rw [dIx_lst, atI_in h0 h1, List.getElem?_eq_getElem hl]
theorem wo_pick {s : S} {xs : List D} {i : Int} {Q : Cn (D → Prop)} (P : D → Prop) (h0 : 0 ≤ i) (h1 : i < xs.length) (hp : ∀ x ∈ xs, P x) (h : ∀ x, P x → Q x) : @WO _ (dIx s (.lst xs) (.int i)) Q := by
  obtain ⟨x, e, hx⟩ := pick (s := s) h0 h1 hp
  rw [e]
  exact h x hx
theorem pow_lit {s : S} {i j : Int} {r : Int} (h : powOk i j = true) (e : i ^ j.toNat = r) : dPow s (.int i) (.int j) = some (.int r) := by
  rw [dPow_lit, if_pos h, e]
theorem pow9 (s : S) : dPow s (.int 10) (.int 9) = some (.int 1000000000) := pow_lit rfl rfl
/-! ### numbers of a machine -/
end SI

/-! the tracked list that came last -/
namespace SI
open PySem L2
variable {o p : O} {r : S} {xs : List D}
theorem rl_get : (o :: (r ++ [p]))[r.length + 1]? = some p := by simp
theorem rl_isl : isLst (r.length + 1) (o :: (r ++ [.lst xs])) = true := by
  unfold isLst
  rw [rl_get]
theorem rl_set (p' : O) : (o :: (r ++ [p])).set (r.length + 1) p' = o :: (r ++ [p']) := by simp
theorem rl_app (y : D) (h : xs.length < 1000000) : appOf (r.length + 1) y (o :: (r ++ [.lst xs])) = some (o :: (r ++ [.lst (xs ++ [y])])) := by
  unfold appOf
  rw [rl_get]
  show (if xs.length < big then _ else _) = _
  rw [if_pos (show xs.length < big from h), rl_set]
theorem rl_seq : seqOf (o :: (r ++ [.lst xs])) (.ref (r.length + 1)) = some xs := by
  unfold seqOf
  simp only [rl_get]
theorem rl_lst : lstOf (o :: (r ++ [.lst xs])) (.ref (r.length + 1)) = some xs := by
  unfold lstOf
  simp only [rl_get]
/-! the same behind any store -/
theorem ap_app (y : D) (h : xs.length < 1000000) : appOf r.length y (r ++ [.lst xs]) = some (r ++ [.lst (xs ++ [y])]) := by
  unfold appOf
  rw [get_app]
  show (if xs.length < big then _ else _) = _
  rw [if_pos (show xs.length < big from h), set_app]
theorem ap_seq : seqOf (r ++ [.lst xs]) (.ref r.length) = some xs := by
  unfold seqOf
  simp only [get_app]
theorem atI_map {α : Type} {f : α → D} {ys : List α} {i : Nat} {y : α} (h : ys[i]? = some y) : L2.atI (ys.map f) (i : Int) = some (f y) := by
  obtain ⟨hi, e⟩ := List.getElem?_eq_some_iff.mp h
  rw [atI_in (by omega) (by rw [List.length_map]; omega), Int.toNat_natCast, List.getElem?_map, h]
  rfl
/-! texts that are written in the law -/
theorem shaped_str {x : Str} (h : PyData.strOk x = true) : SeqAt.shaped (.str x) = true := by
  simp [SeqAt.shaped, PyData.canLay0, PyData.depth, h]
theorem dEqD_str (neg : Bool) (s : S) (x y : Str) (hx : PyData.strOk x = true) (hy : PyData.strOk y = true) : dEqD neg s (.str x) (.str y) = some (.bl (if neg = true then !(x == y) else x == y)) := by
  unfold dEqD
  simp only [toPyT, toPy, PyData.eqv]
  rw [if_pos ⟨shaped_str hx, shaped_str hy⟩]
theorem eqS {s : S} {x y : Str} {b : Bool} (hx : PyData.strOk x = true) (hy : PyData.strOk y = true) (hb : (x == y) = b) : dEqD false s (.str x) (.str y) = some (.bl b) := by
  rw [dEqD_str false s x y hx hy, hb]
  rfl
end SI

/-! == of data with itself -/
namespace SI
open PySem L2
/-- data of at most n levels -/
noncomputable def dOk : Nat → D → Bool
  | _, .non => true
  | _, .bl _ => true
  | _, .int _ => true
  | _, .str x => PyData.strOk x
  | n + 1, .tup xs => xs.all (dOk n)
  | n + 1, .lst xs => xs.all (dOk n)
  | _, _ => false
theorem toPy_ok (s : S) : ∀ (n : Nat) (d : D), dOk n d = true → ∃ y, toPy s d = some y ∧ y.canLay0 = true ∧ y.depth ≤ n := by
  intro n
  induction n with
  | zero =>
    intro d h
    cases d <;> simp only [dOk, Bool.false_eq_true] at h <;> exact ⟨_, rfl, by simp [PyData.canLay0, *], by simp [PyData.depth]⟩
  | succ n ih =>
    have all : ∀ xs : List D, xs.all (dOk n) = true → ∃ ys, toPys s xs = some ys ∧ PyData.canLayAll0 ys = true ∧ PyData.depthAll ys ≤ n := fun xs => by
      induction xs with
      | nil => exact fun _ => ⟨[], rfl, rfl, by simp [PyData.depthAll]⟩
      | cons x xs ih2 =>
        intro h
        simp only [List.all_cons, Bool.and_eq_true] at h
        obtain ⟨y, e1, e2, e3⟩ := ih x h.1
        obtain ⟨ys, e4, e5, e6⟩ := ih2 h.2
        refine ⟨y :: ys, by simp only [toPys, e1, e4], by simp [PyData.canLayAll0, e2, e5], ?_⟩
        simp only [PyData.depthAll]
        omega
    intro d h
    cases d <;> simp only [dOk, Bool.false_eq_true] at h
    · exact ⟨_, rfl, by simp [PyData.canLay0, *], by simp [PyData.depth]⟩
    · exact ⟨_, rfl, by simp [PyData.canLay0, *], by simp [PyData.depth]⟩
    · exact ⟨_, rfl, by simp [PyData.canLay0, *], by simp [PyData.depth]⟩
    · exact ⟨_, rfl, by simp [PyData.canLay0, *], by simp [PyData.depth]⟩
    · obtain ⟨ys, e1, e2, e3⟩ := all _ h
      refine ⟨.tuple ys, by simp only [toPy, e1, Option.map_some], by simpa [PyData.canLay0] using e2, ?_⟩
      simp only [PyData.depth]
      omega
    · obtain ⟨ys, e1, e2, e3⟩ := all _ h
      refine ⟨.list ys, by simp only [toPy, e1, Option.map_some], by simpa [PyData.canLay0] using e2, ?_⟩
      simp only [PyData.depth]
      omega
theorem shaped_of {y : PyData} (h1 : y.canLay0 = true) (h2 : y.depth ≤ 64) : SeqAt.shaped y = true := by
  unfold SeqAt.shaped
  simp [h1, h2]
theorem eq_py {neg : Bool} {s : S} {a b : D} {y : PyData} (ha : toPyT s a = some y) (hb : toPyT s b = some y) (h1 : y.canLay0 = true) (h2 : y.depth ≤ 64) : dEqD neg s a b = some (.bl (!neg)) := by
  unfold dEqD
  rw [ha, hb]
  simp only [shaped_of h1 h2, and_self, if_true, SeqAt.eqv_refl y h1]
  cases neg <;> rfl
theorem toPyT_eq {s : S} {d : D} (h : ∀ n, d ≠ .ref n) : toPyT s d = toPy s d := by
  unfold toPyT
  split
  · exact absurd rfl (h _)
  · rfl
theorem dOk_ref {n k : Nat} (h : dOk n (.ref k) = true) : False := by
  cases n <;> simp [dOk] at h
/-- a thing == itself -/
theorem eq_self {neg : Bool} {s : S} {d : D} {n : Nat} (h : dOk n d = true) (hn : n ≤ 60) : dEqD neg s d d = some (.bl (!neg)) := by
  obtain ⟨y, e1, e2, e3⟩ := toPy_ok s n d h
  have e4 : toPyT s d = some y := by
    rw [toPyT_eq fun k e => by subst e; exact dOk_ref h]
    exact e1
  exact eq_py e4 e4 e2 (by omega)
/-- for x in a tracked list that stays -/
theorem ws_trk {α : Type} {f : α → D} {q : Tg} {body : FS} {B : Bs} {xs : List α} {r : Src} {L : Lc} {s : S} (I : Nat → Lc → S → Prop) (h0 : I 0 L s) (hc : ∀ i L s, I i L s → chk r s = true)
    (hs : ∀ i (hi : i < xs.length) L s, I i L s → @WO _ (q (f xs[i]) L) ⟨fun L1 => @WS (body L1 s) ⟨I (i + 1), B.rt, B.nx, I (i + 1), B.ex⟩⟩)
    (he : ∀ L s, I xs.length L s → B.nx L s) : @WS (forL q body r (xs.map f) L s) B := by
  refine ws_for I (xs.map f) 0 h0 (fun i d L s e hi => ⟨hc _ _ _ hi, ?_⟩) (fun L s hi => ⟨hc _ _ _ hi, he L s ?_⟩)
  · rw [Nat.zero_add] at hi ⊢
    rw [List.getElem?_map] at e
    obtain ⟨x, ex, rfl⟩ := Option.map_eq_some_iff.mp e
    obtain ⟨hj, ej⟩ := List.getElem?_eq_some_iff.mp ex
    subst ej
    exact hs i hj L s hi
  · rw [Nat.zero_add, List.length_map] at hi
    exact hi
end SI

/-! list comprehensions over plain data -/
namespace SI
open PySem L2
variable {L : Lc} {s : S} {Q : Cn (D → S → Prop)} {E : Cn (Addr → List Str → List D → S → Prop)}
theorem bel_src (v : SrcV) (n : Nat) : O.bel n v.o = true := src_bel v n
end SI
namespace SI
open PySem L2
theorem ap_put {r : S} {xs : List D} {k : Nat} (h : k < xs.length) (d : D) : dPut (r ++ [.lst xs]) (.ref r.length) (.int k) d = some (r ++ [.lst (xs.set k d)]) := by
  unfold dPut
  simp only [get_app]
  unfold ixN
  rw [if_pos (by omega), if_pos (by omega)]
  simp only [Option.bind_some, Int.toNat_natCast, set_app]
end SI

/-! the two tracked lists that came last; min, index of ints -/
namespace SI
open PySem L2 Pg
variable {s : S} {x y : O} {a b : List D}
end SI

/-! the number of hands: its recursion and its bounds -/
namespace Pg
open Mt
variable {M : Mc} {t : Option Nat}
theorem ediv_neg {a b : Int} (h : a < 0) (hb : 0 < b) : a / b < 0 := Int.ediv_neg_of_neg_of_pos h hb
theorem FR_ext (hM : M.Ok) {x : Int} {N : Nat} (h : (x / M.letter + 1).toNat ≤ N) : FR M t x = smZ N fun d => cz t d ((x - d * M.letter) / M.gap) := by
  have l0 := hM.letter0
  have g0 := hM.gap0
  unfold FR
  refine (smZ_extend h fun i h1 h2 => ?_).symm
  have hx : x / M.letter < (i : Int) := by omega
  have : x < i * M.letter := (Int.ediv_lt_iff_lt_mul (by omega)).mp hx
  exact cz_neg (ediv_neg (by omega) (by omega))
/-! bounds -/
noncomputable def bf (n : Nat) : Nat → Nat
  | 0 => 1
  | k + 1 => bf n k * (n + k + 1) / (k + 1)
/-- the most that K letter times can hold if a letter time has at most R gaps -/
noncomputable def SB (K R : Nat) : Nat := sm (K + 1) fun d => bf ((K - d) * R) d
end Pg

/-! monotony of the counts; least times -/
namespace Pg
open PySem L2 SI Mt
variable {c : Cl} {M : Mc} {t : Option Nat}
theorem cz_mono {d : Nat} {m n : Int} (h : m ≤ n) : cz t d m ≤ cz t d n := by
  by_cases h0 : m < 0
  · rw [cz_neg h0]
    exact cz_nonneg ..
  · unfold cz
    rw [if_neg h0, if_neg (by omega)]
    exact_mod_cast cnt_mono t d (by omega)
theorem FR_mono (hM : M.Ok) {x y : Int} (h : x ≤ y) : FR M t x ≤ FR M t y := by
  have l0 := hM.letter0
  have g0 := hM.gap0
  have : x / M.letter ≤ y / M.letter := Int.ediv_le_ediv (by omega) h
  rw [FR_ext hM (N := (y / M.letter + 1).toNat) (by omega)]
  unfold FR
  exact smZ_le fun d _ => cz_mono (Int.ediv_le_ediv (by omega) (by omega))
theorem FRs_mono (hM : M.Ok) {x y : Int} (h : x ≤ y) : ∀ rs : List Int, FRs M t x rs ≤ FRs M t y rs
  | [] => Int.le_refl _
  | r :: rs => by
    have h1 := FR_mono (t := t) hM (x := x - r) (y := y - r) (by omega)
    have h2 := FRs_mono hM h rs
    rw [FRs, FRs]
    omega
/-- x is the first time at which n hands are known -/
structure LT (M : Mc) (t : Option Nat) (rs : List Int) (n x : Int) : Prop where
  x0 : 0 ≤ x
  x1 : x ≤ hor M t
  lt : FRs M t (x - 1) rs < n
  le : n ≤ FRs M t x rs
theorem LT.uniq (hM : M.Ok) {rs : List Int} {n x y : Int} (h : LT M t rs n x) (h' : LT M t rs n y) : x = y := by
  rcases Int.lt_trichotomy x y with z | z | z
  · have := FRs_mono (t := t) hM (x := x) (y := y - 1) (by omega) rs
    have := h.le
    have := h'.lt
    omega
  · exact z
  · have := FRs_mono (t := t) hM (x := y) (y := x - 1) (by omega) rs
    have := h'.le
    have := h.lt
    omega
end Pg

/-! hands that are known just at a time -/
namespace Pg
open PySem L2 SI Mt
variable {c : Cl} {M : Mc} {t : Option Nat}
/-- of one depth, y behind its first -/
noncomputable def KJ (M : Mc) (t : Option Nat) (d : Nat) (y : Int) : Int := cz t d (y / M.gap) - cz t d ((y - 1) / M.gap)
theorem KJ_nonneg (hM : M.Ok) (d : Nat) (y : Int) : 0 ≤ KJ M t d y := by
  have g0 := hM.gap0
  have := cz_mono (t := t) (d := d) (show (y - 1) / M.gap ≤ y / M.gap from Int.ediv_le_ediv (by omega) (by omega))
  unfold KJ
  omega
theorem KJ_neg (hM : M.Ok) {d : Nat} {y : Int} (h : y < 0) : KJ M t d y = 0 := by
  have g0 := hM.gap0
  unfold KJ
  rw [cz_neg (ediv_neg h (by omega)), cz_neg (ediv_neg (by omega) (by omega))]
  rfl
theorem div_pred (hM : M.Ok) {y : Int} (h : y % M.gap = 0) : (y - 1) / M.gap = y / M.gap - 1 := by
  have g0 := hM.gap0
  have e := Int.mul_ediv_add_emod y M.gap
  rw [h, Int.add_zero] at e
  have : (y - 1) / M.gap = (M.gap - 1 + (y / M.gap - 1) * M.gap) / M.gap := by
    congr 1
    rw [Int.sub_mul, Int.one_mul, Int.mul_comm (y / M.gap)]
    omega
  rw [this, Int.add_mul_ediv_right _ _ (by omega), Int.ediv_eq_zero_of_lt (by omega) (by omega)]
  omega
noncomputable def LY (M : Mc) (t : Option Nat) (x : Int) : Int := smZ (x / M.letter + 1).toNat fun d => KJ M t d (x - d * M.letter)
theorem LY_eq (hM : M.Ok) (x : Int) : LY M t x = FR M t x - FR M t (x - 1) := by
  have l0 := hM.letter0
  have : (x - 1) / M.letter ≤ x / M.letter := Int.ediv_le_ediv (by omega) (by omega)
  unfold LY
  rw [FR_ext hM (x := x - 1) (N := (x / M.letter + 1).toNat) (by omega)]
  unfold FR
  rw [← smZ_sub]
  refine smZ_congr fun d _ => ?_
  unfold KJ
  rw [show x - 1 - d * M.letter = x - d * M.letter - 1 by omega]
noncomputable def LYs (M : Mc) (t : Option Nat) (x : Int) : List Int → Int
  | [] => 0
  | r :: rs => LY M t (x - r) + LYs M t x rs
theorem LYs_eq (hM : M.Ok) (x : Int) : ∀ rs : List Int, LYs M t x rs = FRs M t x rs - FRs M t (x - 1) rs
  | [] => rfl
  | r :: rs => by
    rw [LYs, FRs, FRs, LY_eq hM, LYs_eq hM x rs, show x - r - 1 = x - 1 - r by omega]
    omega
end Pg

/-! rows of turns of just one sum -/
namespace Mt
/-- how many rows of d turns, each below t, have just the sum m -/
noncomputable def ex (t : Option Nat) : Nat → Nat → Nat
  | 0, m => if m = 0 then 1 else 0
  | d + 1, m => sm (cap t m) fun i => ex t d (m - i)
theorem ex_s (t : Option Nat) (d m : Nat) : ex t (d + 1) m = sm (cap t m) fun i => ex t d (m - i) := rfl
theorem cnt_ex (t : Option Nat) (ht : t ≠ some 0) : ∀ d m : Nat, cnt t d m = sm (m + 1) fun s => ex t d s
  | 0, m => by
    rw [cnt_0, sm_front]
    have : sm m (fun i => ex t 0 (i + 1)) = 0 := by
      have e : sm m (fun i => ex t 0 (i + 1)) = sm m fun _ => 0 := sm_congr fun i _ => rfl
      rw [e, sm_const, Nat.mul_zero]
    rw [this]
    rfl
  | d + 1, 0 => by
    rw [cnt_s0 t ht, sm, sm]
    have e : cap t 0 = 1 := by
      cases t with
      | none => rfl
      | some t =>
        have : t ≠ 0 := fun h => ht (by rw [h])
        unfold cap
        dsimp only
        omega
    have ih := cnt_ex t ht d 0
    rw [cnt_s0 t ht, sm, sm] at ih
    rw [ex_s, e, sm, sm, Nat.sub_zero]
    omega
  | d + 1, m + 1 => by
    have ih1 := cnt_ex t ht (d + 1) m
    have r := cnt_rec t ht d m
    rw [sm, ← ih1, ex_s]
    -- the sum telescopes
    have tel : ∀ n, n ≤ m + 2 → sm n (fun i => ex t d (m + 1 - i)) + (if n ≤ m + 1 then cnt t d (m + 1 - n) else 0) = cnt t d (m + 1) := fun n => by
      induction n with
      | zero => intro _; simp [sm]
      | succ n ih =>
        intro hn
        have h1 := ih (by omega)
        rw [if_pos (by omega)] at h1
        rw [sm]
        have h2 := cnt_ex t ht d (m + 1 - n)
        by_cases hm : n + 1 ≤ m + 1
        · rw [if_pos hm]
          have h3 := cnt_ex t ht d (m + 1 - (n + 1))
          rw [show m + 1 - n = m + 1 - (n + 1) + 1 by omega, sm, ← h3, ← show m + 1 - n = m + 1 - (n + 1) + 1 by omega] at h2
          omega
        · rw [if_neg hm]
          have e0 : m + 1 - n = 0 := by omega
          rw [e0] at h1 h2 ⊢
          rw [sm, sm] at h2
          omega
    have hc : cap t (m + 1) ≤ m + 2 := by
      cases t with
      | none => exact Nat.le_refl _
      | some t => unfold cap; dsimp only; omega
    have tl := tel (cap t (m + 1)) hc
    have hb : (if cap t (m + 1) ≤ m + 1 then cnt t d (m + 1 - cap t (m + 1)) else 0) = back t d (m + 1) := by
      cases t with
      | none =>
        rw [if_neg (by unfold cap; dsimp only; omega)]
        rfl
      | some t =>
        unfold back cap
        dsimp only
        by_cases h : t ≤ m + 1
        · rw [if_pos (by omega), if_pos h, Nat.min_eq_left (by omega)]
        · rw [if_neg (by omega), if_neg h]
    omega
theorem cz_ex {t : Option Nat} (ht : t ≠ some 0) (d m : Nat) : cz t d m - cz t d ((m : Int) - 1) = ex t d m := by
  cases m with
  | zero =>
    rw [cz_neg (show (((0 : Nat) : Int) - 1 < 0) by omega), cz_nat, cnt_ex t ht, sm, sm]
    omega
  | succ m =>
    rw [show ((m + 1 : Nat) : Int) - 1 = (m : Nat) by omega, cz_nat, cz_nat, cnt_ex t ht d (m + 1), cnt_ex t ht d m, sm]
    omega
end Mt
namespace Pg
open Mt
variable {M : Mc} {t : Option Nat}
theorem KJ_ex (hM : M.Ok) (ht : OkT t) {d : Nat} {y : Int} (h0 : 0 ≤ y) (hz : y % M.gap = 0) : KJ M t d y = ex t d (y / M.gap).toNat := by
  have g0 := hM.gap0
  have hq : 0 ≤ y / M.gap := Int.ediv_nonneg h0 (by omega)
  unfold KJ
  rw [div_pred hM hz, ← cz_ex ht.ne, show (((y / M.gap).toNat : Nat) : Int) = y / M.gap by omega]
end Pg

/-! the next time at which a hand becomes known -/
namespace Pg
open PySem L2 SI Mt
variable {c : Cl} {M : Mc} {t : Option Nat}
/-- z is the time of a hand of depth d below the root r -/
noncomputable def Hit (M : Mc) (t : Option Nat) (r : Int) (d : Nat) (z : Int) : Prop := 0 < KJ M t d (z - r - d * M.letter)
/-- y is the next time behind x -/
structure NX (M : Mc) (t : Option Nat) (rs : List Int) (x y : Int) : Prop where
  lt : x < y
  le : y ≤ hor M t
  pos : 0 < LYs M t y rs
  zero : ∀ z, x < z → z < y → LYs M t z rs = 0
/-- what is known of best -/
structure Bst (M : Mc) (t : Option Nat) (rs : List Int) (x b : Int) (P : Nat → Nat → Prop) : Prop where
  le : b ≤ hor M t + 1
  hit : b = hor M t + 1 ∨ (x < b ∧ 0 < LYs M t b rs)
  all : ∀ (i : Nat) (hi : i < rs.length) (d : Nat) (z : Int), P i d → x < z → z ≤ hor M t → Hit M t rs[i] d z → b ≤ z
end Pg

/-! wrong turns, roots and times -/
namespace Pg
open PySem L2 SI Mt
variable {c : Cl} {M : Mc} {t : Option Nat}
noncomputable def valD : D → Int
  | .int i => i
  | _ => 0
end Pg

/-! fewest turns -/
namespace Pg
open PySem L2 SI Mt
variable {c : Cl} {M : Mc} {t u : Option Nat}
/-- the fewest turns with which n hands are known at x -/
structure Few (M : Mc) (n x : Int) (k : Nat) : Prop where
  k0 : 1 ≤ k
  k1 : k ≤ 1000000000000
  le : n ≤ FR M (some k) x
  lt : 1 < k → FR M (some (k - 1)) x < n
end Pg

/-! so many letter times that the counts stay small -/
namespace Pg
open PySem L2 SI Mt
variable {c : Cl} {M : Mc} {t : Option Nat}
/-- K letter times hold at most 10 ** 40 hands, and lie within the horizon -/
structure Spn (M : Mc) (t : Option Nat) (K : Nat) : Prop where
  k0 : 3 ≤ K
  k1 : K ≤ 119
  le : ∀ x, x ≤ K * M.letter → 6 * FR M t x ≤ MOST
  hor : K * M.letter ≤ hor M t
theorem Spn.frs {K : Nat} (h : Spn M t K) (x : Int) (hx : x ≤ K * M.letter) : ∀ {rs : List Int}, (∀ r ∈ rs, 0 ≤ r ∧ r ≤ 1000000000000) → 6 * FRs M t x rs ≤ rs.length * MOST
  | [], _ => by simp [FRs]
  | r :: rs, hr => by
    have h1 := h.frs x hx fun z hz => hr z (List.mem_cons_of_mem _ hz)
    have h2 := h.le (x - r) (by have := hr r (List.mem_cons_self ..); omega)
    rw [FRs, List.length_cons, Int.natCast_add, Int.add_mul]
    omega
theorem Spn.most {K : Nat} (h : Spn M t K) {x : Int} (hx : x ≤ K * M.letter) {rs : List Int} (hr : OkR rs) : FRs M t x rs ≤ MOST := by
  have h1 := h.frs x hx hr.mem
  have h2 := hr.l1
  have h3 : (rs.length : Int) * MOST ≤ 6 * MOST := Int.mul_le_mul_of_nonneg_right (by omega) (by unfold MOST; decide)
  omega
end Pg

/-! Machine.of; a letter time and a gap near each other; quicker machines -/
namespace Pg
open PySem L2 SI Mt
variable {c : Cl} {M : Mc} {t : Option Nat} {Q : Cn (D → S → Prop)} {E : Cn (Addr → List Str → List D → S → Prop)}
/-! ### comparisons -/
end Pg

/-! helpers of laws: within, a deep list, data without refs, == of short tuples -/
namespace SI
open PySem L2 Pg Mt
variable {c : Cl} {M : Mc} {t : Option Nat}
theorem isi_int (i : Int) (s : S) : bIsi c.cs s [.int i, .ty "int"] = some (.bl true) := rfl
theorem isi_intb (i : Int) (s : S) : bIsi c.cs s [.int i, .ty "bool"] = some (.bl false) := rfl
theorem isi_blb (b : Bool) (s : S) : bIsi c.cs s [.bl b, .ty "bool"] = some (.bl true) := rfl
theorem isi_bl {s : S} {d e r : D} (h : bIsi c.cs s [d, e] = some r) : ∃ b, r = .bl b := by
  unfold bIsi at h
  obtain ⟨b, _, rfl⟩ := Option.map_eq_some_iff.mp h
  exact ⟨b, rfl⟩
theorem NI.cases {d : D} (h : NI c d) (s : S) : bIsi c.cs s [d, .ty "int"] = some (.bl false) ∨ (bIsi c.cs s [d, .ty "int"] = some (.bl true) ∧ bIsi c.cs s [d, .ty "bool"] = some (.bl true)) := by
  have w : @WR _ (G_is_integer c [d] s) ⟨fun d' s' => d' = .bl false⟩ ⟨nE⟩ := by
    rw [h s]
    rfl
  unfold G_is_integer at w
  simp (implicitDefEqProofs := false) only [↓w_srtT, ↓w_par2, ↓w_par3, ↓w_setd, ↓w_dict1, ↓w_maxDf, ↓w_slT, ↓w_addT, ↓w_dictT, ↓w_dictI, ↓w_get, ↓w_lrg1T, ↓w_lrg2T, ↓w_lrg1, ↓w_lrg2, ↓w_pop0, ↓w_lcT, ↓w_mth, ↓w_calm, ↓w_tryM, ↓w_tm0, ↓w_tmN, ↓w_tmS, ↓w_seq, ↓w_next, ↓w_break, ↓w_cont, ↓w_retN, ↓w_asg, ↓w_expr, ↓w_ret, ↓w_if, ↓w_asgG, ↓w_for, ↓w_put, ↓w_aug, ↓w_augS, ↓w_raise0, ↓w_raise1, ↓w_raise2, ↓w_try, ↓w_tryAs, ↓w_var, ↓w_c, ↓w_op, ↓w_chain, ↓w_notV, ↓w_andV, ↓w_orV, ↓w_ifE, ↓w_tst, ↓w_not, ↓w_and, ↓w_or, ↓w_yes, ↓w_nil, ↓w_cons, ↓w_tup, ↓w_lst, ↓w_lstT, ↓w_cb, ↓w_call, ↓w_callK, ↓w_neg, ↓w_no, ↓w_pt, ↓w_sl, ↓w_fld, ↓w_src, ↓w_rng, ↓w_enu, ↓w_listT, ↓w_app, ↓w_lc, ↓w_xf, ↓w_fldT, ↓w_make, ↓w_makeL, ↓w_run, ↓w_cut, ↓w_pure, ↓w_drop, nth2_eq, nth3_eq, w_ok, w_ex, w_nx, w_rt, w_bk, w_ct, w_exS, w_some, w_v, w_tr, w_fa, w_tb, w_ti, w_tn, w_L, w_L0, wb_not, cn_f, startD, arr, gN_eq, gTp, gCn, gNl, Option.bind_some, List.filterMap_cons, List.filterMap_nil, List.map_cons, List.map_nil, List.replicate_succ, List.replicate_zero, List.cons_append, List.nil_append, List.getElem?_cons_zero, List.getElem?_cons_succ, List.set_cons_zero, List.set_cons_succ, List.length_cons, List.length_nil, Nat.reduceAdd, Nat.reduceSub, Nat.reduceLeDiff, Nat.reduceEqDiff, Int.reducePow, Int.reduceToNat, Int.reduceNeg, Int.reduceAdd, Int.reduceMul, Int.reduceSub, Int.reduceLT, Int.reduceLE, Int.reduceEq, Nat.zero_add, Int.zero_add, big_eq, true_and, and_true, and_self, dSub_int, dAdd_int, dAddI_int, dLt_int, dLe_int, dGt_int, dGe_int, dEqD_int, bInt_int, bLen_lst, bLen_tup, bMin_int, bMax_int, bAbs_int, dIs_non, dIs_int, dIs_nn, Bool.not_true, Bool.not_false, decide_true, decide_false, reduceIte, Bool.false_eq_true, if_false, if_true, iSeq_lst, iSeq_tup, iSeq_rdl, iEnu_lst, iEnu_tup] at w
  cases e1 : bIsi c.cs s [d, .ty "int"] with
  | none =>
    rw [e1] at w
    exact w.elim
  | some r =>
    obtain ⟨b, rfl⟩ := isi_bl e1
    cases b with
    | false => exact .inl rfl
    | true =>
      refine .inr ⟨rfl, ?_⟩
      rw [e1] at w
      simp (implicitDefEqProofs := false) only [↓w_srtT, ↓w_par2, ↓w_par3, ↓w_setd, ↓w_dict1, ↓w_maxDf, ↓w_slT, ↓w_addT, ↓w_dictT, ↓w_dictI, ↓w_get, ↓w_lrg1T, ↓w_lrg2T, ↓w_lrg1, ↓w_lrg2, ↓w_pop0, ↓w_lcT, ↓w_mth, ↓w_calm, ↓w_tryM, ↓w_tm0, ↓w_tmN, ↓w_tmS, ↓w_seq, ↓w_next, ↓w_break, ↓w_cont, ↓w_retN, ↓w_asg, ↓w_expr, ↓w_ret, ↓w_if, ↓w_asgG, ↓w_for, ↓w_put, ↓w_aug, ↓w_augS, ↓w_raise0, ↓w_raise1, ↓w_raise2, ↓w_try, ↓w_tryAs, ↓w_var, ↓w_c, ↓w_op, ↓w_chain, ↓w_notV, ↓w_andV, ↓w_orV, ↓w_ifE, ↓w_tst, ↓w_not, ↓w_and, ↓w_or, ↓w_yes, ↓w_nil, ↓w_cons, ↓w_tup, ↓w_lst, ↓w_lstT, ↓w_cb, ↓w_call, ↓w_callK, ↓w_neg, ↓w_no, ↓w_pt, ↓w_sl, ↓w_fld, ↓w_src, ↓w_rng, ↓w_enu, ↓w_listT, ↓w_app, ↓w_lc, ↓w_xf, ↓w_fldT, ↓w_make, ↓w_makeL, ↓w_run, ↓w_cut, ↓w_pure, ↓w_drop, nth2_eq, nth3_eq, w_ok, w_ex, w_nx, w_rt, w_bk, w_ct, w_exS, w_some, w_v, w_tr, w_fa, w_tb, w_ti, w_tn, w_L, w_L0, wb_not, cn_f, startD, arr, gN_eq, gTp, gCn, gNl, Option.bind_some, List.filterMap_cons, List.filterMap_nil, List.map_cons, List.map_nil, List.replicate_succ, List.replicate_zero, List.cons_append, List.nil_append, List.getElem?_cons_zero, List.getElem?_cons_succ, List.set_cons_zero, List.set_cons_succ, List.length_cons, List.length_nil, Nat.reduceAdd, Nat.reduceSub, Nat.reduceLeDiff, Nat.reduceEqDiff, Int.reducePow, Int.reduceToNat, Int.reduceNeg, Int.reduceAdd, Int.reduceMul, Int.reduceSub, Int.reduceLT, Int.reduceLE, Int.reduceEq, Nat.zero_add, Int.zero_add, big_eq, true_and, and_true, and_self, dSub_int, dAdd_int, dAddI_int, dLt_int, dLe_int, dGt_int, dGe_int, dEqD_int, bInt_int, bLen_lst, bLen_tup, bMin_int, bMax_int, bAbs_int, dIs_non, dIs_int, dIs_nn, Bool.not_true, Bool.not_false, decide_true, decide_false, reduceIte, Bool.false_eq_true, if_false, if_true, iSeq_lst, iSeq_tup, iSeq_rdl, iEnu_lst, iEnu_tup] at w
      cases e2 : bIsi c.cs s [d, .ty "bool"] with
      | none =>
        rw [e2] at w
        exact w.elim
      | some r =>
        obtain ⟨b, rfl⟩ := isi_bl e2
        rw [e2] at w
        simp (implicitDefEqProofs := false) only [↓w_srtT, ↓w_par2, ↓w_par3, ↓w_setd, ↓w_dict1, ↓w_maxDf, ↓w_slT, ↓w_addT, ↓w_dictT, ↓w_dictI, ↓w_get, ↓w_lrg1T, ↓w_lrg2T, ↓w_lrg1, ↓w_lrg2, ↓w_pop0, ↓w_lcT, ↓w_mth, ↓w_calm, ↓w_tryM, ↓w_tm0, ↓w_tmN, ↓w_tmS, ↓w_seq, ↓w_next, ↓w_break, ↓w_cont, ↓w_retN, ↓w_asg, ↓w_expr, ↓w_ret, ↓w_if, ↓w_asgG, ↓w_for, ↓w_put, ↓w_aug, ↓w_augS, ↓w_raise0, ↓w_raise1, ↓w_raise2, ↓w_try, ↓w_tryAs, ↓w_var, ↓w_c, ↓w_op, ↓w_chain, ↓w_notV, ↓w_andV, ↓w_orV, ↓w_ifE, ↓w_tst, ↓w_not, ↓w_and, ↓w_or, ↓w_yes, ↓w_nil, ↓w_cons, ↓w_tup, ↓w_lst, ↓w_lstT, ↓w_cb, ↓w_call, ↓w_callK, ↓w_neg, ↓w_no, ↓w_pt, ↓w_sl, ↓w_fld, ↓w_src, ↓w_rng, ↓w_enu, ↓w_listT, ↓w_app, ↓w_lc, ↓w_xf, ↓w_fldT, ↓w_make, ↓w_makeL, ↓w_run, ↓w_cut, ↓w_pure, ↓w_drop, nth2_eq, nth3_eq, w_ok, w_ex, w_nx, w_rt, w_bk, w_ct, w_exS, w_some, w_v, w_tr, w_fa, w_tb, w_ti, w_tn, w_L, w_L0, wb_not, cn_f, startD, arr, gN_eq, gTp, gCn, gNl, Option.bind_some, List.filterMap_cons, List.filterMap_nil, List.map_cons, List.map_nil, List.replicate_succ, List.replicate_zero, List.cons_append, List.nil_append, List.getElem?_cons_zero, List.getElem?_cons_succ, List.set_cons_zero, List.set_cons_succ, List.length_cons, List.length_nil, Nat.reduceAdd, Nat.reduceSub, Nat.reduceLeDiff, Nat.reduceEqDiff, Int.reducePow, Int.reduceToNat, Int.reduceNeg, Int.reduceAdd, Int.reduceMul, Int.reduceSub, Int.reduceLT, Int.reduceLE, Int.reduceEq, Nat.zero_add, Int.zero_add, big_eq, true_and, and_true, and_self, dSub_int, dAdd_int, dAddI_int, dLt_int, dLe_int, dGt_int, dGe_int, dEqD_int, bInt_int, bLen_lst, bLen_tup, bMin_int, bMax_int, bAbs_int, dIs_non, dIs_int, dIs_nn, Bool.not_true, Bool.not_false, decide_true, decide_false, reduceIte, Bool.false_eq_true, if_false, if_true, iSeq_lst, iSeq_tup, iSeq_rdl, iEnu_lst, iEnu_tup] at w
        cases b with
        | true => rfl
        | false => simp at w
/-! data without refs -/
noncomputable def Pur (d : D) : Prop := ∀ n, D.bel n d = true
noncomputable def PurO (o : O) : Prop := ∀ n, O.bel n o = true
theorem finS_pur {n : Nat} {s : S} {d : D} (h : Pur d) : finS n s d = some d := by
  unfold finS
  split
  · rename_i i
    have h0 : D.bel 0 (.ref i) = true := h 0
    simp [D.bel] at h0
  · rw [if_pos (h n)]
theorem finsS_pur {n : Nat} {s : S} : ∀ {xs : List D}, (∀ x ∈ xs, Pur x) → finsS n s xs = some xs
  | [], _ => rfl
  | x :: xs, h => by
    rw [finsS, finS_pur (h x (List.mem_cons_self ..)), finsS_pur fun z hz => h z (List.mem_cons_of_mem _ hz)]
theorem bels_pur {n : Nat} : ∀ {xs : List D}, (∀ x ∈ xs, Pur x) → D.bels n xs = true
  | [], _ => rfl
  | x :: xs, h => by
    rw [D.bels, h x (List.mem_cons_self ..) n, bels_pur fun z hz => h z (List.mem_cons_of_mem _ hz)]
    rfl
theorem pur_bels : ∀ {xs : List D}, (∀ n, D.bels n xs = true) → ∀ x ∈ xs, Pur x
  | [], _, _, h => by cases h
  | y :: ys, hb, x, h => by
    have hb' : ∀ n, D.bel n y = true ∧ D.bels n ys = true := fun n => by
      have := hb n
      rw [D.bels, Bool.and_eq_true] at this
      exact this
    rcases List.mem_cons.mp h with rfl | e
    · exact fun n => (hb' n).1
    · exact pur_bels (fun n => (hb' n).2) x e
theorem pur_tup {xs : List D} (h : ∀ x ∈ xs, Pur x) : Pur (.tup xs) := fun n => by
  rw [D.bel, bels_pur h]
theorem pur_lst {xs : List D} (h : ∀ x ∈ xs, Pur x) : Pur (.lst xs) := fun n => by
  rw [D.bel, bels_pur h]
theorem pur_int (i : Int) : Pur (.int i) := fun _ => rfl
theorem fin2_pur {n : Nat} {s : S} {d : D} (h : Pur d) : fin2 n s d = some d := by
  unfold fin2
  split
  · rename_i xs
    rw [finsS_pur (pur_bels fun n => by have := h n; rw [D.bel] at this; exact this)]
    rfl
  · rename_i i
    have h0 : D.bel 0 (.ref i) = true := h 0
    simp [D.bel] at h0
  · exact finS_pur h
theorem fin2_ref {n i : Nat} {s : S} {xs : List D} (hi : n ≤ i) (hs : s[i]? = some (.lst xs)) (h : ∀ x ∈ xs, Pur x) : fin2 n s (.ref i) = some (.lst xs) := by
  unfold fin2
  simp only [hs, if_neg (Nat.not_lt.mpr hi), finsS_pur h, Option.map_some]
theorem all_pur {n : Nat} {r : List O} (h : ∀ o ∈ r, PurO o) : r.all (O.bel n) = true := by
  rw [List.all_eq_true]
  exact fun o ho => h o ho n
/-! == of short tuples -/
/-! a list of 17 levels -/
/-! what is drawn -/
theorem w_dict0 {L : Lc} {s : S} {Q : Cn (D → S → Prop)} {E : Cn (Addr → List Str → List D → S → Prop)} : @WR _ (fDict0 L s) Q E = Q (.dk [] []) s := rfl
theorem rl_put {o : O} {r : S} {xs : List D} {i : Int} {d : D} (h0 : 0 ≤ i) (h1 : i < xs.length) : dPut (o :: (r ++ [.lst xs])) (.ref (r.length + 1)) (.int i) d = some (o :: (r ++ [.lst (xs.set i.toNat d)])) := by
  have := ap_put (r := o :: r) (xs := xs) (k := i.toNat) (by omega) d
  rw [show ((i.toNat : Nat) : Int) = i by omega] at this
  exact this
end SI
namespace SI
open PySem L2 Pg Mt
end SI

/-! small rules that many laws want -/
namespace SI
open PySem L2
theorem list_l (s : S) (x : List D) : bList s [.lst x] = some (.lst x) := rfl
theorem tuple_l (s : S) (x : List D) : bTuple s [.lst x] = some (.tup x) := rfl
theorem add_ll {s : S} {xs ys : List D} (h : xs.length + ys.length ≤ 1000000) : dAdd s (.lst xs) (.lst ys) = some (.lst (xs ++ ys)) := by
  show (if xs.length + ys.length ≤ big then _ else _) = _
  exact if_pos h
theorem add_tt {s : S} {xs ys : List D} (h : xs.length + ys.length ≤ 1000000) : dAdd s (.tup xs) (.tup ys) = some (.tup (xs ++ ys)) := by
  show (if xs.length + ys.length ≤ big then _ else _) = _
  exact if_pos h
theorem isn_nn (s : S) : dIs true s .non .non = some (.bl false) := rfl
theorem is_nn (s : S) : dIs false s .non .non = some (.bl true) := rfl
/-! comprehensions over pure data: the list in the making is pure -/
section
open Pg
variable {L : Lc} {s : S} {Q : Cn (D → S → Prop)} {E : Cn (Addr → List Str → List D → S → Prop)}
theorem lcp_run {α : Type} {q : Tg} {t : F Bool} {fe : F D} {r : Src} {L0 : Lc} {s : S} (f : α → D) (p : α → Bool) (g : α → D) (hc : ∀ acc, chk r (s ++ [.lst acc]) = true) : ∀ (xs : List α) (acc : List D), acc.length + xs.length ≤ 1000000 → (∀ y ∈ acc, Pur y) → (∀ x ∈ xs, Pur (g x)) →
    (∀ x ∈ xs, ∀ acc, (∀ y ∈ acc, Pur y) → @WO _ (q (f x) L0) ⟨fun L1 => @WR _ (t L1 (s ++ [.lst acc])) ⟨fun b s' => b = p x ∧ s' = s ++ [.lst acc] ∧ (p x = true → @WR _ (fe L1 (s ++ [.lst acc])) ⟨fun y s'' => y = g x ∧ s'' = s ++ [.lst acc]⟩ ⟨nE⟩)⟩ ⟨nE⟩⟩) →
    lcL q t fe r L0 s.length (xs.map f) (s ++ [.lst acc]) = .ok () (s ++ [.lst (acc ++ (xs.filter p).map g)])
  | [], acc, _, _, _, _ => by
    rw [List.map_nil, lcL, if_pos (hc acc)]
    simp
  | x :: xs, acc, hl, ha, hg, hx => by
    have h1 := hx x (List.mem_cons_self ..) acc ha
    rw [List.map_cons, lcL, if_pos (hc acc)]
    cases eq : q (f x) L0 with
    | none =>
      rw [eq] at h1
      exact h1.elim
    | some L1 =>
      rw [eq] at h1
      have h1' : @WR _ (t L1 (s ++ [.lst acc])) ⟨fun b s' => b = p x ∧ s' = s ++ [.lst acc] ∧ (p x = true → @WR _ (fe L1 (s ++ [.lst acc])) ⟨fun y s'' => y = g x ∧ s'' = s ++ [.lst acc]⟩ ⟨nE⟩)⟩ ⟨nE⟩ := h1
      obtain ⟨b, s', e1, rfl, rfl, h2⟩ := ex_ok h1'
      dsimp only
      rw [e1, R_bind_ok]
      rw [List.length_cons] at hl
      have hg' : ∀ y ∈ xs, Pur (g y) := fun y hy => hg y (List.mem_cons_of_mem _ hy)
      cases hp : p x with
      | true =>
        obtain ⟨y, s'', e2, rfl, rfl⟩ := ex_ok (h2 hp)
        rw [if_pos rfl, e2, R_bind_ok, get_app]
        dsimp only
        rw [if_pos (show acc.length < big by show acc.length < 1000000; omega), set_app, lcp_run f p g hc xs _ (by simp; omega) (fun y hy => ?_) hg' fun z hz => hx z (List.mem_cons_of_mem _ hz)]
        · simp [hp]
        · rcases List.mem_append.mp hy with hy | hy
          · exact ha y hy
          · rw [List.mem_singleton.mp hy]
            exact hg x (List.mem_cons_self ..)
      | false =>
        rw [if_neg (by simp), lcp_run f p g hc xs acc (by omega) ha hg' fun z hz => hx z (List.mem_cons_of_mem _ hz)]
        simp [hp]
theorem lcp_wp {α : Type} {q : Tg} {t : F Bool} {fe : F D} {vs : List Nat} {r : Src} (xs : List α) (f : α → D) (p : α → Bool) (g : α → D) (hr : r.items = xs.map f) (hc : ∀ acc, chk r (s ++ [.lst acc]) = true) (hl : xs.length ≤ 1000000) (hs : ∀ o ∈ s, PurO o) (hg : ∀ x ∈ xs, Pur (g x))
    (hx : ∀ x ∈ xs, ∀ acc, (∀ y ∈ acc, Pur y) → @WO _ (q (f x) (wipeD L vs)) ⟨fun L1 => @WR _ (t L1 (s ++ [.lst acc])) ⟨fun b s' => b = p x ∧ s' = s ++ [.lst acc] ∧ (p x = true → @WR _ (fe L1 (s ++ [.lst acc])) ⟨fun y s'' => y = g x ∧ s'' = s ++ [.lst acc]⟩ ⟨nE⟩)⟩ ⟨nE⟩⟩)
    (hQ : Q (.lst ((xs.filter p).map g)) s) : @WR _ (lcE q t fe vs L r s) Q E := by
  have e := lcp_run (L0 := wipeD L vs) (s := s) (fe := fe) (r := r) f p g hc xs [] (by simpa using hl) (fun y hy => by cases hy) hg hx
  unfold lcE
  rw [hr, e, List.nil_append]
  show @WR _ (match (s ++ [O.lst ((xs.filter p).map g)])[s.length]? with
    | some (.lst ys) => _
    | _ => .bad) Q E
  rw [get_app]
  dsimp only
  rw [List.take_left, if_pos ⟨all_pur hs, bels_pur fun y hy => by
    obtain ⟨x, hx, rfl⟩ := List.mem_map.mp hy
    exact hg x (List.mem_filter.mp hx).1⟩]
  exact hQ
theorem lcp_all {α : Type} {q : Tg} {fe : F D} {vs : List Nat} {r : Src} (xs : List α) (f g : α → D) (hr : r.items = xs.map f) (hc : ∀ acc, chk r (s ++ [.lst acc]) = true) (hl : xs.length ≤ 1000000) (hs : ∀ o ∈ s, PurO o) (hg : ∀ x ∈ xs, Pur (g x))
    (hx : ∀ x ∈ xs, ∀ acc, (∀ y ∈ acc, Pur y) → @WO _ (q (f x) (wipeD L vs)) ⟨fun L1 => @WR _ (fe L1 (s ++ [.lst acc])) ⟨fun y s'' => y = g x ∧ s'' = s ++ [.lst acc]⟩ ⟨nE⟩⟩)
    (hQ : Q (.lst (xs.map g)) s) : @WR _ (lcE q fYes fe vs L r s) Q E := by
  have ef : xs.filter (fun _ => true) = xs := by simp
  refine lcp_wp xs f (fun _ => true) g hr hc hl hs hg (fun x h acc ha => ?_) (by rw [ef]; exact hQ)
  have h1 := hx x h acc ha
  cases eq : q (f x) (wipeD L vs) with
  | none =>
    rw [eq] at h1
    exact h1.elim
  | some L1 =>
    rw [eq] at h1
    exact ⟨rfl, rfl, fun _ => h1⟩
theorem purO_lst {xs : List D} (h : ∀ x ∈ xs, Pur x) : PurO (.lst xs) := fun n => bels_pur h
theorem pur_app {s : S} {o : O} (hs : ∀ o ∈ s, PurO o) (ho : PurO o) : ∀ o' ∈ s ++ [o], PurO o' := fun x hx => by
  rcases List.mem_append.mp hx with h | h
  · exact hs x h
  · rw [List.mem_singleton.mp h]
    exact ho
theorem pur_cons {s : S} {o : O} (hs : ∀ o ∈ s, PurO o) (ho : PurO o) : ∀ o' ∈ o :: s, PurO o' := fun x hx => by
  rcases List.mem_cons.mp hx with h | h
  · rw [h]
    exact ho
  · exact hs x h
theorem pur_nil : ∀ o ∈ ([] : S), PurO o := fun o h => by cases h
theorem pur_srcv (v : SrcV) : PurO v.o := fun n => bel_src v n
theorem pur_src1 (v : SrcV) : ∀ o ∈ [v.o], PurO o := pur_cons pur_nil (pur_srcv v)
end
end SI

/-! names: wrong_at, checked_name, time_of, is_name, known_at -/
namespace SI
open PySem L2 Pg Mt
variable {c : Cl} {M : Mc} {t : Option Nat}
noncomputable def lastN (t : Option Nat) : Int := match t with
  | none => 1000000000000000
  | some k => min 1000000000000000 ((k : Int) - 1)
theorem lastN_le (t : Option Nat) : lastN t ≤ 1000000000000000 := by
  cases t <;> simp only [lastN] <;> omega
noncomputable def nI (n : Nat) : D := .int n
/-- no tuple -/
noncomputable def NoTp (c : Cl) (d : D) : Prop := ∀ s, bIsi c.cs s [d, .ty "tuple"] = some (.bl false)
inductive NmC (c : Cl) : D → Prop
  | no {d : D} (h : NoTp c d) : NmC c d
  | tp {xs : List D} (hx : ∀ x ∈ xs, Th c x) : NmC c (.tup xs)
theorem isi_tup (xs : List D) (s : S) : bIsi c.cs s [.tup xs, .ty "tuple"] = some (.bl true) := rfl
theorem NoTp.ne {xs : List D} (h : NoTp c (.tup xs)) : False := by
  have := h []
  rw [isi_tup] at this
  simp at this
/-- a name -/
noncomputable def nmD (r : Nat) (ns : List Nat) : D := .tup (nI r :: ns.map nI)
structure OkN (t : Option Nat) (many : Nat) (r : Nat) (ns : List Nat) : Prop where
  r : r < many
  l : ns.length ≤ 199
  m : ∀ n ∈ ns, (n : Int) ≤ lastN t
/-! the time -/
noncomputable def smN : List Nat → Nat
  | [] => 0
  | n :: ns => n + smN ns
theorem smN_le {hi : Int} (h0 : 0 ≤ hi) : ∀ {ns : List Nat}, (∀ n ∈ ns, (n : Int) ≤ hi) → (smN ns : Int) ≤ ns.length * hi
  | [], _ => by simp [smN]
  | n :: ns, h => by
    have a := smN_le h0 (ns := ns) fun m hm => h m (List.mem_cons_of_mem _ hm)
    have b := h n (List.mem_cons_self ..)
    rw [smN, List.length_cons]
    push_cast
    rw [Int.add_mul]
    omega
noncomputable def TM (M : Mc) (rs : List Int) (r : Nat) (ns : List Nat) : Int := rs.getD r 0 + ns.length * M.letter + smN ns * M.gap
theorem OkN.sm {many r : Nat} {ns : List Nat} (h : OkN t many r ns) : (smN ns : Int) ≤ 199 * 1000000000000000 := by
  have a := smN_le (hi := 1000000000000000) (by decide) (ns := ns) fun n hn => by have := h.m n hn; have := lastN_le t; omega
  have := h.l
  have b : (ns.length : Int) * 1000000000000000 ≤ 199 * 1000000000000000 := Int.mul_le_mul_of_nonneg_right (by omega) (by decide)
  omega
end SI

/-! which pairs explain what was seen: the plain law -/
namespace Mt
/-- turns, their sum, the time -/
noncomputable abbrev Ln := Nat × Nat × Nat
inductive TBk where
  | non | any | one (a b : Int) | line (a b s t : Int) (k : Option Int)
noncomputable def eqL (l : Ln) (a b : Int) : Prop := (l.1 : Int) * a + (l.2.1 : Int) * b = (l.2.2 : Int)
noncomputable instance (l : Ln) (a b : Int) : Decidable (eqL l a b) := by unfold eqL; exact inferInstance
structure Sol (ls : List Ln) (a b : Int) : Prop where
  a1 : 1 ≤ a
  b1 : 1 ≤ b
  eq : ∀ l ∈ ls, eqL l a b
/-- no turns, no sum -/
noncomputable def Tm (ls : List Ln) : Prop := ∀ l ∈ ls, l.1 = 0 → l.2.1 = 0
noncomputable def Som (ls : List Ln) : Prop := ∃ l ∈ ls, 0 < l.1
noncomputable def Spec (ls : List Ln) : TBk → Prop
  | .any => ∀ l ∈ ls, l.1 = 0 ∧ l.2.2 = 0
  | .non => ∀ a b, ¬ Sol ls a b
  | .one a b => Som ls ∧ Sol ls a b ∧ ∀ x y, Sol ls x y → x = a ∧ y = b
  | .line a b s t none => Som ls ∧ b = 1 ∧ s = 0 ∧ t = 1 ∧ (∀ l ∈ ls, l.2.1 = 0) ∧ 1 ≤ a ∧ ∀ x y, Sol ls x y ↔ x = a ∧ 1 ≤ y
  | .line a b s t (some k) => Som ls ∧ 1 ≤ s ∧ t ≤ -1 ∧ 2 ≤ k ∧ Nat.gcd s.natAbs t.natAbs = 1 ∧ (∀ l ∈ ls, (l.1 : Int) * s + (l.2.1 : Int) * t = 0) ∧ ∀ x y, Sol ls x y ↔ ∃ i : Int, 0 ≤ i ∧ i < k ∧ x = a + i * s ∧ y = b + i * t
/-! crossing lines -/
/-! one line -/
structure One (ls : List Ln) (f : Ln) : Prop where
  f0 : 0 < f.1
  hf : f ∈ ls
  p2 : ∀ l ∈ ls, f.1 * l.2.1 = l.1 * f.2.1
  p3 : ∀ l ∈ ls, f.1 * l.2.2 = l.1 * f.2.2
/-- the line with no common divisor -/
structure Red (f : Ln) (t s : Nat) : Prop where
  t0 : 0 < t
  cop : Nat.Coprime t s
  e1 : f.1 = Nat.gcd f.1 f.2.1 * t
  e2 : f.2.1 = Nat.gcd f.1 f.2.1 * s
/-! what is told is told of the pairs alone -/
end Mt

/-! the place of a row of turns among the rows of its depth and sum -/
namespace Mt
open SI
variable {t : Option Nat}
/-- rows of d + 1 turns with the sum m whose first turn is less than v -/
noncomputable def bl (t : Option Nat) (d m v : Nat) : Nat := sm v fun i => ex t d (m - i)
theorem bl_s (d m v : Nat) : bl t d m (v + 1) = bl t d m v + ex t d (m - v) := rfl
theorem bl_top (d m : Nat) : bl t d m (cap t m) = ex t (d + 1) m := rfl
theorem bl_mono {d m v w : Nat} (h : v ≤ w) : bl t d m v ≤ bl t d m w := sm_shorter _ h
noncomputable def Bel (t : Option Nat) (n : Nat) : Prop := ∀ k, t = some k → n < k
theorem cap_le {n m : Nat} (h : n ≤ m) (hb : Bel t n) : n + 1 ≤ cap t m := by
  cases t with
  | none => unfold cap; dsimp only; omega
  | some k =>
    have := hb k rfl
    unfold cap
    dsimp only
    omega
noncomputable def RK (t : Option Nat) : List Nat → Nat
  | [] => 0
  | n :: ns => bl t ns.length (n + smN ns) n + RK t ns
theorem RK_lt : ∀ {ns : List Nat}, (∀ n ∈ ns, Bel t n) → RK t ns < ex t ns.length (smN ns)
  | [], _ => by
    show 0 < ex t 0 0
    exact Nat.one_pos
  | n :: ns, h => by
    have ih := RK_lt fun m hm => h m (List.mem_cons_of_mem _ hm)
    rw [RK, List.length_cons, smN, ← bl_top]
    have h1 := bl_mono (t := t) (d := ns.length) (m := n + smN ns) (cap_le (show n ≤ n + smN ns by omega) (h n (List.mem_cons_self ..)))
    rw [bl_s, show n + smN ns - n = smN ns by omega] at h1
    omega
/-- as tuples -/
noncomputable def ltN : List Nat → List Nat → Prop
  | n :: ns, m :: ms => n < m ∨ (n = m ∧ ltN ns ms)
  | [], _ :: _ => True
  | _, [] => False
theorem ltN_tri : ∀ (ns ms : List Nat), ns = ms ∨ ltN ns ms ∨ ltN ms ns
  | [], [] => .inl rfl
  | [], _ :: _ => .inr (.inl trivial)
  | _ :: _, [] => .inr (.inr trivial)
  | n :: ns, m :: ms => by
    rcases Nat.lt_trichotomy n m with h | h | h
    · exact .inr (.inl (.inl h))
    · subst h
      rcases ltN_tri ns ms with h | h | h
      · exact .inl (by rw [h])
      · exact .inr (.inl (.inr ⟨rfl, h⟩))
      · exact .inr (.inr (.inr ⟨rfl, h⟩))
    · exact .inr (.inr (.inl h))
theorem RK_ord : ∀ {ns ms : List Nat}, ns.length = ms.length → smN ns = smN ms → (∀ n ∈ ns, Bel t n) → (∀ n ∈ ms, Bel t n) → ltN ns ms → RK t ns < RK t ms
  | [], [], _, _, _, _, h => h.elim
  | [], _ :: _, hl, _, _, _, _ => by simp at hl
  | _ :: _, [], hl, _, _, _, _ => by simp at hl
  | n :: ns, m :: ms, hl, hs, h1, h2, h => by
    have hl' : ns.length = ms.length := by simpa using hl
    rw [smN, smN] at hs
    rw [RK, RK, hs, hl']
    rcases h with h | ⟨rfl, h⟩
    · have a := RK_lt fun m hm => h1 m (List.mem_cons_of_mem _ hm)
      have b := bl_mono (t := t) (d := ms.length) (m := m + smN ms) (show n + 1 ≤ m by omega)
      rw [bl_s, show m + smN ms - n = smN ns by omega, ← hl'] at b
      rw [← hl']
      omega
    · have := RK_ord hl' (by omega) (fun m hm => h1 m (List.mem_cons_of_mem _ hm)) (fun m hm => h2 m (List.mem_cons_of_mem _ hm)) h
      omega
theorem smN_app : ∀ (ps ms : List Nat), smN (ps ++ ms) = smN ps + smN ms
  | [], ms => by simp [smN]
  | p :: ps, ms => by
    rw [List.cons_append, smN, smN, smN_app ps ms]
    omega
end Mt

/-! below, tuple_at, place_of, name_at -/
namespace SI
open PySem L2 Pg Mt
variable {c : Cl} {M : Mc} {t : Option Nat}
/-- the row at a place -/
structure TpAt (t : Option Nat) (d m p : Nat) (ns : List Nat) : Prop where
  l : ns.length = d
  s : smN ns = m
  b : ∀ n ∈ ns, Bel t n
  r : RK t ns = p
end SI

/-! sightings: explains, told_back -/
namespace Pg
open PySem L2 SI Mt
variable {c : Cl}
noncomputable abbrev Sg := List Nat × Nat
noncomputable def lnO (g : Sg) : Ln := (g.1.length, smN g.1, g.2)
structure OkSg (g : Sg) : Prop where
  nm : OkN none 1 0 g.1
  tm : g.2 ≤ 100000000000000000000
structure OkL (l : Ln) : Prop where
  t : l.1 ≤ 199
  s : l.2.1 ≤ 199000000000000000
  x : l.2.2 ≤ 100000000000000000000
  z : l.1 = 0 → l.2.1 = 0
theorem OkSg.ln {g : Sg} (h : OkSg g) : OkL (lnO g) where
  t := by
    have := h.nm.l
    unfold lnO
    dsimp only
    omega
  s := by
    have := h.nm.sm
    unfold lnO
    dsimp only
    omega
  x := h.tm
  z := fun e => by
    have : g.1 = [] := List.length_eq_zero_iff.mp e
    unfold lnO
    rw [this]
    rfl
noncomputable def Fit (l : Ln) : Prop := l.2.2 ≤ 4000000000000000000 * l.2.1 ∨ l.2.1 = 0
end Pg

/-! the same data, of the same types -/
namespace SI
open PySem L2 Pg
variable {c : Cl}
noncomputable def integerG (c : Cl) : List D → S → R D := runF 1
  ((sRet (fAndV (fCB (bIsi c.cs) (fCons (fVar 0) (fCons (fC (.ty "int")) fNil))) (fNotV (fCB (bIsi c.cs) (fCons (fVar 0) (fCons (fC (.ty "bool")) fNil)))))))
noncomputable def sameN (c : Cl) : Nat → List D → S → R D
  | 0 => runF 3 sBad
  | n + 1 => runF 3
      ((sSeq (sIf (fTst (fOp (dIs false) (fVar 1) (fC .non))) (sRet (fOp (dIs false) (fVar 0) (fC .non))) sNext)
    (sSeq (sIf (fTst (fCB (bIsi c.cs) (fCons (fVar 1) (fCons (fC (.ty "bool")) fNil)))) (sRet (fAndV (fCB (bIsi c.cs) (fCons (fVar 0) (fCons (fC (.ty "bool")) fNil))) (fOp (dEqD false) (fVar 0) (fVar 1)))) sNext)
    (sSeq (sIf (fTst (fCB (bIsi c.cs) (fCons (fVar 1) (fCons (fC (.ty "int")) fNil)))) (sRet (fAndV (fCall 1 (integerG c) (fCons (fVar 0) fNil)) (fOp (dEqD false) (fVar 0) (fVar 1)))) sNext)
    (sSeq (sIf (fTst (fCB (bIsi c.cs) (fCons (fVar 1) (fCons (fC (.ty "str")) fNil)))) (sRet (fAndV (fCB (bIsi c.cs) (fCons (fVar 0) (fCons (fC (.ty "str")) fNil))) (fOp (dEqD false) (fVar 0) (fVar 1)))) sNext)
    (sSeq (sIf (fAnd (fTst (fCB (bIsi c.cs) (fCons (fVar 1) (fCons (fC (.ty "list")) fNil)))) (fNot (fTst (fCB (bIsi c.cs) (fCons (fVar 0) (fCons (fC (.ty "list")) fNil)))))) (sRet (fC (.bl false))) sNext)
    (sSeq (sIf (fAnd (fTst (fCB (bIsi c.cs) (fCons (fVar 1) (fCons (fC (.ty "tuple")) fNil)))) (fNot (fTst (fCB (bIsi c.cs) (fCons (fVar 0) (fCons (fC (.ty "tuple")) fNil)))))) (sRet (fC (.bl false))) sNext)
    (sSeq (sIf (fTst (fOp (dEqD true) (fCB bLen (fCons (fVar 0) fNil)) (fCB bLen (fCons (fVar 1) fNil)))) (sRet (fC (.bl false))) sNext)
    (sSeq (sFor (fRng dRng1 (fCons (fCB bLen (fCons (fVar 1) fNil)) fNil)) (gN 2) (sIf (fNot (fTst (fCall 2 (sameN c n) (fCons (fOp dIx (fVar 0) (fVar 2)) (fCons (fOp dIx (fVar 1) (fVar 2)) fNil))))) (sRet (fC (.bl false))) sNext))
    (sRet (fC (.bl true))))))))))))
noncomputable def smOk : Nat → D → Bool
  | 0, _ => false
  | _ + 1, .non => true
  | _ + 1, .bl _ => true
  | _ + 1, .int _ => true
  | _ + 1, .str x => PyData.strOk x
  | n + 1, .tup xs => decide (xs.length ≤ 1000000) && xs.all (smOk n)
  | n + 1, .lst xs => decide (xs.length ≤ 1000000) && xs.all (smOk n)
  | _ + 1, _ => false
theorem it_at (s : S) {xs : List D} {i : Nat} (h : i < xs.length) : dIx s (.tup xs) (.int i) = some xs[i] := by
  rw [dIx_tup, atI_in (by omega) (by omega), Int.toNat_natCast, List.getElem?_eq_getElem h]
theorem il_at (s : S) {xs : List D} {i : Nat} (h : i < xs.length) : dIx s (.lst xs) (.int i) = some xs[i] := by
  rw [dIx_lst, atI_in (by omega) (by omega), Int.toNat_natCast, List.getElem?_eq_getElem h]
theorem eq_bb (s : S) (b : Bool) : dEqD false s (.bl b) (.bl b) = some (.bl true) := by
  cases b <;> rfl
theorem same_refl : ∀ (n : Nat) (d : D), smOk n d = true → ∀ s : S, sameN c n [d, d] s = .ok (.bl true) s
  | 0, d, h, _ => by cases d <;> cases h
  | n + 1, d, h, s => by
    have ih := same_refl n
    apply eq_ok
    rw [sameN]
    have tb : ∀ (xs : List D) (y : String), y ∈ ["bool", "int", "str"] → bIsi c.cs s [.tup xs, .ty y] = some (.bl false) := fun xs y hy => by
      simp only [List.mem_cons, List.not_mem_nil, or_false] at hy
      rcases hy with rfl | rfl | rfl <;> rfl
    have lb : ∀ (xs : List D) (y : String), y ∈ ["bool", "int", "str"] → bIsi c.cs s [.lst xs, .ty y] = some (.bl false) := fun xs y hy => by
      simp only [List.mem_cons, List.not_mem_nil, or_false] at hy
      rcases hy with rfl | rfl | rfl <;> rfl
    cases d with
    | non => simp_arith
    | bl b => simp_arith [show dIs false s (.bl b) .non = some (.bl false) from rfl, isi_blb, eq_bb]
    | int i => simp_arith [isi_int, isi_intb, show integerG c [.int i] s = .ok (.bl true) s from rfl]
    | str x =>
      have hx : PyData.strOk x = true := h
      simp_arith [show dIs false s (.str x) .non = some (.bl false) from rfl, show bIsi c.cs s [.str x, .ty "bool"] = some (.bl false) from rfl, show bIsi c.cs s [.str x, .ty "int"] = some (.bl false) from rfl, show bIsi c.cs s [.str x, .ty "str"] = some (.bl true) from rfl, eqS (s := s) (b := true) hx hx (by simp)]
    | tup xs =>
      simp only [smOk, Bool.and_eq_true, decide_eq_true_eq] at h
      obtain ⟨hl, ha⟩ := h
      simp_arith [show dIs false s (.tup xs) .non = some (.bl false) from rfl, tb xs "bool" (by simp), tb xs "int" (by simp), tb xs "str" (by simp), show bIsi c.cs s [.tup xs, .ty "list"] = some (.bl false) from rfl, show bIsi c.cs s [.tup xs, .ty "tuple"] = some (.bl true) from rfl]
      rw [rng1 (by omega) (by omega), w_some, Int.toNat_natCast]
      refine ws_rng (fun i L s' => ∃ y, L = [some (.tup xs), some (.tup xs), y] ∧ s = s') ⟨none, rfl, rfl⟩ ?_ ?_
      · rintro i L s' hi ⟨y, rfl, rfl⟩
        simp_arith [it_at s hi, ih xs[i] (List.all_eq_true.mp ha _ (List.getElem_mem hi)) s]
        exact ⟨_, rfl⟩
      · rintro L s' ⟨y, rfl, rfl⟩
        simp_arith
    | lst xs =>
      simp only [smOk, Bool.and_eq_true, decide_eq_true_eq] at h
      obtain ⟨hl, ha⟩ := h
      simp_arith [show dIs false s (.lst xs) .non = some (.bl false) from rfl, lb xs "bool" (by simp), lb xs "int" (by simp), lb xs "str" (by simp), show bIsi c.cs s [.lst xs, .ty "list"] = some (.bl true) from rfl, show bIsi c.cs s [.lst xs, .ty "tuple"] = some (.bl false) from rfl]
      rw [rng1 (by omega) (by omega), w_some, Int.toNat_natCast]
      refine ws_rng (fun i L s' => ∃ y, L = [some (.lst xs), some (.lst xs), y] ∧ s = s') ⟨none, rfl, rfl⟩ ?_ ?_
      · rintro i L s' hi ⟨y, rfl, rfl⟩
        simp_arith [il_at s hi, ih xs[i] (List.all_eq_true.mp ha _ (List.getElem_mem hi)) s]
        exact ⟨_, rfl⟩
      · rintro L s' ⟨y, rfl, rfl⟩
        simp_arith
    | _ => cases h
end SI

/-! bounds of what is told back -/
namespace Pg
open PySem L2 SI Mt
variable {c : Cl} {ls : List Ln}
structure LBd (a b s t k : Int) : Prop where
  a0 : 1 ≤ a
  a1 : a ≤ 100000000000000000000
  b0 : 1 ≤ b
  b1 : b ≤ 100000000000000000000
  s0 : 1 ≤ s
  s1 : s ≤ 100000000000000000000
  t0 : -100000000000000000000 ≤ t
  t1 : t ≤ -1
  k0 : 2 ≤ k
  k1 : k ≤ 100000000000000000001
theorem Sol.sub {ks : List Ln} {a b : Int} (h : Sol ls a b) (hk : ∀ l ∈ ks, l ∈ ls) : Sol ks a b := ⟨h.a1, h.b1, fun l hl => h.eq l (hk l hl)⟩
end Pg

/-! texts: rules, and number_of -/
namespace SI
open PySem L2 PyProof.Rows
section
variable {L : Lc} {s : S} {Q : Cn (D → S → Prop)} {E : Cn (Addr → List Str → List D → S → Prop)}
noncomputable def strD : D → Option Str
  | .str y => some y
  | _ => none
theorem w_m1 (m : S → D → D → Option D) (fo fe : F D) : @WR _ (fM1 m fo fe L s) Q E = @WR _ (fo L s) ⟨fun d s1 => @WO _ (strD d) ⟨fun _ => @WR _ (fe L s1) ⟨fun e s2 => @WO _ (m s2 d e) ⟨fun z => Q z s2⟩⟩ E⟩⟩ E := by
  refine (w_bind ..).trans (congrArg (fun z => @WR _ (fo L s) ⟨z⟩ _) ?_)
  funext d s1
  cases d <;> try rfl
  refine (w_bind ..).trans (congrArg (fun z => @WR _ (fe L s1) ⟨z⟩ _) ?_)
  funext e s2
  cases m s2 (.str _) e <;> rfl
noncomputable def fmtD : D → Option Str
  | .str y => if y.length ≤ big then some y else none
  | .int i => if i.natAbs.log2 < 1920 then some (toString i) else none
  | _ => none
theorem w_fmt (f : F D) : @WR _ (fFmt f L s) Q E = @WR _ (f L s) ⟨fun d s1 => @WO _ (fmtD d) ⟨fun y => Q (.str y) s1⟩⟩ E := by
  refine (w_bind ..).trans (congrArg (fun z => @WR _ (f L s) ⟨z⟩ _) ?_)
  funext d s1
  cases d <;> try rfl
  · unfold fmtD
    dsimp only
    split <;> rfl
  · unfold fmtD
    dsimp only
    split <;> rfl
noncomputable def jsD (acc : Str) : D → Option Str
  | .str y => if (acc ++ y).length ≤ big then some (acc ++ y) else none
  | _ => none
theorem w_jsn (acc : Str) : @WR _ (fJs [] acc L s) Q E = Q (.str acc) s := rfl
theorem w_jsc (f : F D) (fs : List (F D)) (acc : Str) : @WR _ (fJs (f :: fs) acc L s) Q E = @WR _ (f L s) ⟨fun d s1 => @WO _ (jsD acc d) ⟨fun z => @WR _ (fJs fs z L s1) Q E⟩⟩ E := by
  refine (w_bind ..).trans (congrArg (fun z => @WR _ (f L s) ⟨z⟩ _) ?_)
  funext d s1
  cases d <;> try rfl
  unfold jsD
  dsimp only
  split <;> rfl
end
theorem strD_str (y : Str) : strD (.str y) = some y := rfl
theorem strsOf_map : ∀ ys : List Str, strsOf (ys.map D.str) = some ys
  | [] => rfl
  | y :: ys => by
    show ((strsOf (ys.map D.str)).map (y :: ·)) = _
    rw [strsOf_map ys]
    rfl
theorem join_ok {s : S} {d : D} {a : Str} {ys : List Str} (h : seqOf s d = some (ys.map D.str)) (hl : (ys.map (·.length)).sum + ys.length * a.length ≤ big) : mJoin s (.str a) d = some (.str (Txt.join a ys)) := by
  show (((seqOf s d).bind strsOf).bind fun ys => if (ys.map (·.length)).sum + ys.length * a.length ≤ big then some (D.str (Txt.join a ys)) else none) = _
  rw [h]
  show ((strsOf (ys.map D.str)).bind _) = _
  rw [strsOf_map]
  exact if_pos hl
/-! signs -/
/-- str(n) -/
noncomputable def nS (n : Nat) : Str := Str.ofString (toString ((n : Nat) : Int))
theorem tl_nS (n : Nat) : TL.tl (nS n) = TL.numL n := TL.tl_num n
theorem log2_nat {n : Nat} (h : n < 10 ^ 30) : ((n : Int)).natAbs.log2 < 1920 := log2_small (k := 1920) (by decide) (by
  rw [Int.natAbs_natCast]
  exact Nat.lt_trans h (by decide +kernel))
theorem bStr_nat {n : Nat} (h : n < 10 ^ 30) (s : S) : bStr s [.int n] = some (.str (nS n)) := if_pos (log2_nat h)
theorem fmt_nat {n : Nat} (h : n < 10 ^ 30) : fmtD (.int n) = some (nS n) := if_pos (log2_nat h)
end SI
namespace Mt
open PySem L2
/-- the number that a word writes -/
noncomputable def numW (l : List Nat) : Option Nat := if l.length < 1 ∨ 21 < l.length ∨ (l[0]? = some 48 ∧ 1 < l.length) ∨ ¬ (∀ c ∈ l, 48 ≤ c ∧ c ≤ 57) then none else some (NumText.digitsVal l)
end Mt
namespace SI
open PySem L2 Pg Mt
variable {c : Cl}
/-- signs that a text may hold -/
noncomputable def TOk (l : List Nat) : Prop := ∀ c ∈ l, c < 1114112
theorem tok_str {x : Str} (h : TOk (TL.tl x)) : PyData.strOk x = true := by
  unfold PyData.strOk
  rw [← Array.all_toList, List.all_eq_true]
  exact fun c hc => decide_eq_true (h c hc)
theorem eqv_str (x y : Str) : PyData.eqv (.str x) (.str y) = decide (x = y) := by
  rw [PyData.eqv]
  by_cases h : x = y
  · simp [h]
  · simp [h]
theorem dEq_st {x y : Str} (hx : TOk (TL.tl x)) (hy : TOk (TL.tl y)) (neg : Bool) (s : S) : dEqD neg s (.str x) (.str y) = some (.bl (if neg = true then !decide (x = y) else decide (x = y))) := by
  unfold dEqD
  simp only [toPyT, toPy, eqv_str]
  rw [if_pos]
  simp [SeqAt.shaped, PyData.canLay0, PyData.depth, tok_str hx, tok_str hy]
end SI

/-! texts as lists of signs: cutting and joining; a line of sightings -/
namespace Mt
open PySem L2
noncomputable def st (l : List Nat) : Str := ⟨l.toArray⟩
theorem tl_st (l : List Nat) : TL.tl (st l) = l := rfl
theorem st_len (l : List Nat) : (st l).length = l.length := by rw [TL.len_tl, tl_st]
theorem st_inj {l m : List Nat} (h : st l = st m) : l = m := by
  have := congrArg TL.tl h
  exact this
theorem st_app (l m : List Nat) : st l ++ st m = st (l ++ m) := TL.ext_tl (by rw [TL.tl_append]; rfl)
noncomputable def cut (s : Nat) : List Nat → List (List Nat)
  | [] => [[]]
  | c :: r => if c = s then [] :: cut s r else match cut s r with
    | p :: ps => (c :: p) :: ps
    | [] => [[c]]
theorem joinL_cons {S p : List Nat} {ps : List (List Nat)} (h : ps ≠ []) : TL.joinL S (p :: ps) = p ++ (S ++ TL.joinL S ps) := by
  cases ps with
  | nil => exact absurd rfl h
  | cons q r => rfl
theorem join_st (a : List Nat) (ps : List (List Nat)) : Txt.join (st a) (ps.map st) = st (TL.joinL a ps) := by
  refine TL.ext_tl ?_
  rw [TL.join_eq, TL.tl_join, tl_st, tl_st, List.map_map]
  show TL.joinL a (ps.map fun p => p) = _
  rw [List.map_id']
/-! a line of sightings -/
noncomputable def seenL : List Nat := [115, 101, 101, 110]
theorem sp_st : (" " : Str) = st [32] := by decide +kernel
theorem nl_st : ("\n" : Str) = st [10] := by decide +kernel
/-- all of them numbers -/
noncomputable def numsW : List (List Nat) → Option (List Nat)
  | [] => some []
  | p :: ps => match numW p, numsW ps with
    | some n, some ns => some (n :: ns)
    | _, _ => none
/-- the name that a word writes -/
noncomputable def nameW (b : List Nat) : Option (List Nat) := match numsW (cut 46 b) with
  | some (0 :: ns) => if ns.length ≤ 199 ∧ ∀ n ∈ ns, n ≤ 1000000000000000 then some ns else none
  | _ => none
/-- the sighting that a line writes -/
noncomputable def sgW (l : List Nat) : Option (List Nat × Nat) := match cut 32 l with
  | [a, b, t] => if a = seenL then match nameW b, numW t with
      | some ns, some n => if n ≤ 100000000000000000000 then some (ns, n) else none
      | _, _ => none
    else none
  | _ => none
theorem joinL_mem {a : List Nat} {c : Nat} : ∀ {ps : List (List Nat)}, c ∈ TL.joinL a ps → c ∈ a ∨ ∃ p ∈ ps, c ∈ p
  | [], h => by cases h
  | [p], h => .inr ⟨p, List.mem_singleton.mpr rfl, h⟩
  | p :: q :: r, h => by
    rw [joinL_cons (List.cons_ne_nil _ _)] at h
    rcases List.mem_append.mp h with h | h
    · exact .inr ⟨p, List.mem_cons_self .., h⟩
    · rcases List.mem_append.mp h with h | h
      · exact .inl h
      · rcases joinL_mem h with h | ⟨z, hz, h⟩
        · exact .inl h
        · exact .inr ⟨z, List.mem_cons_of_mem _ hz, h⟩
/-! what is read is what would be written -/
end Mt

/-! the place of a name -/
namespace Pg
open Mt SI
variable {M : Mc} {t : Option Nat}
/-- hands of depth d known just at T, over the roots -/
noncomputable def SR (M : Mc) (t : Option Nat) (T : Int) (d : Nat) : List Int → Int
  | [] => 0
  | r :: rs => KJ M t d (T - r - d * M.letter) + SR M t T d rs
theorem SR_take (M : Mc) (t : Option Nat) (T : Int) (d : Nat) : ∀ (rs : List Int) (i : Nat) (hi : i < rs.length), SR M t T d (rs.take (i + 1)) = SR M t T d (rs.take i) + KJ M t d (T - rs[i] - d * M.letter)
  | [], i, hi => by simp at hi
  | r :: rs, 0, _ => by simp [SR]
  | r :: rs, i + 1, hi => by
    have := SR_take M t T d rs i (by simpa using hi)
    simp only [List.take_succ_cons, SR, List.getElem_cons_succ] at this ⊢
    omega
theorem SR_nonneg (hM : M.Ok) (T : Int) (d : Nat) : ∀ rs : List Int, 0 ≤ SR M t T d rs
  | [] => Int.le_refl _
  | r :: rs => by
    have := SR_nonneg hM T d rs
    have := KJ_nonneg (t := t) hM d (T - r - d * M.letter)
    simp only [SR]
    omega
theorem SR_take_le (hM : M.Ok) (T : Int) (d : Nat) : ∀ (rs : List Int) (i : Nat), SR M t T d (rs.take i) ≤ SR M t T d rs
  | [], i => by simp
  | r :: rs, 0 => by
    have := SR_nonneg (t := t) hM T d (r :: rs)
    simpa [SR] using this
  | r :: rs, i + 1 => by
    have := SR_take_le hM T d rs i
    simp only [List.take_succ_cons, SR]
    omega
theorem SR_take_mono (hM : M.Ok) (T : Int) (d : Nat) (rs : List Int) {i j : Nat} (h : i ≤ j) : SR M t T d (rs.take i) ≤ SR M t T d (rs.take j) := by
  have := SR_take_le (t := t) hM T d (rs.take j) i
  rw [List.take_take, Nat.min_eq_left h] at this
  exact this
noncomputable def P1 (M : Mc) (t : Option Nat) (T : Int) (rs : List Int) (d : Nat) : Int := smZ d fun d' => SR M t T d' rs
theorem P1_s (T : Int) (rs : List Int) (d : Nat) : P1 M t T rs (d + 1) = P1 M t T rs d + SR M t T d rs := rfl
theorem P1_mono (hM : M.Ok) (T : Int) (rs : List Int) {d e : Nat} (h : d ≤ e) : P1 M t T rs d ≤ P1 M t T rs e := smZ_shorter h fun _ _ => SR_nonneg hM ..
theorem LY_ext (hM : M.Ok) {x : Int} {N : Nat} (h : (x / M.letter + 1).toNat ≤ N) : LY M t x = smZ N fun d => KJ M t d (x - d * M.letter) := by
  unfold LY
  refine (smZ_extend h fun d h1 _ => KJ_neg hM ?_).symm
  have l0 := hM.letter0
  have h2 : x / M.letter + 1 ≤ d := by omega
  have h3 : x < (x / M.letter + 1) * M.letter := by
    have := Int.lt_ediv_add_one_mul_self x (show 0 < M.letter by omega)
    exact this
  have h4 : (x / M.letter + 1) * M.letter ≤ d * M.letter := Int.mul_le_mul_of_nonneg_right h2 (by omega)
  omega
theorem P1_all (hM : M.Ok) {T : Int} {N : Nat} (h : (T / M.letter + 1).toNat ≤ N) : ∀ {rs : List Int}, (∀ r ∈ rs, 0 ≤ r ∧ r ≤ 1000000000000) → P1 M t T rs N = LYs M t T rs
  | [], _ => by
    unfold P1
    exact smZ_zero fun _ _ => rfl
  | r :: rs, hr => by
    have ih := P1_all hM h (rs := rs) fun z hz => hr z (List.mem_cons_of_mem _ hz)
    have l0 := hM.letter0
    have hr0 := hr r (List.mem_cons_self ..)
    have e : P1 M t T (r :: rs) N = smZ N (fun d => KJ M t d (T - r - d * M.letter)) + P1 M t T rs N := by
      unfold P1
      rw [← smZ_add]
      rfl
    have hd : (T - r) / M.letter ≤ T / M.letter := Int.ediv_le_ediv (by omega) (by omega)
    rw [e, ih, LYs, ← LY_ext hM (x := T - r) (N := N) (by omega)]
noncomputable def PL (M : Mc) (t : Option Nat) (rs : List Int) (r : Nat) (ns : List Nat) : Int := FRs M t (TM M rs r ns - 1) rs + P1 M t (TM M rs r ns) rs ns.length + SR M t (TM M rs r ns) ns.length (rs.take r) + RK t ns
/-- a name whose time is known -/
structure VN (M : Mc) (t : Option Nat) (rs : List Int) (r : Nat) (ns : List Nat) : Prop where
  r : r < rs.length
  b : ∀ n ∈ ns, Bel t n
theorem OkN.vn {rs : List Int} {r : Nat} {ns : List Nat} (h : OkN t rs.length r ns) : VN M t rs r ns := ⟨h.r, fun n hn k e => by
  have := h.m n hn
  subst e
  simp only [lastN] at this
  omega⟩
theorem VN.kj (hM : M.Ok) (ht : OkT t) {rs : List Int} {r : Nat} {ns : List Nat} (h : VN M t rs r ns) : KJ M t ns.length (TM M rs r ns - rs[r]'h.r - ns.length * M.letter) = ex t ns.length (smN ns) := by
  have g0 := hM.gap0
  have e : TM M rs r ns - rs[r]'h.r - ns.length * M.letter = smN ns * M.gap := by
    unfold TM
    rw [List.getD_eq_getElem?_getD, List.getElem?_eq_getElem h.r, Option.getD_some]
    omega
  rw [e, KJ_ex hM ht (Int.mul_nonneg (by omega) (by omega)) (Int.mul_emod_left ..), Int.mul_ediv_cancel _ (by omega), Int.toNat_natCast]
theorem TM_nonneg (hM : M.Ok) {rs : List Int} (hr : ∀ r ∈ rs, 0 ≤ r ∧ r ≤ 1000000000000) {r : Nat} (h : r < rs.length) (ns : List Nat) : rs[r] ≤ TM M rs r ns ∧ (ns.length : Int) * M.letter ≤ TM M rs r ns ∧ (smN ns : Int) * M.gap ≤ TM M rs r ns := by
  have g0 := hM.gap0
  have l0 := hM.letter0
  have a := Int.mul_nonneg (show (0 : Int) ≤ ns.length by omega) (show 0 ≤ M.letter by omega)
  have b := Int.mul_nonneg (show (0 : Int) ≤ smN ns by omega) (show 0 ≤ M.gap by omega)
  have d := hr _ (List.getElem_mem h)
  unfold TM
  rw [List.getD_eq_getElem?_getD, List.getElem?_eq_getElem h, Option.getD_some]
  omega
theorem PL_ge (hM : M.Ok) (rs : List Int) (r : Nat) (ns : List Nat) : FRs M t (TM M rs r ns - 1) rs ≤ PL M t rs r ns := by
  have a := P1_mono (t := t) hM (TM M rs r ns) rs (Nat.zero_le ns.length)
  have b := SR_nonneg (t := t) hM (TM M rs r ns) ns.length (rs.take r)
  have e : P1 M t (TM M rs r ns) rs 0 = 0 := rfl
  unfold PL
  omega
/-- the place within (depth, root) -/
theorem PL_in (hM : M.Ok) (ht : OkT t) {rs : List Int} {r : Nat} {ns : List Nat} (h : VN M t rs r ns) : PL M t rs r ns < FRs M t (TM M rs r ns - 1) rs + P1 M t (TM M rs r ns) rs ns.length + SR M t (TM M rs r ns) ns.length (rs.take (r + 1)) := by
  have a := RK_lt h.b
  rw [SR_take _ _ _ _ _ _ h.r, h.kj hM ht]
  unfold PL
  omega
theorem PL_lt (hM : M.Ok) (ht : OkT t) {rs : List Int} (hr : ∀ r ∈ rs, 0 ≤ r ∧ r ≤ 1000000000000) {r : Nat} {ns : List Nat} (h : VN M t rs r ns) : PL M t rs r ns < FRs M t (TM M rs r ns) rs := by
  have a := PL_in hM ht h
  have b := SR_take_le (t := t) hM (TM M rs r ns) ns.length rs (r + 1)
  have e := LYs_eq (t := t) hM (TM M rs r ns) rs
  obtain ⟨N, eN⟩ : ∃ N : Nat, N = max (ns.length + 1) (TM M rs r ns / M.letter + 1).toNat := ⟨_, rfl⟩
  have d := P1_mono (t := t) hM (TM M rs r ns) rs (show ns.length + 1 ≤ N by omega)
  rw [P1_s, P1_all (N := N) hM (by omega) hr] at d
  omega
/-- names in their order -/
inductive Lt3 (M : Mc) (rs : List Int) (r : Nat) (ns : List Nat) (r' : Nat) (ns' : List Nat) : Prop
  | time (h : TM M rs r ns < TM M rs r' ns')
  | depth (h : TM M rs r ns = TM M rs r' ns') (hd : ns.length < ns'.length)
  | tup (h : TM M rs r ns = TM M rs r' ns') (hd : ns.length = ns'.length) (hl : ltN (r :: ns) (r' :: ns'))
theorem sum_eq (hM : M.Ok) {rs : List Int} {r : Nat} {ns ns' : List Nat} (hd : ns.length = ns'.length) (h : TM M rs r ns = TM M rs r ns') : smN ns = smN ns' := by
  have g0 := hM.gap0
  unfold TM at h
  rw [hd] at h
  have e : (smN ns : Int) * M.gap = smN ns' * M.gap := by omega
  have := Int.eq_of_mul_eq_mul_right (by omega) e
  omega
theorem PL_ord (hM : M.Ok) (ht : OkT t) {rs : List Int} (hr : ∀ r ∈ rs, 0 ≤ r ∧ r ≤ 1000000000000) {r r' : Nat} {ns ns' : List Nat} (h : VN M t rs r ns) (h' : VN M t rs r' ns') (hl : Lt3 M rs r ns r' ns') : PL M t rs r ns < PL M t rs r' ns' := by
  cases hl with
  | time hT =>
    have a := PL_lt hM ht hr h
    have b := PL_ge (t := t) hM rs r' ns'
    have d := FRs_mono (t := t) hM (show TM M rs r ns ≤ TM M rs r' ns' - 1 by omega) rs
    omega
  | depth hT hd =>
    have a := PL_in hM ht h
    have b := SR_take_le (t := t) hM (TM M rs r ns) ns.length rs (r + 1)
    have d := P1_mono (t := t) hM (TM M rs r ns) rs (show ns.length + 1 ≤ ns'.length by omega)
    rw [P1_s] at d
    have e := SR_nonneg (t := t) hM (TM M rs r' ns') ns'.length (rs.take r')
    have f : PL M t rs r' ns' = FRs M t (TM M rs r' ns' - 1) rs + P1 M t (TM M rs r' ns') rs ns'.length + SR M t (TM M rs r' ns') ns'.length (rs.take r') + RK t ns' := rfl
    rw [← hT] at e f
    omega
  | tup hT hd hl =>
    rcases hl with hl | ⟨rfl, hl⟩
    · have a := PL_in hM ht h
      have b := SR_take_mono (t := t) hM (TM M rs r ns) ns.length rs (show r + 1 ≤ r' by omega)
      have f : PL M t rs r' ns' = FRs M t (TM M rs r' ns' - 1) rs + P1 M t (TM M rs r' ns') rs ns'.length + SR M t (TM M rs r' ns') ns'.length (rs.take r') + RK t ns' := rfl
      rw [← hT, ← hd] at f
      omega
    · have a := RK_ord hd (sum_eq hM hd hT) h.b h'.b hl
      have f : PL M t rs r ns' = FRs M t (TM M rs r ns' - 1) rs + P1 M t (TM M rs r ns') rs ns'.length + SR M t (TM M rs r ns') ns'.length (rs.take r) + RK t ns' := rfl
      have g : PL M t rs r ns = FRs M t (TM M rs r ns - 1) rs + P1 M t (TM M rs r ns) rs ns.length + SR M t (TM M rs r ns) ns.length (rs.take r) + RK t ns := rfl
      rw [← hT, ← hd] at f
      omega
theorem Lt3_tri (M : Mc) (rs : List Int) (r : Nat) (ns : List Nat) (r' : Nat) (ns' : List Nat) : (r = r' ∧ ns = ns') ∨ Lt3 M rs r ns r' ns' ∨ Lt3 M rs r' ns' r ns := by
  rcases Int.lt_trichotomy (TM M rs r ns) (TM M rs r' ns') with h | h | h
  · exact .inr (.inl (.time h))
  · rcases Nat.lt_trichotomy ns.length ns'.length with h2 | h2 | h2
    · exact .inr (.inl (.depth h h2))
    · rcases ltN_tri (r :: ns) (r' :: ns') with e | e | e
      · injection e with e1 e2
        exact .inl ⟨e1, e2⟩
      · exact .inr (.inl (.tup h h2 e))
      · exact .inr (.inr (.tup h.symm h2.symm e))
    · exact .inr (.inr (.depth h.symm h2))
  · exact .inr (.inr (.time h))
theorem PL_inj (hM : M.Ok) (ht : OkT t) {rs : List Int} (hr : ∀ r ∈ rs, 0 ≤ r ∧ r ≤ 1000000000000) {r r' : Nat} {ns ns' : List Nat} (h : VN M t rs r ns) (h' : VN M t rs r' ns') (e : PL M t rs r ns = PL M t rs r' ns') : r = r' ∧ ns = ns' := by
  rcases Lt3_tri M rs r ns r' ns' with h1 | h1 | h1
  · exact h1
  · have := PL_ord hM ht hr h h' h1
    omega
  · have := PL_ord hM ht hr h' h h1
    omega
/-- the time of the name at a place -/
theorem PL_LT (hM : M.Ok) (ht : OkT t) {rs : List Int} (hr : ∀ r ∈ rs, 0 ≤ r ∧ r ≤ 1000000000000) {r : Nat} {ns : List Nat} (h : VN M t rs r ns) (hh : TM M rs r ns ≤ hor M t) : LT M t rs (PL M t rs r ns + 1) (TM M rs r ns) := by
  have a := PL_lt hM ht hr h
  have b := PL_ge (t := t) hM rs r ns
  have d := TM_nonneg hM hr h.r ns
  have e := hr _ (List.getElem_mem h.r)
  exact ⟨by omega, hh, by omega, by omega⟩
end Pg

/-! place_of, name_at -/
namespace SI
open PySem L2 Pg Mt
variable {c : Cl} {M : Mc} {t : Option Nat}
theorem cut_to (xs : List D) (n : Nat) (s : S) : dSl s (.lst xs) none (some (n : Int)) = some (.lst (xs.take n)) := by
  show some (D.lst (cutD xs none (some (n : Int)))) = _
  unfold cutD
  rw [HT.sIx_none, HT.sIx_nat]
  simp
end SI

/-! a sequence: a list, a tuple, or a list of the store -/
namespace Pg
open PySem L2 SI Mt
variable {c : Cl} {M : Mc}
noncomputable def Pfx (s s' : S) : Prop := ∃ t, s' = s ++ t
theorem pfx_app (s t : S) : Pfx s (s ++ t) := ⟨t, rfl⟩
theorem pfx_refl (s : S) : Pfx s s := ⟨[], by simp⟩
theorem Pfx.trans {a b d : S} (h1 : Pfx a b) (h2 : Pfx b d) : Pfx a d := by
  obtain ⟨x, rfl⟩ := h1
  obtain ⟨y, rfl⟩ := h2
  exact ⟨x ++ y, by simp⟩
theorem Pfx.get {s s' : S} (h : Pfx s s') {n : Nat} {o : O} (e : s[n]? = some o) : s'[n]? = some o := by
  obtain ⟨t, rfl⟩ := h
  rw [List.getElem?_append_left ((List.getElem?_eq_some_iff.mp e).1)]
  exact e
/-- the part up to a place -/
noncomputable def slD (d : D) (xs : List D) : D := match d with
  | .tup _ => .tup xs
  | _ => .lst xs
structure Sq (s : S) (d : D) (xs : List D) (rr : Option (Nat × List D)) : Prop where
  seq : ∀ {s'}, Pfx s s' → seqOf s' d = some xs
  src : ∀ {s'}, Pfx s s' → iSeq s' d = some ⟨xs, rr⟩
  enu : ∀ {s'}, Pfx s s' → iEnu s' d = some ⟨enumI 0 xs, rr⟩
  ck : ∀ {s'} (on : List D), Pfx s s' → chk ⟨on, rr⟩ s' = true
  isT : ∀ {s'} {cs : List Addr}, Pfx s s' → bIsiT cs s' [d, .tup [.ty "list", .ty "tuple"]] = some (.bl true)
  sl : ∀ {s'} {n : Nat}, Pfx s s' → dSl s' d none (some (n : Int)) = some (slD d (xs.take n))
  nostr : ∀ z, d ≠ .str z
theorem cut_t (xs : List D) (n : Nat) : cutD xs none (some (n : Int)) = xs.take n := by
  unfold cutD
  rw [HT.sIx_none, HT.sIx_nat]
  simp
section
variable {s : S} {d : D} {xs : List D} {rr : Option (Nat × List D)}
theorem Sq.len (h : Sq s d xs rr) {s' : S} (p : Pfx s s') : bLen s' [d] = some (.int xs.length) := by
  have e : bLen s' [d] = (seqOf s' d).map fun xs => .int xs.length := by
    cases d <;> try rfl
    exact absurd rfl (h.nostr _)
  rw [e, h.seq p]
  rfl
theorem Sq.ls (h : Sq s d xs rr) {s' : S} (p : Pfx s s') : bList s' [d] = some (.lst xs) := by
  show (seqOf s' d).map _ = _
  rw [h.seq p]
  rfl
theorem Sq.ix (h : Sq s d xs rr) {s' : S} (p : Pfx s s') {i : Nat} (hi : i < xs.length) : dIx s' d (.int i) = some xs[i] := by
  have e : dIx s' d (.int i) = (seqOf s' d).bind fun xs => L2.atI xs i := by
    cases d <;> try rfl
    exact absurd rfl (h.nostr _)
  rw [e, h.seq p]
  show L2.atI xs i = _
  rw [atI_in (by omega) (by omega), Int.toNat_natCast, List.getElem?_eq_getElem hi]
theorem Sq.mono (h : Sq s d xs rr) {s' : S} (p : Pfx s s') : Sq s' d xs rr :=
  ⟨fun q => h.seq (p.trans q), fun q => h.src (p.trans q), fun q => h.enu (p.trans q), fun on q => h.ck on (p.trans q), fun q => h.isT (p.trans q), fun q => h.sl (p.trans q), h.nostr⟩
end
theorem sq_lst (s : S) (xs : List D) : Sq s (.lst xs) xs none :=
  ⟨fun _ => rfl, fun _ => rfl, fun _ => rfl, fun _ _ => rfl, fun _ => rfl, fun _ => by rw [cut_to]; rfl, fun z h => by cases h⟩
theorem sq_tup (s : S) (xs : List D) : Sq s (.tup xs) xs none :=
  ⟨fun _ => rfl, fun _ => rfl, fun _ => rfl, fun _ _ => rfl, fun _ => rfl, fun _ => by unfold dSl; simp only [cut_t]; rfl, fun z h => by cases h⟩
theorem sq_ref {s : S} {n : Nat} {xs : List D} (e : s[n]? = some (.lst xs)) : Sq s (.ref n) xs (some (n, xs)) where
  seq p := by
    unfold seqOf
    simp only [p.get e]
  src p := by
    unfold iSeq
    simp only [p.get e]
  enu p := by
    unfold iEnu
    simp only [p.get e]
  ck on p := by
    unfold chk
    simp [p.get e]
  isT {s'} {cs} p := by
    have t : tyD s' (.ref n) = tyD s' (.lst []) := by simp only [tyD, p.get e]
    unfold bIsiT isiAny isi1
    simp only [t]
    rfl
  sl p := by
    unfold dSl lstOf
    simp only [p.get e, Option.map_some, cut_t]
    rfl
  nostr z h := by cases h
end Pg

/-! faults of plans whose rows are three ints -/
namespace Pg
open PySem L2 SI Mt
variable {c : Cl} {M : Mc}
/-- the first number below k for which p says yes -/
noncomputable def fst1 (p : Nat → Bool) : Nat → Option Nat
  | 0 => none
  | k + 1 => match fst1 p k with
    | some i => some i
    | none => if p k = true then some k else none
theorem fst1_none {p : Nat → Bool} : ∀ {k : Nat}, fst1 p k = none ↔ ∀ j, j < k → p j = false
  | 0 => ⟨fun _ j h => by omega, fun _ => rfl⟩
  | k + 1 => by
    have ih := fst1_none (p := p) (k := k)
    constructor
    · intro h j hj
      rw [fst1] at h
      cases e : fst1 p k with
      | some i =>
        rw [e] at h
        cases h
      | none =>
        rw [e] at h
        dsimp only at h
        split at h
        · cases h
        · rename_i hp
          rcases Nat.lt_or_ge j k with z | z
          · exact ih.mp e j z
          · have : j = k := by omega
            subst this
            simpa using hp
    · intro h
      rw [fst1, ih.mpr fun j hj => h j (by omega)]
      dsimp only
      rw [if_neg (by rw [h k (by omega)]; simp)]
theorem fst1_some {p : Nat → Bool} {i : Nat} (hp : p i = true) (hb : ∀ j, j < i → p j = false) : ∀ {k : Nat}, i < k → fst1 p k = some i
  | 0, h => by omega
  | k + 1, h => by
    rw [fst1]
    rcases Nat.lt_or_ge i k with z | z
    · rw [fst1_some hp hb z]
    · have : i = k := by omega
      subst this
      rw [fst1_none.mpr hb]
      dsimp only
      rw [if_pos hp]
noncomputable abbrev Rw := Int × Int × Int
noncomputable def rwT (z : Rw) : D := .tup [.int z.1, .int z.2.1, .int z.2.2]
/-- the item of a list of rows -/
noncomputable def rAt (zs : List Rw) (i : Nat) : Rw := zs.getD i (0, 0, 0)
theorem rAt_eq {zs : List Rw} {i : Nat} (h : i < zs.length) : rAt zs i = zs[i] := by
  unfold rAt
  rw [List.getD_eq_getElem?_getD, List.getElem?_eq_getElem h]
  rfl
/-- the six kinds -/
noncomputable def pForm (zs : List Rw) (i : Nat) : Bool := !(decide (0 ≤ (rAt zs i).2.2) && decide ((rAt zs i).2.2 ≤ 1000000000000000))
noncomputable def pHand (n : Int) (zs : List Rw) (i : Nat) : Bool := !(decide (0 ≤ (rAt zs i).1) && decide ((rAt zs i).1 < n)) || (!(decide (0 < (rAt zs i).2.1) && decide ((rAt zs i).2.1 < n)) || decide ((rAt zs i).1 = (rAt zs i).2.1))
noncomputable def rcs (zs : List Rw) : List Int := zs.map fun z => z.2.1
noncomputable def pAgain (zs : List Rw) (i : Nat) : Bool := decide ((rAt zs i).2.1 ∈ rcs (zs.take i))
noncomputable def pNobody (zs : List Rw) (j : Nat) : Bool := !decide (((j + 1 : Nat) : Int) ∈ rcs zs)
/-- when a hand knows: the last row to it counts -/
noncomputable def knw (l : Int) (zs : List Rw) (h : Int) : Option Int := match zs.reverse.find? (fun z => decide (z.2.1 = h)) with
  | some z => some (z.2.2 + l)
  | none => if h = 0 then some 0 else none
noncomputable def fltD : Option (String × Int) → D
  | none => .non
  | some (w, i) => .tup [.str w, .int i]
theorem enu_rows (zs : List Rw) : enumI 0 (zs.map rwT) = (List.range zs.length).map fun (i : Nat) => D.tup [.int i, rwT (rAt zs i)] := by
  apply List.ext_getElem?
  intro i
  rw [enum_get, List.getElem?_map, List.getElem?_map]
  by_cases hi : i < zs.length
  · rw [List.getElem?_eq_getElem hi, List.getElem?_range hi]
    simp only [Option.map_some, Nat.zero_add]
    rw [rAt_eq hi]
  · rw [List.getElem?_eq_none (by omega), List.getElem?_eq_none (by simp; omega)]
    rfl
/-! dicts -/
theorem bb_or {a b : Bool} : (a || b) = false ↔ a = false ∧ b = false := by cases a <;> cases b <;> simp
/-- the first fault of the hands -/
noncomputable def fltH (n : Int) (zs : List Rw) : Option (String × Int) := match fst1 (pHand n zs) zs.length with
  | some i => some ("hand", i)
  | none => match fst1 (pAgain zs) zs.length with
    | some i => some ("again", i)
    | none => (fst1 (pNobody zs) (n - 1).toNat).map fun j => ("nobody", ((j + 1 : Nat) : Int))
end Pg

/-! faults of the times of plans -/
namespace Pg
open PySem L2 SI Mt
variable {c : Cl} {M : Mc}
noncomputable def pEarly (l : Int) (zs : List Rw) (i : Nat) : Bool := match knw l zs (rAt zs i).1 with
  | some t => decide ((rAt zs i).2.2 < t)
  | none => false
noncomputable def pGapB (g : Int) (z b : Rw) : Bool := decide (b.1 = z.1) && decide (((b.2.2 - z.2.2).natAbs : Int) < g)
noncomputable def pGap (g : Int) (zs : List Rw) (i : Nat) : Bool := (zs.take i).any (pGapB g (rAt zs i))
noncomputable def fltT (l g : Int) (zs : List Rw) : Option (String × Int) := match fst1 (pEarly l zs) zs.length with
  | some i => some ("early", i)
  | none => (fst1 (pGap g zs) zs.length).map fun (i : Nat) => ("gap", (i : Int))
end Pg

/-! faults of plans, and their ends -/
namespace Pg
open PySem L2 SI Mt
variable {c : Cl} {M : Mc}
noncomputable def fltP (l g n : Int) (zs : List Rw) : Option (String × Int) := match fst1 (pForm zs) zs.length with
  | some i => some ("form", i)
  | none => match fltH n zs with
    | some x => some x
    | none => fltT l g zs
theorem hand_ok {n : Int} {zs : List Rw} {i : Nat} : pHand n zs i = false ↔ 0 ≤ (rAt zs i).1 ∧ (rAt zs i).1 < n ∧ 0 < (rAt zs i).2.1 ∧ (rAt zs i).2.1 < n ∧ (rAt zs i).1 ≠ (rAt zs i).2.1 := by
  unfold pHand
  rw [bb_or, bb_or]
  simp only [Bool.not_eq_false', Bool.and_eq_true, decide_eq_true_eq, decide_eq_false_iff_not]
  constructor
  · rintro ⟨⟨a, b⟩, ⟨d, e⟩, f⟩
    exact ⟨a, b, d, e, f⟩
  · rintro ⟨a, b, d, e, f⟩
    exact ⟨⟨a, b⟩, ⟨d, e⟩, f⟩
/-- the end of the rows -/
noncomputable def endP (l : Int) : List Rw → Int
  | [] => 0
  | z :: zs => max (z.2.2 + l) (endP l zs)
end Pg

/-! the growing tree, hand by hand: only times -/
namespace Pg
open Mt SI
variable {M : Mc} {t : Option Nat}
/-- the hands below the sendings that a hand has left, of which the first arrives at 0 -/
noncomputable def UU (M : Mc) (t : Option Nat) (s : Nat) (y : Int) : Int := match t with
  | none => smZ (y / M.gap + 1).toNat fun j => FR M none (y - j * M.gap)
  | some T => smZ (T - s) fun j => FR M (some T) (y - j * M.gap)
/-- what is below those that wait -/
noncomputable def WS2 (M : Mc) (t : Option Nat) (x : Int) : List (Int × Nat) → Int
  | [] => 0
  | z :: zs => UU M t z.2 (x - z.1) + WS2 M t x zs
/-- k hands are told, the last one at a time; these wait -/
structure Gr (M : Mc) (t : Option Nat) (T k : Nat) (last : Int) (zs : List (Int × Nat)) : Prop where
  all : ∀ x, last ≤ x → FR M t x = k + 1 + WS2 M t x zs
  opn : ∀ z ∈ zs, z.2 < T → last ≤ z.1
  lt : FR M t (last - 1) < k + 1
  le : ((k : Int) + 1) ≤ FR M t last
  snt : ∀ z ∈ zs, z.2 ≤ k
  len : zs.length = k + 1
/-- the time at which n hands are told, whatever the horizon -/
noncomputable def MinT (M : Mc) (t : Option Nat) (n : Int) (x : Int) : Prop := FR M t (x - 1) < n ∧ n ≤ FR M t x
theorem MinT.uniq (hM : M.Ok) {n x y : Int} (h : MinT M t n x) (h' : MinT M t n y) : x = y := by
  rcases Int.lt_trichotomy x y with z | z | z
  · have := FR_mono (t := t) hM (show x ≤ y - 1 by omega)
    have := h.2
    have := h'.1
    omega
  · exact z
  · have := FR_mono (t := t) hM (show y ≤ x - 1 by omega)
    have := h'.2
    have := h.1
    omega
theorem Gr.min {T k : Nat} {last : Int} {zs : List (Int × Nat)} (h : Gr M t T k last zs) : MinT M t (k + 1) last := ⟨h.lt, h.le⟩
end Pg

/-! plans that are drawn row by row -/
namespace Pg
open PySem L2 SI Mt
variable {M : Mc}
/-- a hand that is told: its number, when it is free, how many it has told -/
noncomputable abbrev Us := Int × Int × Nat
noncomputable def Us.hs (us : List Us) : List Int := us.map fun u => u.1
noncomputable def Us.cs (M : Mc) (us : List Us) : List (Int × Nat) := us.map fun u => (u.2.1 + M.letter, u.2.2)
noncomputable def stp (M : Mc) : Int := 4 * (M.letter + M.gap)
structure PlI (M : Mc) (n k : Nat) (us : List Us) (rest : List Int) (ys : List Rw) : Prop where
  nd : (Us.hs us ++ rest).Nodup
  rg : ∀ x ∈ Us.hs us ++ rest, 0 ≤ x ∧ x < n
  z0 : (0 : Int) ∈ Us.hs us
  lu : us.length = k + 1
  lr : rest.length + k + 1 = n
  cov : ∀ x : Int, 0 ≤ x → x < n → x ∈ Us.hs us ++ rest
  ly : ys.length = k
  rc : ∀ h, h ∈ rcs ys ↔ h ∈ Us.hs us ∧ h ≠ 0
  rn : (rcs ys).Nodup
  row : ∀ z ∈ ys, z.1 ∈ Us.hs us ∧ z.1 ≠ z.2.1 ∧ 0 ≤ z.2.2 ∧ z.2.2 ≤ k * stp M ∧ (z.1 = 0 ∨ ∃ y ∈ ys, y.2.1 = z.1 ∧ y.2.2 + M.letter ≤ z.2.2)
  fr : ∀ u ∈ us, 0 ≤ u.2.1 ∧ u.2.1 ≤ k * stp M ∧ (u.1 = 0 ∨ ∃ y ∈ ys, y.2.1 = u.1 ∧ y.2.2 + M.letter ≤ u.2.1) ∧ (∀ z ∈ ys, z.1 = u.1 → z.2.2 + M.gap ≤ u.2.1) ∧ (ys.filter fun z => decide (z.1 = u.1)).length = u.2.2
  pw : ys.Pairwise fun a b => a.1 = b.1 → M.gap ≤ ((a.2.2 - b.2.2).natAbs : Int)
  cn : ∀ (T : Nat) (x : Int), 0 ≤ x → 1 ≤ T → T ≤ 10 ^ 12 → (∀ u ∈ us, u.2.2 ≤ T) → 1 + ((ys.filter fun z => decide (z.2.2 + M.letter ≤ x)).length : Int) + WS2 M (some T) x (Us.cs M us) ≤ FR M (some T) x
end Pg

/-! a drawn plan is right -/
namespace Pg
open PySem L2 SI Mt
variable {M : Mc}
theorem rAt_mem {zs : List Rw} {i : Nat} (h : i < zs.length) : rAt zs i ∈ zs := by
  rw [rAt_eq h]
  exact List.getElem_mem h
end Pg

/-! the plans that the laws draw -/
namespace Pg
open PySem L2 SI Mt
variable {c : Cl} {M : Mc}
--PLANG
--END PLANG
section
variable {o : O} {r : S} {rest ts k1 : List Int} {sv : List D} {k2 : List Int} {fv : List D} {zs : List Rw}
end
end Pg

/-! the first start that lies near an earlier one of the same hand -/
namespace Pg
open PySem L2 SI Mt
variable {c : Cl} {M : Mc}
noncomputable abbrev Pr := Int × Int
noncomputable def prAt (ps : List Pr) (i : Nat) : Pr := ps.getD i (0, 0)
noncomputable def nearB (g : Int) (z q : Pr) : Bool := decide (q.1 = z.1) && decide (((q.2 - z.2).natAbs : Int) < g)
noncomputable def pNear (g : Int) (ps : List Pr) (i : Nat) : Bool := (ps.take i).any (nearB g (prAt ps i))
/-- the starts of a hand -/
noncomputable def stOf (h : Int) (ps : List Pr) : List Int := (ps.filter fun q => decide (q.1 = h)).map fun q => q.2
/-- where the hand stands first -/
noncomputable def ix1 (ps : List Pr) (h : Int) : Nat := (ps.map fun q => q.1).idxOf h
structure NrI (ps : List Pr) (m i : Nat) (ks : List Key) (vs : List D) (T : List O) : Prop where
  nd : ks.Nodup
  ln : ks.length = vs.length
  le : ks.length ≤ i
  lt : T.length = i
  lk : ∀ h, lkD ks vs (.inl h) = if h ∈ (ps.take i).map (fun q => q.1) then some (.ref (m + 1 + ix1 ps h)) else none
  at' : ∀ h, h ∈ (ps.take i).map (fun q => q.1) → T[ix1 ps h]? = some (.lst ((stOf h (ps.take i)).map D.int))
section
variable {s : S} {ks : List Key} {vs : List D} {T : List O}
end
end Pg

/-! faults of gathers -/
namespace Pg
open PySem L2 SI Mt
variable {c : Cl} {M : Mc}
noncomputable def sds (zs : List Rw) : List Int := zs.map fun z => z.1
theorem nx_lt {p : Nat → Bool} {i : Nat} (hb : ∀ j, j < i → p j = false) (hp : p i = false) : ∀ j, j < i + 1 → p j = false := fun j hj => by
  rcases Nat.lt_or_ge j i with z | z
  · exact hb j z
  · have : j = i := by omega
    subst this
    exact hp
--NEXT
end Pg

/-! right plans, right gathers, and their mirrors -/
namespace Pg
open PySem L2 SI Mt
variable {M : Mc}
noncomputable def Tm (z : Rw) : Prop := 0 ≤ z.2.2 ∧ z.2.2 ≤ 1000000000000000
noncomputable def Gp (g : Int) (zs : List Rw) (f : Rw → Int) : Prop := zs.Pairwise fun a b => f a = f b → g ≤ ((a.2.2 - b.2.2).natAbs : Int)
structure PlR (l g : Int) (n : Nat) (zs : List Rw) : Prop where
  frm : ∀ z ∈ zs, Tm z
  hnd : ∀ z ∈ zs, 0 ≤ z.1 ∧ z.1 < n ∧ 0 < z.2.1 ∧ z.2.1 < n ∧ z.1 ≠ z.2.1
  nd : (rcs zs).Nodup
  cov : ∀ h : Int, 0 < h → h < n → h ∈ rcs zs
  ear : ∀ z ∈ zs, ∀ y ∈ zs, y.2.1 = z.1 → y.2.2 + l ≤ z.2.2
  gap : Gp g zs fun a => a.1
structure GtR (l g : Int) (n : Nat) (zs : List Rw) : Prop where
  frm : ∀ z ∈ zs, Tm z
  hnd : ∀ z ∈ zs, 0 < z.1 ∧ z.1 < n ∧ 0 ≤ z.2.1 ∧ z.2.1 < n ∧ z.1 ≠ z.2.1
  nd : (sds zs).Nodup
  cov : ∀ h : Int, 0 < h → h < n → h ∈ sds zs
  ear : ∀ z ∈ zs, ∀ y ∈ zs, y.2.1 = z.1 → y.2.2 + l ≤ z.2.2
  gap : Gp g zs fun a => a.2.1
variable {l g L b : Int} {n : Nat} {zs ys : List Rw}
/-! what holds of an item and the items before it -/
theorem at_drop {i : Nat} (hi : i < zs.length) : rAt zs i ∈ zs.drop i := by
  rw [rAt_eq hi, ← List.getElem_cons_drop hi]
  exact List.mem_cons_self ..
theorem nd_take {α : Type} [DecidableEq α] {f : Rw → α} (hn : (zs.map f).Nodup) {i : Nat} (hi : i < zs.length) : f (rAt zs i) ∉ (zs.take i).map f := fun hm => by
  have e : zs = zs.take i ++ zs.drop i := (List.take_append_drop ..).symm
  rw [e, List.map_append] at hn
  exact (List.nodup_append.mp hn).2.2 _ hm _ (List.mem_map.mpr ⟨rAt zs i, at_drop hi, rfl⟩) rfl
theorem gp_take {f : Rw → Int} (h : Gp g zs f) {i : Nat} (hi : i < zs.length) : ∀ y ∈ zs.take i, f y = f (rAt zs i) → ¬ (((y.2.2 - (rAt zs i).2.2).natAbs : Int) < g) := fun y hy e => by
  unfold Gp at h
  have e1 : zs = zs.take i ++ zs.drop i := (List.take_append_drop ..).symm
  rw [e1] at h
  have := (List.pairwise_append.mp h).2.2 y hy _ (at_drop hi) e
  omega
theorem frm_ok (h : ∀ z ∈ zs, Tm z) : ∀ i, i < zs.length → pForm zs i = false := fun i hi => by
  have := h _ (rAt_mem hi)
  unfold Tm at this
  unfold pForm
  rw [decide_eq_true this.1, decide_eq_true this.2]
  rfl
theorem PlR.flt (h : PlR l g n zs) : fltP l g n zs = none := by
  have a1 := frm_ok h.frm
  have a2 : ∀ i, i < zs.length → pHand n zs i = false := fun i hi => hand_ok.mpr (h.hnd _ (rAt_mem hi))
  have a3 : ∀ i, i < zs.length → pAgain zs i = false := fun i hi => decide_eq_false (nd_take h.nd hi)
  have a4 : ∀ j, j < ((n : Int) - 1).toNat → pNobody zs j = false := fun j hj => by
    unfold pNobody
    rw [Bool.not_eq_false', decide_eq_true_eq]
    exact h.cov _ (by omega) (by omega)
  have a5 : ∀ i, i < zs.length → pEarly l zs i = false := fun i hi => by
    have h1 := h.hnd _ (rAt_mem hi)
    have h2 := h.frm _ (rAt_mem hi)
    unfold pEarly knw
    cases e : zs.reverse.find? (fun z => decide (z.2.1 = (rAt zs i).1)) with
    | some z =>
      have hz1 := List.mem_reverse.mp (List.mem_of_find?_eq_some e)
      have hz2 := List.find?_some e
      have hz2 := of_decide_eq_true hz2
      dsimp only
      have := h.ear _ (rAt_mem hi) z hz1 hz2
      exact decide_eq_false (by omega)
    | none =>
      dsimp only
      unfold Tm at h2
      split
      · rename_i t ht
        split at ht
        · cases ht
          exact decide_eq_false (by omega)
        · cases ht
      · rfl
  have a6 : ∀ i, i < zs.length → pGap g zs i = false := fun i hi => by
    unfold pGap
    rw [List.any_eq_false]
    intro b hb
    unfold pGapB
    have := gp_take h.gap hi b hb
    simp only [Bool.and_eq_true, decide_eq_true_eq]
    rintro ⟨x1, x2⟩
    exact this x1 x2
  unfold fltP fltH fltT
  rw [fst1_none.mpr a1, fst1_none.mpr a2, fst1_none.mpr a3, fst1_none.mpr a4, fst1_none.mpr a5, fst1_none.mpr a6]
  rfl
end Pg

/-! plans and gathers drawn row by row, and hands under new names -/
namespace Pg
open PySem L2 SI Mt
variable {M : Mc}
/-- hands under new names -/
structure Rel (n : Nat) (f : Int → Int) : Prop where
  rg : ∀ x : Int, 0 ≤ x → x < n → 0 ≤ f x ∧ f x < n
  inj : ∀ x y : Int, 0 ≤ x → x < n → 0 ≤ y → y < n → f x = f y → x = y
  sur : ∀ h : Int, 0 ≤ h → h < n → ∃ x : Int, 0 ≤ x ∧ x < n ∧ f x = h
  z0 : f 0 = 0
variable {l g : Int} {n : Nat} {zs : List Rw} {f : Int → Int}
theorem Rel.pos (r : Rel n f) {x : Int} (h0 : 0 < x) (h1 : x < n) : 0 < f x := by
  have a := r.rg x (by omega) h1
  have : f x ≠ 0 := fun e => by
    have := r.inj x 0 (by omega) h1 (by omega) (by omega) (by rw [e, r.z0])
    omega
  omega
/-! a gather in the making: the places from k on have sent -/
noncomputable def at0 (xs : List Int) (i : Nat) : Int := xs.getD i 0
structure GaI (M : Mc) (n k b : Nat) (rd fr : List Int) (zs : List Rw) : Prop where
  lr : rd.length = n
  lf : fr.length = n
  lz : zs.length = b
  sm : ∀ h : Int, h ∈ sds zs ↔ (k : Int) ≤ h ∧ h < n
  nd : (sds zs).Nodup
  row : ∀ z ∈ zs, 0 ≤ z.2.1 ∧ z.2.1 < z.1 ∧ (k : Int) ≤ z.1 ∧ z.1 < n ∧ 0 ≤ z.2.2 ∧ z.2.2 ≤ b * stp M ∧ z.2.2 + M.letter ≤ at0 rd z.2.1.toNat ∧ z.2.2 + M.gap ≤ at0 fr z.2.1.toNat
  ear : ∀ z ∈ zs, ∀ y ∈ zs, y.2.1 = z.1 → y.2.2 + M.letter ≤ z.2.2
  gap : Gp M.gap zs fun a => a.2.1
  bd : ∀ j, 0 ≤ at0 rd j ∧ at0 rd j ≤ b * stp M ∧ 0 ≤ at0 fr j ∧ at0 fr j ≤ b * stp M
/-! a plan in the making: the places below k know -/
structure PnI (M : Mc) (k b : Nat) (kn fr : List Int) (zs : List Rw) : Prop where
  lr : kn.length = k
  lf : fr.length = k
  lz : zs.length = b
  rm : ∀ h : Int, h ∈ rcs zs ↔ 0 < h ∧ h < k
  nd : (rcs zs).Nodup
  row : ∀ z ∈ zs, 0 ≤ z.1 ∧ z.1 < z.2.1 ∧ z.2.1 < k ∧ 0 ≤ z.2.2 ∧ z.2.2 ≤ b * stp M ∧ z.2.2 + M.letter ≤ at0 kn z.2.1.toNat ∧ z.2.2 + M.gap ≤ at0 fr z.1.toNat
  ear : ∀ z ∈ zs, ∀ y ∈ zs, y.2.1 = z.1 → y.2.2 + M.letter ≤ z.2.2
  gap : Gp M.gap zs fun a => a.1
  bd : ∀ j, 0 ≤ at0 kn j ∧ at0 kn j ≤ b * stp M ∧ 0 ≤ at0 fr j ∧ at0 fr j ≤ b * stp M
end Pg

/-! next_time: both answers; there is always a next hand -/
namespace SI
open PySem L2 Pg Mt
variable {c : Cl} {M : Mc} {t : Option Nat}
theorem NX.uniq {rs : List Int} {x y z : Int} (h : NX M t rs x y) (h' : NX M t rs x z) : y = z := by
  rcases Int.lt_trichotomy y z with e | e | e
  · have := h'.zero y h.lt e
    have := h.pos
    omega
  · exact e
  · have := h.zero z h'.lt e
    have := h'.pos
    omega
end SI

/-! the plans that the laws draw: the walk -/
namespace Pg
open PySem L2 SI Mt
variable {c : Cl} {M : Mc}
variable {v : SrcV} {k : Nat} {r : S} {Q : Cn (D → S → Prop)} {E : Cn (Addr → List Str → List D → S → Prop)}
end Pg

/-! a law's own growing tree: the last time; bounds -/
namespace Pg
open PySem L2 SI Mt
variable {c : Cl} {M : Mc} {t : Option Nat}
noncomputable def sz (zs : List (Int × Nat)) (i : Nat) : Nat := (zs.getD i (0, 0)).2
end Pg

/-! bounds of several letters -/
namespace Pg
open PySem L2 SI Mt
variable {c : Cl} {M : Mc} {t : Option Nat}
open Classical in
/-- the least time of n hands -/
noncomputable def mt (M : Mc) (t : Option Nat) (n : Nat) : Int := if h : ∃ x, MinT M t n x then h.choose else 0
/-- how much later -/
noncomputable def spc (M : Mc) (n T : Nat) : Int := if n = 2 then M.gap else max (T * M.gap) ((T - 1) * M.gap + 2 * M.o)
/-- the end of k letters on a tree with T turns -/
noncomputable def eT (M : Mc) (n k T : Nat) : Int := mt M (some T) n + (k - 1) * spc M n T
structure BT (M : Mc) (n k : Nat) (b : Int) : Prop where
  at_ : ∃ T, 1 ≤ T ∧ T < n ∧ b = eT M n k T
  le : ∀ T, 1 ≤ T → T < n → b ≤ eT M n k T
theorem BT.uniq {n k : Nat} {b b' : Int} (h : BT M n k b) (h' : BT M n k b') : b = b' := by
  obtain ⟨T, t0, t1, e⟩ := h.at_
  obtain ⟨T', t0', t1', e'⟩ := h'.at_
  have := h.le T' t0' t1'
  have := h'.le T t0 t1
  omega
end Pg

/-! what a drawn plan tells -/
namespace Pg
open PySem L2 SI Mt
variable {c : Cl} {M : Mc} {t : Option Nat}
theorem MinT.le (hM : M.Ok) {n x y : Int} (h : MinT M t n x) (hy : n ≤ FR M t y) : x ≤ y := by
  by_cases hxy : x ≤ y
  · exact hxy
  · have := FR_mono (t := t) hM (show y ≤ x - 1 by omega)
    have := h.1
    omega
end Pg

/-! gather_fault, checked_gather, gather_ends, turned -/
namespace Pg
open PySem L2 SI Mt
variable {c : Cl} {M : Mc}
section
variable {n : Int} {zs : List Rw} {s : S} {sq : D} {rr : Option (Nat × List D)}
end
end Pg

/-! draws of the laws from k40 on -/
namespace SI
open PySem L2 Pg
noncomputable def drawB : List D → S → R D := runF 7
  (sSeq (sAugS dIxL dAddI dPut (fVar 0) (fC (.int 3)) (fC (.int 1)))
    (sSeq (sIf (fAnd (fTst (fOp (dEqD false) (fOp dIx (fVar 0) (fC (.int 2))) (fC (.int 0)))) (fTst (fOp dLt (fOp dIx (fVar 0) (fC (.int 1))) (fCB bLen (fCons (fOp dIx (fVar 0) (fC (.int 0))) fNil))))) (sSeq (sAsg 2 (fOp dIx (fOp dIx (fVar 0) (fC (.int 0))) (fOp dIx (fVar 0) (fC (.int 1)))))
    (sSeq (sAugS dIxL dAddI dPut (fVar 0) (fC (.int 1)) (fC (.int 1)))
    (sIf (fTst (fOp dGe (fVar 2) (fOp dPow (fC (.int 10)) (fC (.int 18))))) (sPut dPut (fVar 2) (fVar 0) (fC (.int 2))) (sPut dPut (fOp dMod (fCB bInt (fCons (fOp dAdd (fOp dAdd (fOp dMul (fOp dIx (fVar 0) (fC (.int 4))) (fC (.int 48271))) (fOp dMul (fVar 2) (fC (.int 2)))) (fC (.int 11))) fNil)) (fC (.int 2147483629))) (fVar 0) (fC (.int 4)))))) sNext)
    (sSeq (sIf (fTst (fOp dGt (fOp dIx (fVar 0) (fC (.int 2))) (fC (.int 0)))) (sSeq (sAsg 3 (fOp dMod (fCB bInt (fCons (fOp dIx (fVar 0) (fC (.int 2))) fNil)) (fVar 1)))
    (sSeq (sPut dPut (fOp dDiv (fOp dIx (fVar 0) (fC (.int 2))) (fVar 1)) (fVar 0) (fC (.int 2)))
    (sRet (fVar 3)))) sNext)
    (sSeq (sAsg 4 (fOp dMod (fCB bInt (fCons (fOp dMul (fOp dAdd (fOp dAdd (fOp dIx (fVar 0) (fC (.int 4))) (fOp dMul (fC (.int 6151)) (fOp dIx (fVar 0) (fC (.int 3))))) (fC (.int 1))) (fC (.int 69621))) fNil)) (fC (.int 2147483647))))
    (sSeq (sAsg 5 (fOp dMod (fCB bInt (fCons (fOp dMul (fVar 4) (fOp dAdd (fOp dDiv (fVar 4) (fC (.int 1013))) (fC (.int 48271)))) fNil)) (fC (.int 2147483647))))
    (sSeq (sAsg 6 (fOp dMod (fCB bInt (fCons (fOp dMul (fVar 5) (fOp dAdd (fOp dDiv (fVar 5) (fC (.int 2011))) (fC (.int 40692)))) fNil)) (fC (.int 2147483399))))
    (sRet (fOp dMod (fCB bInt (fCons (fOp dDiv (fVar 6) (fC (.int 8))) fNil)) (fVar 1)))))))))
/-- a draw: some number below the limit, the source goes on -/
theorem drawB_ok {s : S} {k n : Nat} {v : SrcV} {lim : Int} (h : s[k]? = some v.o) (ok : v.Ok n) (hn : n < 2 ^ 60) (h0 : 0 < lim) (h1 : lim < 2 ^ 200) :
    ∃ (r : Int) (v' : SrcV), 0 ≤ r ∧ r < lim ∧ v'.Ok (n + 1) ∧ drawB [.ref k, .int lim] s = .ok (.int r) (s.set k v'.o) := by
  have hb : v.b + 1 < 2 ^ 61 := by
    have := ok.bn
    omega
  have hb0 := ok.b0
  -- the last part: the digits of the hash
  have tail : ∀ (w : SrcV) (s1 : S), s1[k]? = some w.o → w.a = 0 → 0 ≤ w.d → w.d < 2147483629 → 0 ≤ w.b → w.b < 2 ^ 61 → ∀ (x2 x3 : Option D), ∃ r : Int, 0 ≤ r ∧ r < lim ∧
      sSeq (sAsg 4 (fOp dMod (fCB bInt (fCons (fOp dMul (fOp dAdd (fOp dAdd (fOp dIx (fVar 0) (fC (.int 4))) (fOp dMul (fC (.int 6151)) (fOp dIx (fVar 0) (fC (.int 3))))) (fC (.int 1))) (fC (.int 69621))) fNil)) (fC (.int 2147483647))))
    (sSeq (sAsg 5 (fOp dMod (fCB bInt (fCons (fOp dMul (fVar 4) (fOp dAdd (fOp dDiv (fVar 4) (fC (.int 1013))) (fC (.int 48271)))) fNil)) (fC (.int 2147483647))))
    (sSeq (sAsg 6 (fOp dMod (fCB bInt (fCons (fOp dMul (fVar 5) (fOp dAdd (fOp dDiv (fVar 5) (fC (.int 2011))) (fC (.int 40692)))) fNil)) (fC (.int 2147483399))))
    (sRet (fOp dMod (fCB bInt (fCons (fOp dDiv (fVar 6) (fC (.int 8))) fNil)) (fVar 1))))) [some (.ref k), some (.int lim), x2, x3, none, none, none] s1 = .rt (.int r) s1 := by
    intro w s1 hs ha hd0 hd1 hw0 hw1 x2 x3
    obtain ⟨i0, i1, i2, i3, i4, _, _⟩ := srcIx hs
    have m1 : mulOk 6151 w.b = true := mulOk_log (a := 17) (b := 61) (by decide) (log_of hw0 hw1 (by decide)) (by decide)
    have m2 : mulOk (w.d + 6151 * w.b + 1) 69621 = true := mulOk_log (a := 100) (b := 17) (log_of (by omega) (by omega) (by decide)) (by decide) (by decide)
    obtain ⟨one, hone⟩ : ∃ z, z = (w.d + 6151 * w.b + 1) * 69621 % 2147483647 := ⟨_, rfl⟩
    have o0 : 0 ≤ one := by rw [hone]; exact Int.emod_nonneg _ (by decide)
    have o1 : one < 2147483647 := by rw [hone]; exact Int.emod_lt_of_pos _ (by decide)
    have q0 : 0 ≤ one / 1013 := Int.ediv_nonneg o0 (by decide)
    have q1 : one / 1013 ≤ one := Int.ediv_le_self _ o0
    have m3 : mulOk one (one / 1013 + 48271) = true := mulOk_log (a := 31) (b := 33) (log_of o0 (by omega) (by decide)) (log_of (by omega) (by omega) (by decide)) (by decide)
    obtain ⟨two, htwo⟩ : ∃ z, z = one * (one / 1013 + 48271) % 2147483647 := ⟨_, rfl⟩
    have t0 : 0 ≤ two := by rw [htwo]; exact Int.emod_nonneg _ (by decide)
    have t1 : two < 2147483647 := by rw [htwo]; exact Int.emod_lt_of_pos _ (by decide)
    have u0 : 0 ≤ two / 2011 := Int.ediv_nonneg t0 (by decide)
    have u1 : two / 2011 ≤ two := Int.ediv_le_self _ t0
    have m4 : mulOk two (two / 2011 + 40692) = true := mulOk_log (a := 31) (b := 33) (log_of t0 (by omega) (by decide)) (log_of (by omega) (by omega) (by decide)) (by decide)
    refine ⟨two * (two / 2011 + 40692) % 2147483399 / 8 % lim, Int.emod_nonneg _ (by omega), Int.emod_lt_of_pos _ h0, ?_⟩
    simp [fVar, i4, i3, m1, m2, dMod_int, dDiv_int, ← hone, m3, ← htwo, m4, h0]
  -- the second part: a great number gives its digits
  have mid : ∀ (w : SrcV) (s1 : S), s1[k]? = some w.o → w.Ok (n + 1) → ∀ (x2 : Option D), ∃ (r : Int) (v' : SrcV), 0 ≤ r ∧ r < lim ∧ v'.Ok (n + 1) ∧
      (sSeq (sIf (fTst (fOp dGt (fOp dIx (fVar 0) (fC (.int 2))) (fC (.int 0)))) (sSeq (sAsg 3 (fOp dMod (fCB bInt (fCons (fOp dIx (fVar 0) (fC (.int 2))) fNil)) (fVar 1)))
    (sSeq (sPut dPut (fOp dDiv (fOp dIx (fVar 0) (fC (.int 2))) (fVar 1)) (fVar 0) (fC (.int 2)))
    (sRet (fVar 3)))) sNext)
    (sSeq (sAsg 4 (fOp dMod (fCB bInt (fCons (fOp dMul (fOp dAdd (fOp dAdd (fOp dIx (fVar 0) (fC (.int 4))) (fOp dMul (fC (.int 6151)) (fOp dIx (fVar 0) (fC (.int 3))))) (fC (.int 1))) (fC (.int 69621))) fNil)) (fC (.int 2147483647))))
    (sSeq (sAsg 5 (fOp dMod (fCB bInt (fCons (fOp dMul (fVar 4) (fOp dAdd (fOp dDiv (fVar 4) (fC (.int 1013))) (fC (.int 48271)))) fNil)) (fC (.int 2147483647))))
    (sSeq (sAsg 6 (fOp dMod (fCB bInt (fCons (fOp dMul (fVar 5) (fOp dAdd (fOp dDiv (fVar 5) (fC (.int 2011))) (fC (.int 40692)))) fNil)) (fC (.int 2147483399))))
    (sRet (fOp dMod (fCB bInt (fCons (fOp dDiv (fVar 6) (fC (.int 8))) fNil)) (fVar 1)))))) [some (.ref k), some (.int lim), x2, none, none, none, none] s1) = .rt (.int r) (s1.set k v'.o) := by
    intro w s1 hs hw x2
    obtain ⟨i0, i1, i2, i3, i4, _, _⟩ := srcIx hs
    by_cases ha : 0 < w.a
    · refine ⟨w.a % lim, { w with a := w.a / lim }, Int.emod_nonneg _ (by omega), Int.emod_lt_of_pos _ h0, ⟨hw.i0, Int.ediv_nonneg hw.a0 (Int.le_of_lt h0), hw.b0, hw.bn, hw.d0, hw.dn, hw.cs⟩, ?_⟩
      have hp := (srcPut hs (w.a / lim)).2.1
      simp [fVar, i2, ha, dMod_int, h0, dDiv_int h0 h1, hp]
    · have ha0 : w.a = 0 := by
        have := hw.a0
        omega
      have hbn := hw.bn
      obtain ⟨r, r0, r1, e⟩ := tail w s1 hs ha0 hw.d0 hw.dn hw.b0 (by omega) x2 none
      refine ⟨r, w, r0, r1, hw, ?_⟩
      have hset : s1.set k w.o = s1 := by
        have hk := (List.getElem?_eq_some_iff.mp hs)
        obtain ⟨hk1, hk2⟩ := hk
        rw [← hk2]
        exact List.set_getElem_self hk1
      rw [hset, ← e]
      simp [fVar, i2, ha]
  -- the first part
  obtain ⟨_, _, _, _, _, _, j3⟩ := srcIx h
  have p3 := (srcPut h (v.b + 1)).2.2.1
  obtain ⟨w, hw⟩ : ∃ w : SrcV, w = { v with b := v.b + 1 } := ⟨_, rfl⟩
  rw [← hw] at p3
  have gw : (s.set k w.o)[k]? = some w.o := get_set h
  have okw : w.Ok (n + 1) := by
    subst hw
    exact ⟨ok.i0, ok.a0, by show 0 ≤ v.b + 1; omega, by show v.b + 1 ≤ ((n + 1 : Nat) : Int); have := ok.bn; omega, ok.d0, ok.dn, ok.cs⟩
  obtain ⟨i0, i1, i2, i3, i4, k1, k3⟩ := srcIx gw
  unfold drawB runF startD
  by_cases hc : w.a = 0 ∧ w.i < (w.cs.length : Int)
  · -- a cell is taken
    obtain ⟨ca, ci⟩ := hc
    have hlt : w.i.toNat < w.cs.length := by
      have := okw.i0
      omega
    obtain ⟨cell, hcell⟩ : ∃ z, w.cs[w.i.toNat]? = some z := ⟨_, List.getElem?_eq_getElem hlt⟩
    have hix : dIx (s.set k w.o) (.lst (w.cs.map D.int)) (.int w.i) = some (.int cell) := by
      rw [dIx_lst, atI_in okw.i0 (by rw [List.length_map]; exact ci), List.getElem?_map, hcell]
      rfl
    have q1 := (srcPut gw (w.i + 1)).1
    obtain ⟨u, hu⟩ : ∃ u : SrcV, u = { w with i := w.i + 1 } := ⟨_, rfl⟩
    rw [← hu] at q1
    have gu : ((s.set k w.o).set k u.o)[k]? = some u.o := get_set gw
    rw [List.set_set] at gu q1
    have oku : u.Ok (n + 1) := by
      subst hu
      exact ⟨by show 0 ≤ w.i + 1; have := okw.i0; omega, okw.a0, okw.b0, okw.bn, okw.d0, okw.dn, okw.cs⟩
    obtain ⟨a0, a1, a2, a3, a4, b1, b3⟩ := srcIx gu
    have hbits := okw.cs cell (List.mem_of_getElem? hcell)
    by_cases hbig : (1000000000000000000 : Int) ≤ cell
    · have q2 := (srcPut gu cell).2.1
      rw [List.set_set] at q2
      obtain ⟨r, v', r0, r1, ov, e⟩ := mid { u with a := cell } _ (get_set h) ⟨oku.i0, by show 0 ≤ cell; omega, oku.b0, oku.bn, oku.d0, oku.dn, oku.cs⟩ (some (.int cell))
      refine ⟨r, v', r0, r1, ov, ?_⟩
      rw [List.set_set] at e
      refine fin_rt ?_
      rw [← e]
      simp [fVar, j3, p3, i2, ca, i1, i0, ci, hix, k1, q1, powOk, hbig, q2]
    · have m1 : mulOk u.d 48271 = true := mulOk_log (a := 31) (b := 16) (log_of oku.d0 (by have := oku.dn; omega) (by decide)) (by decide) (by decide)
      have m2 : mulOk cell 2 = true := mulOk_log (a := 1048576) (b := 5) (log_bits hbits) (by decide) (by decide)
      obtain ⟨dd, hdd⟩ : ∃ z, z = (u.d * 48271 + cell * 2 + 11) % 2147483629 := ⟨_, rfl⟩
      have q4 := (srcPut gu dd).2.2.2
      rw [List.set_set] at q4
      obtain ⟨r, v', r0, r1, ov, e⟩ := mid { u with d := dd } _ (get_set h) ⟨oku.i0, oku.a0, oku.b0, oku.bn, by show 0 ≤ dd; rw [hdd]; exact Int.emod_nonneg _ (by decide), by show dd < 2147483629; rw [hdd]; exact Int.emod_lt_of_pos _ (by decide), oku.cs⟩ (some (.int cell))
      refine ⟨r, v', r0, r1, ov, ?_⟩
      rw [List.set_set] at e
      refine fin_rt ?_
      rw [← e]
      simp [fVar, j3, p3, i2, ca, i1, i0, ci, hix, k1, q1, powOk, hbig, a4, m1, m2, dMod_int, ← hdd, q4]
  · obtain ⟨r, v', r0, r1, ov, e⟩ := mid w _ gw okw none
    refine ⟨r, v', r0, r1, ov, ?_⟩
    rw [List.set_set] at e
    refine fin_rt ?_
    rw [← e]
    by_cases ca : w.a = 0
    · have ci : ¬ w.i < (w.cs.length : Int) := fun z => hc ⟨ca, z⟩
      simp [fVar, j3, p3, i2, ca, i1, i0, ci]
    · simp [fVar, j3, p3, i2, ca]

section
variable {v : SrcV} {n : Nat} {lim : Int} {r : S} {Q : Cn (D → S → Prop)} {E : Cn (Addr → List Str → List D → S → Prop)}
theorem drawB_wp (ok : v.Ok n) (hn : n < 2 ^ 60) (h0 : 0 < lim) (h1 : lim < 2 ^ 200) (h : ∀ x v', 0 ≤ x → x < lim → SrcV.Ok v' (n + 1) → Q (.int x) (v'.o :: r)) : @WR _ (drawB [.ref 0, .int lim] (v.o :: r)) Q E := by
  obtain ⟨x, v', x0, x1, ov, e⟩ := drawB_ok (s := v.o :: r) (k := 0) rfl ok hn h0 h1
  rw [e]
  exact h x v' x0 x1 ov
noncomputable def wideG : List D → S → R D := runF 5
  ((sSeq (sIf (fTst (fOp dLe (fVar 1) (fC (.int 1000000)))) (sRet (fCall 2 drawB (fCons (fVar 0) (fCons (fVar 1) fNil)))) sNext)
    (sSeq (sAsg 2 (fCall 2 drawB (fCons (fVar 0) (fCons (fC (.int 1000000)) fNil))))
    (sSeq (sAsg 3 (fCall 2 drawB (fCons (fVar 0) (fCons (fC (.int 1000000)) fNil))))
    (sSeq (sAsg 4 (fCall 2 drawB (fCons (fVar 0) (fCons (fC (.int 1000000)) fNil))))
    (sRet (fOp dMod (fCB bInt (fCons (fOp dAdd (fOp dMul (fOp dAdd (fOp dMul (fVar 2) (fC (.int 1000000))) (fVar 3)) (fC (.int 1000000))) (fVar 4)) fNil)) (fVar 1))))))))
theorem wide_wp (ok : v.Ok n) (hn : n + 3 < 2 ^ 60) (h0 : 0 < lim) (h : ∀ x v', 0 ≤ x → x < lim → SrcV.Ok v' (n + 3) → Q (.int x) (v'.o :: r)) : @WR _ (wideG [.ref 0, .int lim] (v.o :: r)) Q E := by
  unfold wideG
  simp_arith
  refine wb_dec (fun hl => ?_) (fun hl => ?_)
  · simp_arith
    refine drawB_wp ok (by omega) h0 (Int.lt_of_le_of_lt hl (by decide +kernel)) fun x v' x0 x1 ok' => ?_
    simp_arith
    exact h x v' x0 x1 (ok'.mono (by omega))
  · simp_arith
    refine drawB_wp ok (by omega) (by decide) (by decide +kernel) fun a v1 a0 a1 ok1 => ?_
    simp_arith
    refine drawB_wp ok1 (by omega) (by decide) (by decide +kernel) fun b v2 b0 b1 ok2 => ?_
    simp_arith
    refine drawB_wp ok2 (by omega) (by decide) (by decide +kernel) fun d v3 d0 d1 ok3 => ?_
    simp_arith
    rw [dMul_small (by omega) (by omega) (by omega) (by omega)]
    simp_arith
    rw [dMul_small (by omega) (by omega) (by omega) (by omega)]
    simp_arith
    rw [dMod_int h0]
    simp_arith
    exact h _ v3 (Int.emod_nonneg _ (by omega)) (Int.emod_lt_of_pos _ h0) (ok3.mono (by omega))
noncomputable def numB : List D → S → R D := runF 6
  ((sSeq (sAsg 1 (fOp dIx (fLst (fCons (fC (.int 4)) (fCons (fC (.int 6)) (fCons (fC (.int 13)) (fCons (fC (.int 41)) (fCons (fOp dAdd (fOp dPow (fC (.int 10)) (fC (.int 9))) (fC (.int 1))) fNil)))))) (fCall 2 drawB (fCons (fVar 0) (fCons (fC (.int 5)) fNil)))))
    (sSeq (sAsg 2 (fCall 2 drawB (fCons (fVar 0) (fCons (fC (.int 6)) fNil))))
    (sSeq (sAsg 3 (fCall 2 wideG (fCons (fVar 0) (fCons (fVar 1) fNil))))
    (sSeq (sAsg 4 (fCall 2 wideG (fCons (fVar 0) (fCons (fVar 1) fNil))))
    (sSeq (sAsg 5 (fOp dAdd (fC (.int 1)) (fCall 2 wideG (fCons (fVar 0) (fCons (fOp dSub (fVar 1) (fC (.int 1))) fNil)))))
    (sSeq (sIf (fTst (fOp (dEqD false) (fVar 2) (fC (.int 0)))) (sAsg 3 (fC (.int 0))) sNext)
    (sSeq (sIf (fTst (fOp (dEqD false) (fVar 2) (fC (.int 1)))) (sAsg 4 (fC (.int 0))) sNext)
    (sSeq (sIf (fAnd (fTst (fOp (dEqD false) (fVar 2) (fC (.int 2)))) (fTst (fOp dGt (fVar 1) (fC (.int 1000))))) (sAsg 5 (fOp dAdd (fC (.int 1)) (fOp dMod (fCB bInt (fCons (fVar 5) fNil)) (fC (.int 9))))) sNext)
    (sSeq (sIf (fTst (fOp (dEqD false) (fOp dAdd (fOp dMul (fC (.int 2)) (fVar 3)) (fVar 4)) (fC (.int 0)))) (sAsg 4 (fC (.int 1))) sNext)
    (sRet (fTup (fCons (fVar 3) (fCons (fVar 4) (fCons (fVar 5) fNil)))))))))))))))
theorem numB_wp (ok : v.Ok n) (hn : n + 16 < 2 ^ 60) (h : ∀ (M : Mc) (v' : SrcV), M.Ok → v'.Ok (n + 16) → Q (.tup [.int M.o, .int M.l, .int M.g]) (v'.o :: r)) : @WR _ (numB [.ref 0] (v.o :: r)) Q E := by
  unfold numB
  simp_arith [pow9]
  refine drawB_wp ok (by omega) (by decide) (by decide +kernel) fun k v1 k0 k1 ok1 => ?_
  simp_arith
  refine wo_pick (fun x => ∃ a : Int, x = .int a ∧ 4 ≤ a ∧ a ≤ 1000000001) k0 (by simpa using k1) ?_ ?_
  · intro x hx
    simp only [List.mem_cons, List.not_mem_nil, or_false] at hx
    rcases hx with rfl | rfl | rfl | rfl | rfl <;> exact ⟨_, rfl, by decide, by decide⟩
  rintro x ⟨a, rfl, a0, a1⟩
  simp_arith
  refine drawB_wp ok1 (by omega) (by decide) (by decide +kernel) fun kd v2 kd0 kd1 ok2 => ?_
  simp_arith
  refine wide_wp ok2 (by omega) (by omega) fun o v3 o0 o1 ok3 => ?_
  simp_arith
  refine wide_wp ok3 (by omega) (by omega) fun l v4 l0 l1 ok4 => ?_
  simp_arith
  refine wide_wp ok4 (by omega) (by omega) fun g v5 g0 g1 ok5 => ?_
  simp_all_arith
  refine ws_cut (fun L s => ∃ o : Int, L = [some (.ref 0), some (.int a), some (.int kd), some (.int o), some (.int l), some (.int (1 + g))] ∧ s = v5.o :: r ∧ 0 ≤ o ∧ o ≤ 1000000000) ?_ ?_
  · simp_arith
    refine wb_dec (fun h => ?_) (fun h => ?_)
    · simp_arith
      exact ⟨0, rfl, by decide, by decide⟩
    · simp_arith
      exact ⟨o, rfl, by omega, by omega⟩
  rintro L s ⟨o, rfl, rfl, o0, o1⟩
  refine ws_cut (fun L s => ∃ l : Int, L = [some (.ref 0), some (.int a), some (.int kd), some (.int o), some (.int l), some (.int (1 + g))] ∧ s = v5.o :: r ∧ 0 ≤ l ∧ l ≤ 1000000000) ?_ ?_
  · simp_arith
    refine wb_dec (fun h => ?_) (fun h => ?_)
    · simp_arith
      exact ⟨0, rfl, by decide, by decide⟩
    · simp_arith
      exact ⟨l, rfl, by omega, by omega⟩
  rintro L s ⟨l, rfl, rfl, l0, l1⟩
  refine ws_cut (fun L s => ∃ g : Int, L = [some (.ref 0), some (.int a), some (.int kd), some (.int o), some (.int l), some (.int g)] ∧ s = v5.o :: r ∧ 1 ≤ g ∧ g ≤ 1000000000) ?_ ?_
  · simp_arith
    refine wb_dec (fun h => ?_) (fun h => ?_)
    · simp_arith
      refine wb_dec (fun h => ?_) (fun h => ?_)
      · simp_arith
        rw [dMod_int (by decide)]
        simp_arith
        exact ⟨_, rfl, by omega, by omega⟩
      · simp_arith
        exact ⟨_, rfl, by omega, by omega⟩
    · simp_arith
      exact ⟨_, rfl, by omega, by omega⟩
  rintro L s ⟨g, rfl, rfl, g0, g1⟩
  simp_arith
  rw [dMul_small (by omega) (by omega) (by omega) (by omega)]
  simp_arith
  refine wb_dec (fun hz => ?_) (fun hz => ?_)
  · simp_arith
    exact h ⟨o, 1, g⟩ v5 ⟨o0, o1, by show (0 : Int) ≤ 1; decide, by show (1 : Int) ≤ _; decide, g0, g1, by show 0 < 2 * o + 1; omega⟩ (ok5.mono (by omega))
  · simp_arith
    exact h ⟨o, l, g⟩ v5 ⟨o0, o1, l0, l1, g0, g1, by show 0 < 2 * o + l; omega⟩ (ok5.mono (by omega))
end
end SI

/-! a law's _law_shuffled -/
namespace Pg
open PySem L2 SI Mt
theorem bel_pur {n : Nat} {s : S} (h : ∀ o ∈ s, PurO o) : s.all (O.bel n) = true := all_pur h
theorem len_of {s : S} {d : D} {xs : List D} (h : seqOf s d = some xs) : bLen s [d] = some (.int xs.length) := by
  have : bLen s [d] = (seqOf s d).map fun xs => .int xs.length := by
    cases d <;> first | rfl | (simp [seqOf] at h)
  rw [this, h]
  rfl
variable {v : SrcV} {k : Nat} {r : S} {Q : Cn (D → S → Prop)} {E : Cn (Addr → List Str → List D → S → Prop)}
end Pg

/-! a law's drawn gathers and plans -/
namespace Pg
open PySem L2 SI Mt
--TAKE
--END TAKE
variable {M : Mc} {v : SrcV} {k : Nat} {r : S} {Q : Cn (D → S → Prop)} {E : Cn (Addr → List Str → List D → S → Prop)}
section
variable {o : O} {rd fr : List Int} {zs : List Rw}
end
end Pg

/-! a law's own clauses of plans and gathers: nothing is found in a right one -/
namespace Pg
open PySem L2 SI Mt
--TAKE
noncomputable def intgG (c : Cl) : List D → S → R D := runF 1
  ((sRet (fAndV (fCB (bIsi c.cs) (fCons (fVar 0) (fCons (fC (.ty "int")) fNil))) (fNotV (fCB (bIsi c.cs) (fCons (fVar 0) (fCons (fC (.ty "bool")) fNil)))))))
noncomputable def formG (c : Cl) : List D → S → R D := runF 6
  ((sSeq (sIf (fOr (fNot (fTst (fCB (bIsiT c.cs) (fCons (fVar 0) (fCons (fTup (fCons (fC (.ty "list")) (fCons (fC (.ty "tuple")) fNil))) fNil))))) (fTst (fOp dGt (fCB bLen (fCons (fVar 0) fNil)) (fVar 2)))) (sRet (fTup (fCons (fC (.str "form")) (fCons (fNeg (fC (.int 1))) fNil)))) sNext)
    (sSeq (sFor (fRng dRng1 (fCons (fCB bLen (fCons (fVar 0) fNil)) fNil)) (gN 3) (sSeq (sAsg 4 (fOp dIx (fVar 0) (fVar 3)))
    (sSeq (sIf (fOr (fNot (fTst (fCB (bIsi c.cs) (fCons (fVar 4) (fCons (fC (.ty "tuple")) fNil))))) (fTst (fOp (dEqD true) (fCB bLen (fCons (fVar 4) fNil)) (fVar 1)))) (sRet (fTup (fCons (fC (.str "form")) (fCons (fVar 3) fNil)))) sNext)
    (sSeq (sIf (fNot (fTst (fCB bAll (fCons (fLc (fSrc (fVar 4)) (gN 5) fYes (fCall 1 (intgG c) (fCons (fVar 5) fNil)) [5]) fNil)))) (sRet (fTup (fCons (fC (.str "form")) (fCons (fVar 3) fNil)))) sNext)
    (sIf (fOr (fTst (fOp dLt (fOp dIx (fVar 4) (fOp dSub (fVar 1) (fC (.int 1)))) (fC (.int 0)))) (fTst (fOp dGt (fOp dIx (fVar 4) (fOp dSub (fVar 1) (fC (.int 1)))) (fOp dPow (fC (.int 10)) (fC (.int 15)))))) (sRet (fTup (fCons (fC (.str "form")) (fCons (fVar 3) fNil)))) sNext)))))
    (sRet (fC .non)))))
--END TAKE
variable {c : Cl} {M : Mc} {zs : List Rw} {s : S} {sq : D} {rr : Option (Nat × List D)}
theorem p15 (s : S) : dPow s (.int 10) (.int 15) = some (.int 1000000000000000) := pow_lit (by decide +kernel) (by decide +kernel)
--DUE
end Pg

/-! early and gap by rows -/
namespace Pg
open PySem L2 SI Mt
variable {zs : List Rw} {l g : Int}
end Pg

/-! a law's own clauses of gathers are those of the program -/
namespace Pg
open PySem L2 SI Mt
variable {c : Cl} {M : Mc} {zs : List Rw} {s : S} {sq : D} {rr : Option (Nat × List D)}
--GDUE
end Pg

/-! the form of rows among which any other thing may stand -/
namespace Pg
open PySem L2 SI Mt
variable {c : Cl} {M : Mc} {s : S} {sq : D} {rr : Option (Nat × List D)} {xs : List D}
/-- a row, or any other thing in its place -/
inductive Rowy (c : Cl) : D → Prop
  | tup (ys : List D) (h : ∀ y ∈ ys, Th c y) (l : ys.length ≤ 1000) : Rowy c (.tup ys)
  | no {d : D} (h : ∀ s, bIsi c.cs s [d, .ty "tuple"] = some (.bl false)) (h1 : ∀ ys, d ≠ .tup ys) : Rowy c d
noncomputable def isI : D → Bool
  | .int _ => true
  | _ => false
theorem isI_ni {d : D} (h : NI c d) : isI d = false := by
  cases d <;> first | rfl | exact h.nint.elim
theorem th_isI {d : D} (h : Th c d) (s : S) : G_is_integer c [d] s = .ok (.bl (isI d)) s := by
  cases h with
  | int i => rfl
  | ni h => rw [isI_ni h]; exact h s
theorem th_intg {d : D} (h : Th c d) (s : S) : intgG c [d] s = .ok (.bl (isI d)) s := th_isI h s
noncomputable def rowG (w : Nat) : D → Bool
  | .tup ys => decide (ys.length = w) && (ys.all isI && gb (ys.getD (w - 1) .non) 0 1000000000000000)
  | _ => false
noncomputable def pOdd (w : Nat) (xs : List D) (i : Nat) : Bool := !rowG w (xs.getD i .non)
theorem rowG_tup (w : Nat) (ys : List D) : rowG w (.tup ys) = (decide (ys.length = w) && (ys.all isI && gb (ys.getD (w - 1) .non) 0 1000000000000000)) := rfl
theorem rowG_no {w : Nat} {d : D} (h : ∀ ys, d ≠ .tup ys) : rowG w d = false := by
  cases d <;> first | rfl | exact absurd rfl (h _)
theorem bls_map {α : Type} (p : α → Bool) : ∀ xs : List α, blsOf (xs.map fun x => D.bl (p x)) = some (xs.map p)
  | [] => rfl
  | x :: xs => by
    show (blsOf (xs.map fun x => D.bl (p x))).map (p x :: ·) = _
    rw [bls_map p xs]
    rfl
theorem all_map {α : Type} (s : S) (xs : List α) (p : α → Bool) : bAll s [.lst (xs.map fun x => D.bl (p x))] = some (.bl (xs.all p)) := by
  have h : lstOf s (.lst (xs.map fun x => D.bl (p x))) = some (xs.map fun x => D.bl (p x)) := rfl
  show ((lstOf s (.lst (xs.map fun x => D.bl (p x)))).bind blsOf).map (fun bs => D.bl (bs.all id)) = _
  rw [h, Option.bind_some, bls_map, Option.map_some, List.all_map]
  rfl
theorem enumI_range (xs : List D) : enumI 0 xs = (List.range xs.length).map fun (i : Nat) => D.tup [.int i, xs.getD i .non] := by
  apply List.ext_getElem?
  intro i
  rw [enum_get, List.getElem?_map]
  by_cases hi : i < xs.length
  · rw [List.getElem?_eq_getElem hi, List.getElem?_range hi]
    simp only [Option.map_some, Nat.zero_add]
    rw [List.getD_eq_getElem?_getD, List.getElem?_eq_getElem hi]
    rfl
  · rw [List.getElem?_eq_none (by omega), List.getElem?_eq_none (by simp; omega)]
    rfl
theorem atI_last {xs : List D} (h : 1 ≤ xs.length) : L2.atI xs (-1) = xs[xs.length - 1]? := by
  unfold L2.atI ixN
  rw [if_neg (by decide), if_pos (by omega)]
  rw [Option.bind_some]
  congr 1
  omega
theorem formG_any {w most : Nat} (w1 : 1 ≤ w) (hl : xs.length ≤ most) (h4 : xs.length ≤ 2000) (hs : ∀ o ∈ s, PurO o) (hq : Sq s sq xs rr) (hr : ∀ x ∈ xs, Rowy c x) : formG c [sq, .int w, .int most] s = .ok (fltD ((fst1 (pOdd w xs) xs.length).map fun (i : Nat) => ("form", (i : Int)))) s := by
  have len := hq.len (pfx_refl s)
  apply eq_ok
  unfold formG
  simp_arith [hq.isT (cs := c.cs) (pfx_refl s), len, show ¬ (most : Int) < xs.length by omega]
  rw [rng1 (by omega) (by omega), w_some, Int.toNat_natCast]
  refine ws_rng (fun i L s' => ∃ y3 y4 y5, L = [some sq, some (.int w), some (.int most), y3, y4, y5] ∧ s = s' ∧ ∀ j, j < i → pOdd w xs j = false) ⟨_, _, _, rfl, rfl, fun j h => by omega⟩ ?_ ?_
  · rintro i L s' hi ⟨y3, y4, y5, rfl, rfl, hb⟩
    have e1 := hq.ix (pfx_refl s) hi
    have ret : pOdd w xs i = true → fltD ((fst1 (pOdd w xs) xs.length).map fun (i : Nat) => ("form", (i : Int))) = .tup [.str "form", .int i] := fun hp => by
      rw [fst1_some hp hb hi]
      rfl
    have nxt : pOdd w xs i = false → ∀ j, j < i + 1 → pOdd w xs j = false := nx_lt hb
    have pdef : pOdd w xs i = !rowG w xs[i] := by
      unfold pOdd
      rw [List.getD_eq_getElem?_getD, List.getElem?_eq_getElem hi]
      rfl
    have hz := hr xs[i] (List.getElem_mem hi)
    generalize xs[i] = z at *
    cases hz with
    | no h h1 =>
      simp_arith [e1, h]
      exact (ret (by rw [pdef, rowG_no h1]; rfl)).symm
    | tup ys hy hyl =>
    have ln : ∀ s, bLen s [.tup ys] = some (.int ys.length) := fun s => rfl
    have it : ∀ s, bIsi c.cs s [.tup ys, .ty "tuple"] = some (.bl true) := fun s => rfl
    have sr : ∀ s, iSeq s (.tup ys) = some ⟨ys, none⟩ := fun s => rfl
    by_cases hw : ys.length = w
    · have q : ∀ s, dEqD true s (.int ys.length) (.int w) = some (.bl false) := fun s => by rw [dEqD_int]; simp [hw]
      simp_arith [e1, it, ln, q, sr]
      have mp : ys = ys.map id := (List.map_id ys).symm
      refine lcp_all ys id (fun x => D.bl (isI x)) mp (fun acc => rfl) (by omega) hs (fun _ _ => fun _ => rfl) (fun x hx acc ha => ?_) ?_
      · simp_arith [wipeD, id_eq, th_intg (hy x hx)]
      simp_arith [all_map]
      cases ea : ys.all isI with
      | false =>
        simp_arith
        exact (ret (by rw [pdef, rowG_tup, ea]; simp)).symm
      | true =>
        obtain ⟨t, et⟩ : ∃ t, ys.getD (w - 1) .non = .int t := by
          have hi2 : w - 1 < ys.length := by omega
          rw [List.getD_eq_getElem?_getD, List.getElem?_eq_getElem hi2]
          have := List.all_eq_true.mp ea _ (List.getElem_mem hi2)
          cases ey : ys[w - 1] <;> rw [ey] at this <;> first | exact ⟨_, rfl⟩ | cases this
        have ix : ∀ s, dIx s (.tup ys) (.int ((w : Int) - 1)) = some (.int t) := fun s => by
          have hi2 : w - 1 < ys.length := by omega
          have e3 := et
          rw [List.getD_eq_getElem?_getD, List.getElem?_eq_getElem hi2] at e3
          rw [dIx_tup, atI_in (by omega) (by omega), show ((w : Int) - 1).toNat = w - 1 by omega, List.getElem?_eq_getElem hi2]
          exact congrArg some e3
        have pd2 : pOdd w xs i = !gb (.int t) 0 1000000000000000 := by
          rw [pdef, rowG_tup, ea, et, hw]
          simp
        simp_arith [ix]
        refine wb_dec (fun h1 => ?_) (fun h1 => ?_)
        · simp_arith
          exact (ret (by rw [pd2]; simp [gb]; omega)).symm
        · simp_arith [ix, p15]
          refine wb_dec (fun h2 => ?_) (fun h2 => ?_)
          · simp_arith
            exact (ret (by rw [pd2]; simp [gb]; omega)).symm
          · simp_arith
            exact ⟨_, _, _, rfl, nxt (by rw [pd2]; simp [gb]; omega)⟩
    · have q : ∀ s, dEqD true s (.int ys.length) (.int w) = some (.bl true) := fun s => by
        rw [dEqD_int]
        simp
        omega
      simp_arith [e1, it, ln, q]
      exact (ret (by rw [pdef, rowG_tup]; simp [hw])).symm
  · rintro L s' ⟨y3, y4, y5, rfl, rfl, hb⟩
    simp_arith
    rw [fst1_none.mpr hb]
    rfl
/-- the program's own: rows of any width -/
theorem form_rows_any {w most : Nat} (w1 : 1 ≤ w) (hl : xs.length ≤ most) (hq : Sq s sq xs rr) (hr : ∀ x ∈ xs, Rowy c x) : G_form_fault_rows c [sq, .int w, .int most] s = .ok (fltD ((fst1 (pOdd w xs) xs.length).map fun (i : Nat) => ("form", (i : Int)))) s := by
  have len := hq.len (pfx_refl s)
  apply eq_ok
  unfold G_form_fault_rows
  simp_arith [hq.isT (cs := c.cs) (pfx_refl s), len, show ¬ (most : Int) < xs.length by omega, hq.enu (pfx_refl s)]
  rw [enumI_range]
  refine ws_trk (xs := List.range xs.length) (f := fun i : Nat => D.tup [.int i, xs.getD i .non]) (fun i L s' => ∃ y1 y2 y3, L = [some sq, some (.int w), some (.int most), y1, y2, y3] ∧ s = s' ∧ ∀ j, j < i → pOdd w xs j = false) ⟨none, none, none, rfl, rfl, fun j h => by omega⟩ (fun i L s' h => by obtain ⟨_, _, _, _, rfl, _⟩ := h; exact hq.ck _ (pfx_refl _)) ?_ ?_
  · rintro i hi' L s' ⟨y1, y2, y3, rfl, rfl, hb⟩
    have hi : i < xs.length := by simpa using hi'
    rw [List.getElem_range]
    have ret : pOdd w xs i = true → fltD ((fst1 (pOdd w xs) xs.length).map fun (i : Nat) => ("form", (i : Int))) = .tup [.str "form", .int i] := fun hp => by
      rw [fst1_some hp hb hi]
      rfl
    have nxt : pOdd w xs i = false → ∀ j, j < i + 1 → pOdd w xs j = false := nx_lt hb
    have pdef : pOdd w xs i = !rowG w (xs.getD i .non) := rfl
    have hz : Rowy c (xs.getD i .non) := by
      rw [List.getD_eq_getElem?_getD, List.getElem?_eq_getElem hi]
      exact hr _ (List.getElem_mem hi)
    generalize xs.getD i .non = z at *
    cases hz with
    | no h h1 =>
      simp_arith [h]
      exact (ret (by rw [pdef, rowG_no h1]; rfl)).symm
    | tup ys hy hyl =>
    have ln : ∀ s, bLen s [.tup ys] = some (.int ys.length) := fun s => rfl
    have it : ∀ s, bIsi c.cs s [.tup ys, .ty "tuple"] = some (.bl true) := fun s => rfl
    have sr : ∀ s, iSeq s (.tup ys) = some ⟨ys, none⟩ := fun s => rfl
    by_cases hw : ys.length = w
    · have q : ∀ s, dEqD true s (.int ys.length) (.int w) = some (.bl false) := fun s => by rw [dEqD_int]; simp [hw]
      simp_arith [it, ln, q, sr]
      have mp : ys = ys.map fun x => x := by simp
      rw [mp]
      refine ws_lst (xs := ys) (f := fun x => x) (fun k L s' => ∃ y3, L = [some sq, some (.int w), some (.int most), some (.int i), some (.tup ys), y3] ∧ s = s' ∧ ∀ j (hj : j < ys.length), j < k → isI ys[j] = true) ⟨_, by rw [← mp], rfl, fun j _ h => by omega⟩ ?_ ?_
      · rintro k hk L s' ⟨y3, rfl, rfl, ha⟩
        have ty := th_isI (hy _ (List.getElem_mem hk)) s
        cases ei : isI ys[k] with
        | false =>
          rw [ei] at ty
          simp_arith [ty]
          refine (ret ?_).symm
          rw [pdef, rowG_tup]
          have : ys.all isI = false := by
            rw [List.all_eq_false]
            exact ⟨_, List.getElem_mem hk, by rw [ei]; simp⟩
          rw [this]
          simp
        | true =>
          rw [ei] at ty
          simp_arith [ty]
          refine ⟨_, rfl, fun j hj hjk => ?_⟩
          rcases Nat.lt_or_ge j k with z | z
          · exact ha j hj z
          · have : j = k := by omega
            subst this
            exact ei
      · rintro L s' ⟨y3, rfl, rfl, ha⟩
        have ea : ys.all isI = true := by
          rw [List.all_eq_true]
          intro x hx
          obtain ⟨j, hj, rfl⟩ := List.mem_iff_getElem.mp hx
          exact ha j hj hj
        have hi2 : w - 1 < ys.length := by omega
        obtain ⟨t, et⟩ : ∃ t, ys[w - 1] = .int t := by
          have := List.all_eq_true.mp ea _ (List.getElem_mem hi2)
          cases ey : ys[w - 1] <;> rw [ey] at this <;> first | exact ⟨_, rfl⟩ | cases this
        have im : ∀ s, dIx s (.tup ys) (.int (-1)) = some (.int t) := fun s => by
          rw [dIx_tup, atI_last (by omega), show ys.length - 1 = w - 1 by omega, List.getElem?_eq_getElem hi2, et]
        have pd2 : pOdd w xs i = !gb (.int t) 0 1000000000000000 := by
          rw [pdef, rowG_tup, ea, hw, List.getD_eq_getElem?_getD, List.getElem?_eq_getElem hi2, Option.getD_some, et]
          simp
        simp_arith [im]
        refine wb_dec (fun h1 => ?_) (fun h1 => ?_)
        · simp_arith
          exact (ret (by rw [pd2]; simp [gb]; omega)).symm
        · simp_arith [im]
          refine wb_dec (fun h2 => ?_) (fun h2 => ?_)
          · simp_arith
            exact (ret (by rw [pd2]; simp [gb]; omega)).symm
          · simp_arith
            exact ⟨_, _, _, rfl, nxt (by rw [pd2]; simp [gb]; omega)⟩
    · have q : ∀ s, dEqD true s (.int ys.length) (.int w) = some (.bl true) := fun s => by
        rw [dEqD_int]
        simp
        omega
      simp_arith [it, ln, q]
      exact (ret (by rw [pdef, rowG_tup]; simp [hw])).symm
  · rintro L s' ⟨y1, y2, y3, rfl, rfl, hb⟩
    rw [List.length_range] at hb
    simp_arith
    rw [fst1_none.mpr hb]
    rfl
end Pg

/-! reading a line of sightings -/
namespace SI
open PySem L2 Pg Mt
variable {c : Cl}
noncomputable def dS (l : List Nat) : D := .str (st l)
theorem dS_pur (l : List Nat) : Pur (dS l) := fun _ => rfl
theorem eq_dS {a b : List Nat} (ha : TOk a) (hb : TOk b) (neg : Bool) (s : S) : dEqD neg s (dS a) (.str (st b)) = some (.bl (if neg = true then !decide (a = b) else decide (a = b))) := by
  have e := dEq_st (x := st a) (y := st b) ha hb neg s
  have e2 : (st a = st b) ↔ a = b := ⟨st_inj, fun h => by rw [h]⟩
  simp only [e2] at e
  exact e
end SI

/-! a law's drawn sightings -/
namespace Pg
open PySem L2 SI Mt
--TAKE
--END TAKE
variable {v : SrcV} {k : Nat} {r : S} {Q : Cn (D → S → Prop)} {E : Cn (Addr → List Str → List D → S → Prop)}
structure SgG (g : Sg) : Prop where
  ok : OkSg g
  fit : Fit (lnO g)
structure GG (l g : Int) (x : Sg) : Prop where
  nm : OkN none 1 0 x.1
  t1 : x.2 ≤ 100000000000000000000
  tb : (x.2 : Int) ≤ x.1.length * l + smN x.1 * g
end Pg

/-! faults of plans and gathers among whose rows any other thing may stand -/
namespace Pg
open PySem L2 SI Mt
variable {c : Cl} {M : Mc} {s : S} {sq : D} {rr : Option (Nat × List D)} {xs : List D}
noncomputable def toRw : D → Rw
  | .tup [.int a, .int b, .int t] => (a, b, t)
  | _ => (0, 0, 0)
noncomputable def rwsO (xs : List D) : List Rw := xs.map toRw
theorem rwsO_len (xs : List D) : (rwsO xs).length = xs.length := List.length_map ..
theorem isI_int {d : D} (h : isI d = true) : ∃ i, d = .int i := by
  cases d <;> first | exact ⟨_, rfl⟩ | cases h
theorem rowG3 {d : D} (h : rowG 3 d = true) : ∃ z : Rw, d = rwT z ∧ toRw d = z ∧ 0 ≤ z.2.2 ∧ z.2.2 ≤ 1000000000000000 := by
  cases d <;> try cases h
  rename_i ys
  rw [rowG_tup, Bool.and_eq_true, Bool.and_eq_true, decide_eq_true_eq] at h
  obtain ⟨h1, h2, h3⟩ := h
  obtain ⟨a, b, t, rfl⟩ : ∃ a b t, ys = [a, b, t] := by
    match ys, h1 with
    | [a, b, t], _ => exact ⟨a, b, t, rfl⟩
  simp only [List.all_cons, List.all_nil, Bool.and_true, Bool.and_eq_true] at h2
  obtain ⟨i, rfl⟩ := isI_int h2.1
  obtain ⟨j, rfl⟩ := isI_int h2.2.1
  obtain ⟨k, rfl⟩ := isI_int h2.2.2
  obtain ⟨k', e, k0, k1⟩ := gb_int h3
  have e' : k = k' := by cases e; rfl
  subst e'
  exact ⟨(i, j, k), rfl, rfl, k0, k1⟩
/-- no fault of the form: they are rows of ints -/
theorem odd_none (h : fst1 (pOdd 3 xs) xs.length = none) : xs = (rwsO xs).map rwT ∧ fst1 (pForm (rwsO xs)) (rwsO xs).length = none := by
  have hn := fst1_none.mp h
  have g : ∀ i (hi : i < xs.length), rowG 3 xs[i] = true := fun i hi => by
    have := hn i hi
    unfold pOdd at this
    rw [List.getD_eq_getElem?_getD, List.getElem?_eq_getElem hi] at this
    simpa using this
  constructor
  · apply List.ext_getElem
    · rw [List.length_map, rwsO_len]
    · intro i h1 h2
      obtain ⟨z, e, e2, _⟩ := rowG3 (g i h1)
      rw [List.getElem_map]
      unfold rwsO
      rw [List.getElem_map, e2, e]
  · rw [fst1_none]
    intro i hi
    rw [rwsO_len] at hi
    obtain ⟨z, e, e2, h1, h2⟩ := rowG3 (g i hi)
    have er : rAt (rwsO xs) i = z := by
      rw [rAt_eq (by rw [rwsO_len]; exact hi)]
      unfold rwsO
      rw [List.getElem_map, e2]
    unfold pForm
    rw [er]
    simp [h1, h2]
noncomputable def fltX (l g n : Int) (xs : List D) : Option (String × Int) := match fst1 (pOdd 3 xs) xs.length with
  | some i => some ("form", i)
  | none => fltP l g n (rwsO xs)
end Pg

/-! a law's own faults of plans: _law_plan_due = fltP for any rows of ints -/
namespace Pg
open PySem L2 SI Mt
variable {c : Cl} {M : Mc} {zs : List Rw} {s : S} {sq : D} {rr : Option (Nat × List D)}
end Pg

namespace Pg
open PySem L2 SI Mt
variable {c : Cl} {M : Mc} {s : S} {sq : D} {rr : Option (Nat × List D)} {xs : List D}
end Pg

/-! a law's spoilt rows: _law_odd, _law_changed, _law_spoilt -/
namespace Pg
open PySem L2 SI Mt
variable {c : Cl} {M : Mc}
--TAKE
noncomputable def odG : List D → S → R D := runF 5
  ((sSeq (sAsg 2 (fOp dAdd (fCB bTuple (fCons (fLc (fRng dRng1 (fCons (fOp dSub (fVar 1) (fC (.int 3))) fNil)) (gN 4) fYes (fC (.int 0)) [4]) fNil)) (fTup (fCons (fC (.int 1)) (fCons (fC (.int 0)) (fCons (fC (.int 5)) fNil))))))
    (sSeq (sAsg 3 (fLst (fCons (fC .non) (fCons (fC (.int 0)) (fCons (fC (.str "row")) (fCons (fTup fNil) (fCons (fCB bList (fCons (fVar 2) fNil)) (fCons (fSl (fVar 2) fNo (fPt (fOp dSub (fVar 1) (fC (.int 1))))) (fCons (fOp dAdd (fVar 2) (fTup (fCons (fC (.int 1)) fNil))) (fCons (fOp dAdd (fSl (fVar 2) fNo (fPt (fOp dSub (fVar 1) (fC (.int 1))))) (fTup (fCons (fC .non) fNil))) fNil))))))))))
    (sSeq (sAsg 3 (fOp dAdd (fVar 3) (fLst (fCons (fOp dAdd (fSl (fVar 2) fNo (fPt (fOp dSub (fVar 1) (fC (.int 1))))) (fTup (fCons (fC (.bl true)) fNil))) (fCons (fOp dAdd (fTup (fCons (fC (.str "1")) fNil)) (fSl (fVar 2) (fPt (fC (.int 1))) fNo)) (fCons (fOp dAdd (fTup (fCons (fC (.bl false)) fNil)) (fSl (fVar 2) (fPt (fC (.int 1))) fNo)) (fCons (fOp dAdd (fSl (fVar 2) fNo (fPt (fOp dSub (fVar 1) (fC (.int 1))))) (fTup (fCons (fNeg (fC (.int 1))) fNil))) fNil)))))))
    (sSeq (sAsg 3 (fOp dAdd (fVar 3) (fLst (fCons (fOp dAdd (fSl (fVar 2) fNo (fPt (fOp dSub (fVar 1) (fC (.int 1))))) (fTup (fCons (fOp dAdd (fOp dPow (fC (.int 10)) (fC (.int 15))) (fC (.int 1))) fNil))) (fCons (fTup (fCons (fVar 2) fNil)) (fCons fDict0 (fCons (fOp dAdd (fSl (fVar 2) fNo (fPt (fOp dSub (fVar 1) (fC (.int 1))))) (fTup (fCons (fTup (fCons (fC (.int 5)) fNil)) fNil))) fNil)))))))
    (sRet (fOp dIx (fVar 3) (fCall 2 drawB (fCons (fVar 0) (fCons (fCB bLen (fCons (fVar 3) fNil)) fNil))))))))))
noncomputable def chG : List D → S → R D := runF 7
  ((sSeq (sAsg 3 (fCB bLen (fCons (fVar 1) fNil)))
    (sSeq (sAsg 4 (fOp dIx (fLst (fCons (fOp dSub (fVar 3) (fC (.int 1))) (fCons (fOp dSub (fVar 3) (fC (.int 1))) (fCons (fCall 2 drawB (fCons (fVar 0) (fCons (fVar 3) fNil))) fNil)))) (fCall 2 drawB (fCons (fVar 0) (fCons (fC (.int 3)) fNil)))))
    (sSeq (sAsg 5 (fOp dIx (fVar 1) (fVar 4)))
    (sSeq (sAsg 6 (fLst (fCons (fOp dAdd (fVar 5) (fC (.int 1))) (fCons (fOp dSub (fVar 5) (fC (.int 1))) (fCons (fOp dAdd (fVar 5) (fC (.int 1))) (fCons (fOp dSub (fVar 5) (fC (.int 1))) (fCons (fC (.int 0)) (fCons (fVar 2) (fCons (fNeg (fC (.int 1))) (fCons (fOp dSub (fVar 2) (fC (.int 1))) (fCons (fCall 2 drawB (fCons (fVar 0) (fCons (fOp dAdd (fVar 2) (fC (.int 1))) fNil))) fNil)))))))))))
    (sSeq (sAsg 6 (fOp dAdd (fVar 6) (fLst (fCons (fOp dPow (fC (.int 10)) (fC (.int 15))) (fCons (fOp dAdd (fOp dPow (fC (.int 10)) (fC (.int 15))) (fC (.int 1))) (fCons (fOp dAdd (fVar 5) (fC (.int 2))) (fCons (fCB bMax (fCons (fC (.int 0)) (fCons (fOp dSub (fVar 5) (fC (.int 2))) fNil))) (fCons (fC (.bl true)) (fCons (fOp dPow (fC (.int 10)) (fC (.int 30))) fNil)))))))))
    (sRet (fOp dAdd (fOp dAdd (fSl (fVar 1) fNo (fPt (fVar 4))) (fTup (fCons (fOp dIx (fVar 6) (fCall 2 drawB (fCons (fVar 0) (fCons (fCB bLen (fCons (fVar 6) fNil)) fNil)))) fNil))) (fSl (fVar 1) (fPt (fOp dAdd (fVar 4) (fC (.int 1)))) fNo)))))))))
noncomputable def spG (c : Cl) : List D → S → R D := cutF (runF 9
  ((sSeq (sAsg 4 (fCall 2 drawB (fCons (fVar 0) (fCons (fC (.int 8)) fNil))))
    (sSeq (sAsg 1 (fListT (fCons (fVar 1) fNil)))
    (sSeq (sIf (fOr (fTst (fOp (dEqD false) (fVar 4) (fC (.int 0)))) (fTst (fOp (dEqD false) (fCB bLen (fCons (fVar 1) fNil)) (fC (.int 0))))) (sSeq (sExpr (fMth mInsert (fVar 1) (fCons (fCall 2 drawB (fCons (fVar 0) (fCons (fOp dAdd (fCB bLen (fCons (fVar 1) fNil)) (fC (.int 1))) fNil))) (fCons (fCall 2 odG (fCons (fVar 0) (fCons (fVar 2) fNil))) fNil))))
    (sRet (fVar 1))) sNext)
    (sSeq (sAsg 5 (fCall 2 drawB (fCons (fVar 0) (fCons (fCB bLen (fCons (fVar 1) fNil)) fNil))))
    (sSeq (sAsg 6 (fOp dIx (fVar 1) (fVar 5)))
    (sSeq (sAsg 7 (fAndV (fCB (bIsi c.cs) (fCons (fVar 6) (fCons (fC (.ty "tuple")) fNil))) (fAndV (fOp (dEqD false) (fCB bLen (fCons (fVar 6) fNil)) (fVar 2)) (fCB bAll (fCons (fLc (fSrc (fVar 6)) (gN 8) fYes (fCall 1 (intgG c) (fCons (fVar 8) fNil)) [8]) fNil)))))
    (sSeq (sIf (fTst (fOp (dEqD false) (fVar 4) (fC (.int 1)))) (sExpr (fMth mPopAt (fVar 1) (fCons (fVar 5) fNil))) (sIf (fTst (fOp (dEqD false) (fVar 4) (fC (.int 2)))) (sExpr (fMth mInsert (fVar 1) (fCons (fCall 2 drawB (fCons (fVar 0) (fCons (fOp dAdd (fCB bLen (fCons (fVar 1) fNil)) (fC (.int 1))) fNil))) (fCons (fVar 6) fNil)))) (sIf (fAnd (fTst (fOp (dEqD false) (fVar 4) (fC (.int 3)))) (fTst (fVar 7))) (sPut dPut (fOp dAdd (fSl (fVar 6) fNo (fPt (fOp dSub (fVar 2) (fC (.int 3))))) (fTup (fCons (fOp dIx (fVar 6) (fOp dSub (fVar 2) (fC (.int 2)))) (fCons (fOp dIx (fVar 6) (fOp dSub (fVar 2) (fC (.int 3)))) (fCons (fOp dIx (fVar 6) (fOp dSub (fVar 2) (fC (.int 1)))) fNil))))) (fVar 1) (fVar 5)) (sIf (fTst (fVar 7)) (sPut dPut (fCall 3 chG (fCons (fVar 0) (fCons (fVar 6) (fCons (fVar 3) fNil)))) (fVar 1) (fVar 5)) (sPut dPut (fCall 2 odG (fCons (fVar 0) (fCons (fVar 2) fNil))) (fVar 1) (fVar 5))))))
    (sRet (fVar 1)))))))))))
--END TAKE
variable {v : SrcV} {k : Nat} {r : S} {Q : Cn (D → S → Prop)} {E : Cn (Addr → List Str → List D → S → Prop)}
/-- what equals itself, and says so -/
noncomputable def EqI (d : D) : Prop := d = .dk [] [] ∨ dOk 3 d = true
/-- a row or an odd thing: what the laws make -/
structure Odd (c : Cl) (d : D) : Prop where
  rw : Rowy c d
  pur : Pur d
  eq : EqI d
theorem odd_tup {ys : List D} (h : ∀ y ∈ ys, Th c y) (hp : ∀ y ∈ ys, Pur y) (he : ∀ y ∈ ys, dOk 2 y = true) (hl : ys.length ≤ 1000) : Odd c (.tup ys) := ⟨.tup ys h hl, pur_tup hp, .inr (List.all_eq_true.mpr he)⟩
theorem th_ints (is : List Int) : ∀ y ∈ is.map D.int, Th c y := fun y hy => by
  obtain ⟨i, _, rfl⟩ := List.mem_map.mp hy
  exact .int i
theorem pur_ints (is : List Int) : ∀ y ∈ is.map D.int, Pur y := fun y hy => by
  obtain ⟨i, _, rfl⟩ := List.mem_map.mp hy
  exact pur_int _
theorem eqi_ints (n : Nat) (is : List Int) : ∀ y ∈ is.map D.int, dOk n y = true := fun y hy => by
  obtain ⟨i, _, rfl⟩ := List.mem_map.mp hy
  cases n <;> rfl
theorem odd_ints {is : List Int} (hl : is.length ≤ 1000) : Odd c (.tup (is.map D.int)) := odd_tup (th_ints is) (pur_ints is) (eqi_ints 2 is) (by rw [List.length_map]; exact hl)
theorem odd_non : Odd c .non := ⟨.no (fun _ => rfl) (fun _ h => by cases h), fun _ => rfl, .inr rfl⟩
theorem odd_int (i : Int) : Odd c (.int i) := ⟨.no (fun _ => rfl) (fun _ h => by cases h), pur_int _, .inr rfl⟩
theorem odd_str {x : Str} (h : PyData.strOk x = true) : Odd c (.str x) := ⟨.no (fun _ => rfl) (fun _ h => by cases h), fun _ => rfl, .inr h⟩
theorem odd_lst {xs : List D} (h : ∀ x ∈ xs, Pur x) (he : ∀ y ∈ xs, dOk 2 y = true) : Odd c (.lst xs) := ⟨.no (fun _ => rfl) (fun _ h => by cases h), pur_lst h, .inr (List.all_eq_true.mpr he)⟩
theorem odd_lsti (is : List Int) : Odd c (.lst (is.map D.int)) := odd_lst (pur_ints is) (eqi_ints 2 is)
theorem odd_dk : Odd c (.dk [] []) := ⟨.no (fun _ => rfl) (fun _ h => by cases h), fun _ => rfl, .inl rfl⟩
/-- parts of a tuple -/
noncomputable def OPt (c : Cl) (n : Nat) (ys : List D) : Prop := ∀ y ∈ ys, (Th c y ∧ Pur y) ∧ dOk n y = true
theorem odd_opt {ys : List D} (h : OPt c 2 ys) (hl : ys.length ≤ 1000) : Odd c (.tup ys) := odd_tup (fun y hy => (h y hy).1.1) (fun y hy => (h y hy).1.2) (fun y hy => (h y hy).2) hl
variable {n : Nat}
theorem opt_nil : OPt c n [] := fun y hy => by cases hy
theorem opt_c {x : D} {ys : List D} (h1 : Th c x) (h2 : Pur x) (h3 : dOk n x = true) (h : OPt c n ys) : OPt c n (x :: ys) := fun y hy => by
  rcases List.mem_cons.mp hy with rfl | hy
  · exact ⟨⟨h1, h2⟩, h3⟩
  · exact h y hy
theorem opt_i {i : Int} {ys : List D} (h : OPt c n ys) : OPt c n (.int i :: ys) := opt_c (.int i) (pur_int _) (by cases n <;> rfl) h
theorem opt_n {ys : List D} (h : OPt c n ys) : OPt c n (.non :: ys) := opt_c (.ni ni_non) (fun _ => rfl) (by cases n <;> rfl) h
theorem opt_b {b : Bool} {ys : List D} (h : OPt c n ys) : OPt c n (.bl b :: ys) := opt_c (.ni (ni_bl b)) (fun _ => rfl) (by cases n <;> rfl) h
theorem opt_s {x : Str} {ys : List D} (hx : PyData.strOk x = true) (h : OPt c n ys) : OPt c n (.str x :: ys) := opt_c (.ni (ni_str x)) (fun _ => rfl) (by cases n <;> exact hx) h
theorem opt_t {xs ys : List D} (hx : OPt c n xs) (h : OPt c (n + 1) ys) : OPt c (n + 1) (.tup xs :: ys) := opt_c (.ni (ni_tup xs)) (pur_tup fun y hy => (hx y hy).1.2) (List.all_eq_true.mpr fun y hy => (hx y hy).2) h
theorem odd_wp {w : Nat} (hw : w = 3 ∨ w = 4) (ok : v.Ok k) (hk : k + 1 < 2 ^ 60) (hr : ∀ o ∈ r, PurO o)
    (h : ∀ d v', Odd c d → SrcV.Ok v' (k + 1) → Q d (v'.o :: r)) : @WR _ (odG [.ref 0, .int w] (v.o :: r)) Q E := by
  have pr := pur_cons hr (pur_srcv v)
  unfold odG
  have p15' : ∀ s, dPow s (.int 10) (.int 15) = some (.int 1000000000000000) := fun s => pow_lit (by decide +kernel) (by decide +kernel)
  have ln : ∀ (xs : List D) s, bLen s [.lst xs] = some (.int xs.length) := fun xs s => rfl
  rcases hw with rfl | rfl
  · simp_arith
    rw [rng1 (by decide) (by decide), w_some]
    refine lcp_all (List.range 0) (fun i => D.int (0 + (i : Int))) (fun _ => D.int 0) rfl (fun acc => rfl) (by decide) pr (fun _ _ => pur_int _) (fun x hx acc ha => by cases hx) ?_
    rw [show (List.range 0).map (fun _ => D.int 0) = [] from rfl]
    have s1 : ∀ s, dSl s (.tup [.int 1, .int 0, .int 5]) none (some (((3 : Nat) : Int) - 1)) = some (.tup [.int 1, .int 0]) := fun s => rfl
    have s2 : ∀ s, dSl s (.tup [.int 1, .int 0, .int 5]) (some 1) none = some (.tup [.int 0, .int 5]) := fun s => rfl
    have lt : ∀ s, bList s [.tup [.int 1, .int 0, .int 5]] = some (.lst [.int 1, .int 0, .int 5]) := fun s => rfl
    simp_arith [tuple_l, list_l, add_tt, add_ll, List.length_cons, List.length_nil, List.nil_append, List.cons_append, s1, s2, lt, p15', w_dict0, ln]
    refine drawB_wp ok (by omega) (by decide) (by decide +kernel) fun a v2 a0 a1 ok2 => ?_
    simp_arith
    refine wo_pick (Odd c) a0 (by simpa using a1) ?_ fun x hx => h x v2 hx ok2
    intro x hx
    simp only [List.mem_cons, List.not_mem_nil, or_false] at hx
    have n3 := odd_ints (c := c) (is := [1, 0, 5]) (by decide)
    rcases hx with rfl | rfl | rfl | rfl | rfl | rfl | rfl | rfl | rfl | rfl | rfl | rfl | rfl | rfl | rfl | rfl
    all_goals first
      | exact odd_non
      | exact odd_int _
      | exact odd_str (by decide +kernel)
      | exact odd_dk
      | exact odd_lsti [_, _, _]
      | exact odd_lsti [_, _, _, _]
      | (refine odd_opt ?_ (by simp); repeat' first | exact opt_nil | refine opt_i ?_ | refine opt_n ?_ | refine opt_b ?_ | refine opt_s (by decide +kernel) ?_ | refine opt_t ?_ ?_)
  · simp_arith
    rw [rng1 (by decide) (by decide), w_some]
    refine lcp_all (List.range 1) (fun i => D.int (0 + (i : Int))) (fun _ => D.int 0) rfl (fun acc => rfl) (by decide) pr (fun _ _ => pur_int _) (fun x hx acc ha => by simp_arith [wipeD]) ?_
    rw [show (List.range 1).map (fun _ => D.int 0) = [.int 0] from rfl]
    have s1 : ∀ s, dSl s (.tup [.int 0, .int 1, .int 0, .int 5]) none (some (((4 : Nat) : Int) - 1)) = some (.tup [.int 0, .int 1, .int 0]) := fun s => rfl
    have s2 : ∀ s, dSl s (.tup [.int 0, .int 1, .int 0, .int 5]) (some 1) none = some (.tup [.int 1, .int 0, .int 5]) := fun s => rfl
    have lt : ∀ s, bList s [.tup [.int 0, .int 1, .int 0, .int 5]] = some (.lst [.int 0, .int 1, .int 0, .int 5]) := fun s => rfl
    simp_arith [tuple_l, list_l, add_tt, add_ll, List.length_cons, List.length_nil, List.nil_append, List.cons_append, s1, s2, lt, p15', w_dict0, ln]
    refine drawB_wp ok (by omega) (by decide) (by decide +kernel) fun a v2 a0 a1 ok2 => ?_
    simp_arith
    refine wo_pick (Odd c) a0 (by simpa using a1) ?_ fun x hx => h x v2 hx ok2
    intro x hx
    simp only [List.mem_cons, List.not_mem_nil, or_false] at hx
    rcases hx with rfl | rfl | rfl | rfl | rfl | rfl | rfl | rfl | rfl | rfl | rfl | rfl | rfl | rfl | rfl | rfl
    all_goals first
      | exact odd_non
      | exact odd_int _
      | exact odd_str (by decide +kernel)
      | exact odd_dk
      | exact odd_lsti [_, _, _]
      | exact odd_lsti [_, _, _, _]
      | (refine odd_opt ?_ (by simp); repeat' first | exact opt_nil | refine opt_i ?_ | refine opt_n ?_ | refine opt_b ?_ | refine opt_s (by decide +kernel) ?_ | refine opt_t ?_ ?_)
theorem cut_sub {xs : List D} {lo hi : Option Int} : (∀ x ∈ cutD xs lo hi, x ∈ xs) ∧ (cutD xs lo hi).length ≤ xs.length := by
  unfold cutD
  refine ⟨fun x hx => List.mem_of_mem_drop (List.mem_of_mem_take hx), ?_⟩
  rw [List.length_take, List.length_drop]
  omega
theorem sl_tup (s : S) (xs : List D) (lo hi : Option Int) : dSl s (.tup xs) lo hi = some (.tup (cutD xs lo hi)) := rfl
theorem chg_wp {is : List Int} (hl : 1 ≤ is.length) (hl2 : is.length ≤ 10) {n : Nat} (hn : n ≤ 1000) (ok : v.Ok k) (hk : k + 10 < 2 ^ 60)
    (h : ∀ d v', Odd c d → SrcV.Ok v' (k + 4) → Q d (v'.o :: r)) : @WR _ (chG [.ref 0, .tup (is.map D.int), .int n] (v.o :: r)) Q E := by
  have p15' : ∀ s, dPow s (.int 10) (.int 15) = some (.int 1000000000000000) := fun s => pow_lit (by decide +kernel) (by decide +kernel)
  have p30' : ∀ s, dPow s (.int 10) (.int 30) = some (.int 1000000000000000000000000000000) := fun s => pow_lit (by decide +kernel) (by decide +kernel)
  have ln : ∀ (xs : List D) s, bLen s [.lst xs] = some (.int xs.length) := fun xs s => rfl
  have lt : ∀ s, bLen s [.tup (is.map D.int)] = some (.int is.length) := fun s => by
    show some (D.int _) = _
    rw [List.length_map]
  unfold chG
  simp_arith [lt]
  refine drawB_wp ok (by omega) (by omega) (by have : (is.length : Int) < 2 ^ 20 := by omega
                                               omega) fun a v2 a0 a1 ok2 => ?_
  simp_arith
  refine drawB_wp ok2 (by omega) (by decide) (by decide +kernel) fun b v3 b0 b1 ok3 => ?_
  obtain ⟨a, rfl⟩ := Int.eq_ofNat_of_zero_le a0
  refine wo_pick (fun x => ∃ p : Nat, x = .int p ∧ p < is.length) b0 (by simpa using b1) ?_ ?_
  · intro x hx
    simp only [List.mem_cons, List.not_mem_nil, or_false] at hx
    rcases hx with rfl | rfl | rfl
    · exact ⟨is.length - 1, by rw [Int.natCast_sub hl]; rfl, by omega⟩
    · exact ⟨is.length - 1, by rw [Int.natCast_sub hl]; rfl, by omega⟩
    · exact ⟨a, rfl, by omega⟩
  rintro x ⟨p, rfl, hp⟩
  have ix : ∀ s, dIx s (.tup (is.map D.int)) (.int p) = some (.int is[p]) := fun s => by
    rw [dIx_tup]
    exact atI_map (List.getElem?_eq_getElem hp)
  simp_arith [ix]
  refine drawB_wp ok3 (by omega) (by omega) (by have : (n : Int) < 2 ^ 20 := by omega
                                                omega) fun b v4 b0 b1 ok4 => ?_
  simp_arith [p15', p30', add_ll, List.length_cons, List.length_nil, List.nil_append, List.cons_append, ln, sl_tup]
  refine drawB_wp ok4 (by omega) (by decide) (by decide +kernel) fun e v5 e0 e1 ok5 => ?_
  simp_arith
  refine wo_pick (fun x => (Th c x ∧ Pur x) ∧ dOk 2 x = true) e0 (by simpa using e1) ?_ ?_
  · intro x hx
    simp only [List.mem_cons, List.not_mem_nil, or_false] at hx
    rcases hx with rfl | rfl | rfl | rfl | rfl | rfl | rfl | rfl | rfl | rfl | rfl | rfl | rfl | rfl | rfl
    all_goals first
      | exact ⟨⟨.int _, pur_int _⟩, rfl⟩
      | exact ⟨⟨.ni (ni_bl _), fun _ => rfl⟩, rfl⟩
  rintro x ⟨⟨x1, x2⟩, x3⟩
  obtain ⟨m1, l1⟩ := cut_sub (xs := is.map D.int) (lo := none) (hi := some (p : Int))
  obtain ⟨m2, l2⟩ := cut_sub (xs := is.map D.int) (lo := some ((p : Int) + 1)) (hi := none)
  rw [List.length_map] at l1 l2
  have t1 : ∀ s, dAdd s (.tup (cutD (is.map D.int) none (some (p : Int)))) (.tup [x]) = some (.tup (cutD (is.map D.int) none (some (p : Int)) ++ [x])) := fun s => add_tt (by simp; omega)
  have t2 : ∀ s, dAdd s (.tup (cutD (is.map D.int) none (some (p : Int)) ++ [x])) (.tup (cutD (is.map D.int) (some ((p : Int) + 1)) none)) = some (.tup (cutD (is.map D.int) none (some (p : Int)) ++ [x] ++ cutD (is.map D.int) (some ((p : Int) + 1)) none)) := fun s => add_tt (by simp; omega)
  simp_arith [t1, sl_tup, t2]
  refine h _ v5 (odd_opt (fun y hy => ?_) (by simp; omega)) ok5
  rcases List.mem_append.mp hy with hy | hy
  · rcases List.mem_append.mp hy with hy | hy
    · exact ⟨⟨th_ints _ _ (m1 _ hy), pur_ints _ _ (m1 _ hy)⟩, eqi_ints _ _ _ (m1 _ hy)⟩
    · rw [List.mem_singleton.mp hy]
      exact ⟨⟨x1, x2⟩, x3⟩
  · exact ⟨⟨th_ints _ _ (m2 _ hy), pur_ints _ _ (m2 _ hy)⟩, eqi_ints _ _ _ (m2 _ hy)⟩
--SP
theorem odd_ex {w : Nat} (hw : w = 3 ∨ w = 4) (ok : v.Ok k) (hk : k + 1 < 2 ^ 60) (hr : ∀ o ∈ r, PurO o) : ∃ d v', Odd c d ∧ SrcV.Ok v' (k + 1) ∧ odG [.ref 0, .int w] (v.o :: r) = .ok d (v'.o :: r) := by
  have h : @WR _ (odG [.ref 0, .int w] (v.o :: r)) ⟨fun d s' => ∃ v', Odd c d ∧ SrcV.Ok v' (k + 1) ∧ s' = v'.o :: r⟩ ⟨nE⟩ := odd_wp hw ok hk hr fun d v' h1 h2 => ⟨v', h1, h2, rfl⟩
  obtain ⟨d, s', e, v', h1, h2, rfl⟩ := ex_ok h
  exact ⟨d, v', h1, h2, e⟩
theorem chg_ex {is : List Int} (hl : 1 ≤ is.length) (hl2 : is.length ≤ 10) {n : Nat} (hn : n ≤ 1000) (ok : v.Ok k) (hk : k + 10 < 2 ^ 60) : ∃ d v', Odd c d ∧ SrcV.Ok v' (k + 4) ∧ chG [.ref 0, .tup (is.map D.int), .int n] (v.o :: r) = .ok d (v'.o :: r) := by
  have h : @WR _ (chG [.ref 0, .tup (is.map D.int), .int n] (v.o :: r)) ⟨fun d s' => ∃ v', Odd c d ∧ SrcV.Ok v' (k + 4) ∧ s' = v'.o :: r⟩ ⟨nE⟩ := chg_wp hl hl2 hn ok hk fun d v' h1 h2 => ⟨v', h1, h2, rfl⟩
  obtain ⟨d, s', e, v', h1, h2, rfl⟩ := ex_ok h
  exact ⟨d, v', h1, h2, e⟩
theorem dr_ex {lim : Int} (ok : v.Ok k) (hk : k < 2 ^ 60) (h0 : 0 < lim) (h1 : lim < 2 ^ 200) : ∃ (x : Nat) (v' : SrcV), (x : Int) < lim ∧ v'.Ok (k + 1) ∧ drawB [.ref 0, .int lim] (v.o :: r) = .ok (.int x) (v'.o :: r) := by
  obtain ⟨x, v', x0, x1, ov, e⟩ := drawB_ok (s := v.o :: r) (k := 0) rfl ok hk h0 h1
  obtain ⟨x, rfl⟩ := Int.eq_ofNat_of_zero_le x0
  exact ⟨x, v', x1, ov, e⟩
theorem rl_ins {o : O} {xs : List D} {q : Nat} (hb : xs.length < 1000000) (hq : q ≤ xs.length) (y : D) : mInsert (o :: (r ++ [.lst xs])) (.ref (r.length + 1)) [.int q, y] = some (.non, o :: (r ++ [.lst (xs.take q ++ [y] ++ xs.drop q)])) := by
  unfold mInsert
  simp only [rl_get]
  rw [if_pos ⟨hb, by omega, by omega⟩, Int.toNat_natCast, rl_set]
theorem rl_pop {o : O} {xs : List D} {q : Nat} (hb : xs.length < 1000000) (hq : q < xs.length) : mPopAt (o :: (r ++ [.lst xs])) (.ref (r.length + 1)) [.int q] = some (xs[q], o :: (r ++ [.lst (xs.eraseIdx q)])) := by
  unfold mPopAt
  simp only [rl_get]
  have big : (2 : Int) ^ 60 = 1152921504606846976 := by decide
  rw [if_pos ⟨by omega, by omega⟩, Int.toNat_natCast, List.getElem?_eq_getElem hq, Option.map_some, rl_set]
end Pg

/-! reading and writing sightings -/
namespace SI
open PySem L2 Pg Mt
variable {c : Cl}
/-- what is read in the end, and where it stops -/
inductive RdO (ls : List (List Nat)) (r : List Nat) : Option (List (List Nat × Nat)) → Nat → Prop
  | ok {gs : List (List Nat × Nat)} (hr : r = []) (hn : ls.length ≤ 60) (hg : ls.map sgW = gs.map some) : RdO ls r (some gs) 0
  | bad {i : Nat} {gs : List (List Nat × Nat)} (hi : i < ls.length) (h0 : i ≤ 60) (hg : (ls.take i).map sgW = gs.map some) (h1 : sgW (ls.getD i []) = none ∨ i = 60) : RdO ls r none (i + 1)
  | op {gs : List (List Nat × Nat)} (hr : r ≠ []) (hn : ls.length ≤ 60) (hg : ls.map sgW = gs.map some) : RdO ls r none (ls.length + 1)
section
variable {l r : List Nat} {ls : List (List Nat)} (hl : l.length + 2 ≤ 1000000) (ht : TOk l) (h : cut 10 l = ls ++ [r])
include hl ht h
end
end SI

/-! writing sightings -/
namespace Mt
open PySem L2
theorem joinL_len (a : List Nat) : ∀ ps : List (List Nat), (TL.joinL a ps).length ≤ (ps.map List.length).sum + ps.length * a.length
  | [] => Nat.zero_le _
  | [p] => by
    show p.length ≤ _
    simp
  | p :: q :: r => by
    have := joinL_len a (q :: r)
    rw [joinL_cons (List.cons_ne_nil _ _), List.length_append, List.length_append, List.map_cons, List.sum_cons, List.length_cons (a := p), Nat.succ_mul]
    omega
theorem sum_le (k : Nat) : ∀ {xs : List Nat}, (∀ x ∈ xs, x ≤ k) → xs.sum ≤ xs.length * k
  | [], _ => Nat.zero_le _
  | x :: xs, h => by
    have h1 := h x (List.mem_cons_self ..)
    have h2 := sum_le k fun y hy => h y (List.mem_cons_of_mem _ hy)
    rw [List.sum_cons, List.length_cons, Nat.succ_mul]
    omega
theorem nums_len {ns : List Nat} (h : ∀ n ∈ ns, n ≤ 1000000000000000) : ((ns.map TL.numL).map List.length).sum ≤ ns.length * 16 := by
  have := sum_le 16 (xs := (ns.map TL.numL).map List.length) fun x hx => by
    obtain ⟨p, hp, rfl⟩ := List.mem_map.mp hx
    obtain ⟨n, hn, rfl⟩ := List.mem_map.mp hp
    exact TL.numL_len (by decide) (by have := h n hn; omega)
  rwa [List.length_map, List.length_map] at this
end Mt
namespace SI
open PySem L2 Pg Mt
variable {c : Cl}
theorem join_dS {s : S} {a : List Nat} {ps : List (List Nat)} (hl : (ps.map List.length).sum + ps.length * a.length ≤ 1000000) : mJoin s (.str (st a)) (.lst (ps.map dS)) = some (dS (TL.joinL a ps)) := by
  have e := join_ok (s := s) (d := .lst (ps.map dS)) (a := st a) (ys := ps.map st) (by
    show some (ps.map dS) = _
    rw [List.map_map]
    rfl) (by
    rw [List.map_map, List.length_map, st_len]
    have : (ps.map ((fun x : Str => x.length) ∘ st)) = ps.map List.length := List.map_congr_left fun p _ => st_len p
    rw [this]
    exact hl)
  rw [e, join_st]
  rfl
theorem add_dS {s : S} {a b : List Nat} (h : a.length + b.length ≤ 1000000) : dAdd s (dS a) (dS b) = some (dS (a ++ b)) := by
  show (if (st a).length + (st b).length ≤ big then some (D.str (st a ++ st b)) else none) = _
  rw [if_pos (by rw [st_len, st_len]; exact h), st_app]
  rfl
theorem js_dS {a b : List Nat} (h : a.length + b.length ≤ 1000000) : jsD (st a) (dS b) = some (st (a ++ b)) := by
  show (if (st a ++ st b).length ≤ big then some (st a ++ st b) else none) = _
  rw [st_app, if_pos (by rw [st_len, List.length_append]; exact h)]
theorem nS_st (n : Nat) : nS n = st (TL.numL n) := TL.ext_tl (tl_nS n)
theorem bStr_dS {n : Nat} (h : n < 10 ^ 30) (s : S) : bStr s [.int n] = some (dS (TL.numL n)) := by
  rw [bStr_nat h, nS_st]
  rfl
theorem fmt_st {n : Nat} (h : n < 10 ^ 30) : fmtD (.int n) = some (st (TL.numL n)) := by rw [fmt_nat h, nS_st]
theorem empty_st : Str.empty = st [] := rfl
end SI

/-! words heard in a right gather: the tree below a hand -/
namespace Pg
open PySem L2 SI Mt
variable {l g : Int} {n : Nat} {R : List Rw}
/-- who sends to h -/
noncomputable def ch (R : List Rw) (h : Int) : List Int := (R.filter fun z => decide (z.2.1 = h)).map (·.1)
/-- all below h, h included; k: fuel -/
noncomputable def Wd (R : List Rw) : Nat → Int → List Int
  | 0, h => [h]
  | k + 1, h => h :: (ch R h).flatMap (Wd R k)
/-- all below h -/
noncomputable def V (R : List Rw) (h : Int) : List Int := Wd R R.length h
end Pg

/-! no right gather ends too soon -/
namespace Pg
open PySem L2 SI Mt
variable {M : Mc} {n : Nat} {R : List Rw}
end Pg

/-! name_at -/
namespace SI
open PySem L2 Pg Mt
variable {c : Cl} {M : Mc} {t : Option Nat}
/-- the name at a place -/
structure NmAt (M : Mc) (t : Option Nat) (rs : List Int) (x : Int) (r : Nat) (ns : List Nat) : Prop where
  ok : OkN t rs.length r ns
  hor : TM M rs r ns ≤ hor M t
  pl : PL M t rs r ns = x
theorem NmAt.lt (hM : M.Ok) (ht : OkT t) {rs : List Int} (hr : OkR rs) {x : Int} {r : Nat} {ns : List Nat} (h : NmAt M t rs x r ns) : LT M t rs (x + 1) (TM M rs r ns) := by
  have := PL_LT hM ht hr.mem (Pg.OkN.vn (M := M) h.ok) h.hor
  rw [h.pl] at this
  exact this
theorem NmAt.uniq (hM : M.Ok) (ht : OkT t) {rs : List Int} (hr : OkR rs) {x : Int} {r r' : Nat} {ns ns' : List Nat} (h : NmAt M t rs x r ns) (h' : NmAt M t rs x r' ns') : r = r' ∧ ns = ns' :=
  PL_inj hM ht hr.mem (Pg.OkN.vn (M := M) h.ok) (Pg.OkN.vn (M := M) h'.ok) (by rw [h.pl, h'.pl])
end SI

/-! names with a last item -/
namespace SI
open PySem L2 Pg Mt
variable {c : Cl} {M : Mc} {t : Option Nat}
theorem TM_snoc (M : Mc) (rs : List Int) (r : Nat) (ms : List Nat) (n : Nat) : TM M rs r (ms ++ [n]) = TM M rs r ms + M.letter + n * M.gap := by
  unfold TM
  rw [List.length_append, List.length_singleton, smN_app, smN, smN]
  push_cast
  rw [Int.add_mul, Int.add_mul, Int.one_mul, Int.add_zero]
  omega
theorem PL_nonneg (hM : M.Ok) (rs : List Int) (r : Nat) (ns : List Nat) : 0 ≤ PL M t rs r ns := by
  have := PL_ge (t := t) hM rs r ns
  have := FRs_nonneg M t (TM M rs r ns - 1) rs
  omega
end SI

/-! names in their order: those that wait, the first of them out, its next ones in -/
namespace Pg
open PySem L2 SI Mt
variable {M : Mc} {t : Option Nat} {rs : List Int}
noncomputable abbrev NP := Nat × List Nat
noncomputable def Vn (M : Mc) (t : Option Nat) (rs : List Int) (x : NP) : Prop := VN M t rs x.1 x.2
noncomputable def PP (M : Mc) (t : Option Nat) (rs : List Int) (x : NP) : Int := PL M t rs x.1 x.2
noncomputable def TmN (M : Mc) (rs : List Int) (x : NP) : Int := TM M rs x.1 x.2
noncomputable def nxt (t : Option Nat) (n : Nat) : Bool := match t with
  | none => true
  | some k => decide (n + 1 < k)
theorem nxt_bel {n : Nat} : nxt t n = true ↔ Bel t (n + 1) := by
  unfold nxt Bel
  cases t with
  | none => simp
  | some k => simp
/-- the next one of the same sender -/
noncomputable def sib (t : Option Nat) (x : NP) : List NP := match x.2.getLast? with
  | none => []
  | some n => if nxt t n = true then [(x.1, x.2.dropLast ++ [n + 1])] else []
noncomputable def kids (t : Option Nat) (x : NP) : List NP := (x.1, x.2 ++ [0]) :: sib t x
theorem sib_snoc (r : Nat) (ms : List Nat) (n : Nat) : sib t (r, ms ++ [n]) = if nxt t n = true then [(r, ms ++ [n + 1])] else [] := by
  unfold sib
  rw [List.getLast?_concat]
  simp
theorem last_cases (xs : List Nat) : xs = [] ∨ ∃ ms n, xs = ms ++ [n] := by
  rcases List.eq_nil_or_concat xs with h | ⟨ms, n, h⟩
  · exact .inl h
  · exact .inr ⟨ms, n, by rw [h, List.concat_eq_append]⟩
theorem mem_kids {x z : NP} : z ∈ kids t x ↔ z = (x.1, x.2 ++ [0]) ∨ ∃ ms n, x.2 = ms ++ [n] ∧ nxt t n = true ∧ z = (x.1, ms ++ [n + 1]) := by
  obtain ⟨r, xs⟩ := x
  unfold kids
  rw [List.mem_cons]
  refine or_congr Iff.rfl ?_
  rcases last_cases xs with rfl | ⟨ms, n, rfl⟩
  · simp [sib]
  · rw [sib_snoc]
    constructor
    · intro h
      split at h
      · rename_i hn
        exact ⟨ms, n, rfl, hn, List.mem_singleton.mp h⟩
      · cases h
    · rintro ⟨ms', n', e, hn, rfl⟩
      obtain ⟨rfl, e2⟩ := List.append_inj' e rfl
      cases e2
      rw [if_pos hn]
      exact .head _
theorem kids_vn (ht : OkT t) {x z : NP} (hx : Vn M t rs x) (hz : z ∈ kids t x) : Vn M t rs z := by
  rcases mem_kids.mp hz with rfl | ⟨ms, n, e, hn, rfl⟩
  · refine ⟨hx.r, fun m hm => ?_⟩
    rcases List.mem_append.mp hm with h | h
    · exact hx.b m h
    · rw [List.mem_singleton.mp h]
      intro k e
      have := (ht k e).1
      omega
  · refine ⟨hx.r, fun m hm => ?_⟩
    rcases List.mem_append.mp hm with h | h
    · exact hx.b m (by rw [e]; exact List.mem_append_left _ h)
    · rw [List.mem_singleton.mp h]
      exact nxt_bel.mp hn
theorem kids_tm (hM : M.Ok) {x z : NP} (hz : z ∈ kids t x) : TmN M rs x < TmN M rs z := by
  have l0 := hM.letter0
  have g0 := hM.gap0
  rcases mem_kids.mp hz with rfl | ⟨ms, n, e, hn, rfl⟩
  · unfold TmN
    rw [TM_snoc]
    dsimp only
    omega
  · obtain ⟨r, xs⟩ := x
    dsimp only at e
    subst e
    unfold TmN
    rw [TM_snoc, TM_snoc]
    have : ((n + 1 : Nat) : Int) * M.gap = n * M.gap + M.gap := by
      rw [Int.natCast_add, Int.add_mul]
      omega
    dsimp only
    omega
section
variable (hM : M.Ok) (ht : OkT t) (hr : OkR rs)
include hM ht hr
theorem kids_pp {x z : NP} (hx : Vn M t rs x) (hz : z ∈ kids t x) : PP M t rs x < PP M t rs z :=
  PL_ord hM ht hr.mem hx (kids_vn ht hx hz) (.time (kids_tm hM hz))
theorem pp_inj {x y : NP} (hx : Vn M t rs x) (hy : Vn M t rs y) (e : PP M t rs x = PP M t rs y) : x = y := by
  obtain ⟨h1, h2⟩ := PL_inj hM ht hr.mem hx hy e
  exact Prod.ext h1 h2
omit hM ht hr in
/-- from whom a name comes -/
theorem pred_of {x : NP} (hx : Vn M t rs x) : x.2 = [] ∨ ∃ y, Vn M t rs y ∧ x ∈ kids t y := by
  obtain ⟨r, xs⟩ := x
  rcases last_cases xs with h | ⟨ms, n, rfl⟩
  · exact .inl h
  · refine .inr ?_
    have hm : ∀ m ∈ ms, Bel t m := fun m hm => hx.b m (List.mem_append_left _ hm)
    have hn : Bel t n := hx.b n (by simp)
    cases n with
    | zero => exact ⟨(r, ms), ⟨hx.r, hm⟩, mem_kids.mpr (.inl rfl)⟩
    | succ n =>
      refine ⟨(r, ms ++ [n]), ⟨hx.r, fun m h => ?_⟩, mem_kids.mpr (.inr ⟨ms, n, rfl, nxt_bel.mpr hn, rfl⟩)⟩
      rcases List.mem_append.mp h with h | h
      · exact hm m h
      · rw [List.mem_singleton.mp h]
        intro k e
        have := hn k e
        omega
omit hM ht hr in
theorem kids_one {x y z : NP} (hx : z ∈ kids t x) (hy : z ∈ kids t y) : x = y := by
  obtain ⟨r, xs⟩ := x
  obtain ⟨r', ys⟩ := y
  rcases mem_kids.mp hx with rfl | ⟨ms, n, e, hn, rfl⟩
  · rcases mem_kids.mp hy with e | ⟨ms', n', e', hn', e⟩
    · obtain ⟨e1, e2⟩ := Prod.mk.inj e
      exact Prod.ext e1 (List.append_inj' e2 rfl).1
    · obtain ⟨e1, e2⟩ := Prod.mk.inj e
      have := (List.append_inj' e2 rfl).2
      simp at this
  · rcases mem_kids.mp hy with e' | ⟨ms', n', e', hn', e''⟩
    · obtain ⟨e1, e2⟩ := Prod.mk.inj e'
      have := (List.append_inj' e2 rfl).2
      simp at this
    · obtain ⟨e1, e2⟩ := Prod.mk.inj e''
      obtain ⟨e3, e4⟩ := List.append_inj' e2 rfl
      simp at e4
      dsimp only at e e' e1 e3
      rw [e, e', e1, e3, e4]
structure St (M : Mc) (t : Option Nat) (rs : List Int) (i : Nat) (Y W : List NP) : Prop where
  hy : ∀ y ∈ Y, Vn M t rs y
  hw : ∀ w ∈ W, Vn M t rs w ∧ ∀ y ∈ Y, PP M t rs y < PP M t rs w
  rt : ∀ r, r < rs.length → (r, []) ∈ Y ∨ (r, []) ∈ W
  kd : ∀ y ∈ Y, ∀ z ∈ kids t y, z ∈ Y ∨ z ∈ W
  pr : ∀ w ∈ W, w.2 = [] ∨ ∃ y ∈ Y, w ∈ kids t y
  nd : W.Nodup
  ly : Y.length = i
  lw : W.length ≤ rs.length + i
  w0 : W ≠ []
  sm : ∀ w ∈ W, w.2.length ≤ i ∧ ∀ n ∈ w.2, n ≤ i
theorem St.cl {i : Nat} {Y W : List NP} (h : St M t rs i Y W) : ∀ (k : Nat) {x : NP}, PP M t rs x ≤ k → Vn M t rs x → x ∈ Y ∨ ∃ w ∈ W, PP M t rs w ≤ PP M t rs x
  | k, x, hk, hx => by
    rcases pred_of hx with e | ⟨y, hy, hxy⟩
    · have : x = (x.1, []) := Prod.ext rfl e
      rw [this]
      rcases h.rt x.1 hx.r with h1 | h1
      · exact .inl h1
      · exact .inr ⟨_, h1, Int.le_refl _⟩
    · have hp := kids_pp hM ht hr hy hxy
      have h0 : 0 ≤ PP M t rs y := PL_nonneg hM ..
      match k, hk with
      | 0, hk => omega
      | k + 1, hk =>
        rcases St.cl h k (x := y) (by omega) hy with h1 | ⟨w, hw, h2⟩
        · rcases h.kd y h1 x hxy with h3 | h3
          · exact .inl h3
          · exact .inr ⟨x, h3, Int.le_refl _⟩
        · exact .inr ⟨w, hw, by omega⟩
/-- the least of those that wait is the least of all that are left -/
theorem St.least {i : Nat} {Y W : List NP} (h : St M t rs i Y W) {m : NP} (hl : ∀ w ∈ W, PP M t rs m ≤ PP M t rs w) {x : NP} (hx : Vn M t rs x) (hn : x ∉ Y) : PP M t rs m ≤ PP M t rs x := by
  have h0 : 0 ≤ PP M t rs x := PL_nonneg hM ..
  rcases h.cl hM ht hr (PP M t rs x).toNat (by omega) hx with h1 | ⟨w, hw, h2⟩
  · exact absurd h1 hn
  · have := hl w hw
    omega
theorem St.step {i : Nat} {Y W : List NP} (h : St M t rs i Y W) {j : Nat} (hj : j < W.length) (hl : ∀ w ∈ W, PP M t rs W[j] ≤ PP M t rs w) : St M t rs (i + 1) (Y ++ [W[j]]) (W.eraseIdx j ++ kids t W[j]) := by
  have hm : W[j] ∈ W := List.getElem_mem hj
  obtain ⟨hv, hlt⟩ := h.hw _ hm
  have hdec : W = W.take j ++ W[j] :: W.drop (j + 1) := by rw [← List.drop_eq_getElem_cons hj, List.take_append_drop]
  have hn := h.nd
  rw [hdec] at hn
  have hn1 := List.nodup_append.mp hn
  have hn2 := List.nodup_cons.mp hn1.2.1
  have her : ∀ w ∈ W.eraseIdx j, w ∈ W ∧ w ≠ W[j] := fun w hw => by
    rw [List.eraseIdx_eq_take_drop_succ] at hw
    rcases List.mem_append.mp hw with hw | hw
    · exact ⟨List.mem_of_mem_take hw, fun e => hn1.2.2 w hw _ (List.mem_cons_self ..) e⟩
    · exact ⟨List.mem_of_mem_drop hw, fun e => hn2.1 (by rw [← e]; exact hw)⟩
  have hin : ∀ w ∈ W, w = W[j] ∨ w ∈ W.eraseIdx j := fun w hw => by
    rw [hdec] at hw
    rw [List.eraseIdx_eq_take_drop_succ]
    rcases List.mem_append.mp hw with hw | hw
    · exact .inr (List.mem_append_left _ hw)
    · rcases List.mem_cons.mp hw with e | hw
      · exact .inl e
      · exact .inr (List.mem_append_right _ hw)
  have hmn : W[j] ∉ Y := fun hy => Int.lt_irrefl _ (hlt _ hy)
  have hkw : ∀ z ∈ kids t W[j], z ∉ W := fun z hz hw => by
    rcases h.pr z hw with e | ⟨y, hy, hyz⟩
    · rcases mem_kids.mp hz with e2 | ⟨ms, n, _, _, e2⟩ <;> rw [e2] at e <;> simp at e
    · exact hmn (by rw [kids_one hz hyz]; exact hy)
  have hkl : (kids t W[j]).length ≤ 2 := by
    unfold kids sib
    split
    · simp
    · split <;> simp
  have hsm := h.sm _ hm
  have hel : (W.eraseIdx j).length = W.length - 1 := by rw [List.length_eraseIdx, if_pos hj]
  refine ⟨fun y hy => ?_, fun w hw => ?_, fun r hr' => ?_, fun y hy z hz => ?_, fun w hw => ?_, ?_, ?_, ?_, ?_, fun w hw => ?_⟩
  · rcases List.mem_append.mp hy with hy | hy
    · exact h.hy y hy
    · rw [List.mem_singleton.mp hy]
      exact hv
  · rcases List.mem_append.mp hw with hw | hw
    · obtain ⟨h1, h2⟩ := her w hw
      obtain ⟨h3, h4⟩ := h.hw w h1
      refine ⟨h3, fun y hy => ?_⟩
      rcases List.mem_append.mp hy with hy | hy
      · exact h4 y hy
      · rw [List.mem_singleton.mp hy]
        rcases Int.lt_or_eq_of_le (hl w h1) with h5 | h5
        · exact h5
        · exact absurd (pp_inj hM ht hr hv h3 h5).symm h2
    · refine ⟨kids_vn ht hv hw, fun y hy => ?_⟩
      have := kids_pp hM ht hr hv hw
      rcases List.mem_append.mp hy with hy | hy
      · have := hlt y hy
        omega
      · rw [List.mem_singleton.mp hy]
        exact this
  · rcases h.rt r hr' with h1 | h1
    · exact .inl (List.mem_append_left _ h1)
    · rcases hin _ h1 with e | h2
      · exact .inl (List.mem_append_right _ (by rw [e]; exact .head _))
      · exact .inr (List.mem_append_left _ h2)
  · rcases List.mem_append.mp hy with hy | hy
    · rcases h.kd y hy z hz with h1 | h1
      · exact .inl (List.mem_append_left _ h1)
      · rcases hin _ h1 with e | h2
        · exact .inl (List.mem_append_right _ (by rw [e]; exact .head _))
        · exact .inr (List.mem_append_left _ h2)
    · rw [List.mem_singleton.mp hy] at hz
      exact .inr (List.mem_append_right _ hz)
  · rcases List.mem_append.mp hw with hw | hw
    · rcases h.pr w (her w hw).1 with e | ⟨y, hy, hyw⟩
      · exact .inl e
      · exact .inr ⟨y, List.mem_append_left _ hy, hyw⟩
    · exact .inr ⟨_, List.mem_append_right _ (.head _), hw⟩
  · refine List.nodup_append.mpr ⟨h.nd.sublist (List.eraseIdx_sublist ..), ?_, fun a ha b hb e => hkw b hb (by rw [← e]; exact (her a ha).1)⟩
    unfold kids sib
    split
    · simp
    · split
      · rename_i n e _
        refine List.nodup_cons.mpr ⟨fun hz => ?_, by simp⟩
        have := (Prod.mk.inj (List.mem_singleton.mp hz)).2
        have := (List.append_inj' this rfl).2
        simp at this
      · simp
  · rw [List.length_append, h.ly]
    rfl
  · rw [List.length_append, hel]
    have := h.lw
    omega
  · intro e
    have := congrArg List.length e
    rw [List.length_append] at this
    unfold kids at this
    simp at this
  · rcases List.mem_append.mp hw with hw | hw
    · have := h.sm w (her w hw).1
      exact ⟨by omega, fun n hn => by have := this.2 n hn; omega⟩
    · rcases mem_kids.mp hw with rfl | ⟨ms, n, e, hnx, rfl⟩
      · refine ⟨by rw [List.length_append, List.length_singleton]; omega, fun n hn => ?_⟩
        rcases List.mem_append.mp hn with h1 | h1
        · have := hsm.2 n h1
          omega
        · rw [List.mem_singleton.mp h1]
          omega
      · have h1 := hsm.1
        rw [e, List.length_append, List.length_singleton] at h1
        refine ⟨by rw [List.length_append, List.length_singleton]; omega, fun m hm => ?_⟩
        rcases List.mem_append.mp hm with h2 | h2
        · have := hsm.2 m (by rw [e]; exact List.mem_append_left _ h2)
          omega
        · rw [List.mem_singleton.mp h2]
          have := hsm.2 n (by rw [e]; simp)
          omega
/-- those that wait at first -/
noncomputable def rts (rs : List Int) : List NP := (List.range rs.length).map fun r => (r, [])
omit ht in
theorem St.zero : St M t rs 0 [] (rts rs) := by
  have hl0 := hr.l0
  refine ⟨fun y hy => (nomatch hy), fun w hw => ?_, fun r hr' => ?_, fun y hy => (nomatch hy), fun w hw => ?_, ?_, rfl, by simp [rts], ?_, fun w hw => ?_⟩
  · obtain ⟨r, h1, rfl⟩ := List.mem_map.mp hw
    exact ⟨⟨List.mem_range.mp h1, fun n hn => (nomatch hn)⟩, fun y hy => (nomatch hy)⟩
  · exact .inr (List.mem_map.mpr ⟨r, List.mem_range.mpr hr', rfl⟩)
  · obtain ⟨r, h1, rfl⟩ := List.mem_map.mp hw
    exact .inl rfl
  · unfold rts List.Nodup
    rw [List.pairwise_map]
    exact List.Pairwise.imp (fun {a b} h e => h (Prod.mk.inj e).1) List.nodup_range
  · intro e
    have h1 : (rts rs).length = rs.length := by simp [rts]
    rw [e] at h1
    have h1 : 0 = rs.length := h1
    omega
  · obtain ⟨r, h1, rfl⟩ := List.mem_map.mp hw
    exact ⟨Nat.le_refl _, fun n hn => (nomatch hn)⟩
end
end Pg

/-! for .. in a generator def, by an invariant -/
namespace SI
open PySem L2
end SI
namespace Pg
open PySem L2 SI Mt
variable {c : Cl} {M : Mc} {t : Option Nat} {rs : List Int}
noncomputable def kD (M : Mc) (rs : List Int) (x : NP) : D := .tup [.int (TmN M rs x), .int x.2.length, nmD x.1 x.2]
/-! remove -/
end Pg

/-! in_order, first_names -/
namespace Pg
open PySem L2 SI Mt
variable {c : Cl} {M : Mc} {t : Option Nat} {rs : List Int}
noncomputable def gL (c : Cl) (M : Mc) (t : Option Nat) (rs : List Int) (k : Nat) (m : D) (y5 y6 y7 : Option D) : Lc := [some (M.d c), some (tD t), some (.lst (rs.map D.int)), some (.ref k), some m, y5, y6, y7, none, none]
inductive InSt (c : Cl) (M : Mc) (t : Option Nat) (rs : List Int) (s : S) (o : O) (ph : Nat) (Lg : Lc) (s0 : S) (W : List NP) : Prop
  | new (h0 : ph = 0) (h1 : Lg = startD 10 [M.d c, tD t, .lst (rs.map D.int)]) (h2 : s0 = s ++ [o]) (h3 : W = rts rs)
  | old (W1 : List NP) (m : NP) (y5 y6 y7 : Option D) (h0 : ph = 1) (h1 : Lg = gL c M t rs (s.length + 1) (kD M rs m) y5 y6 y7) (h2 : s0 = s ++ [o, .lst (W1.map (kD M rs))]) (h3 : W = W1 ++ kids t m) (h4 : m.2.length ≤ 300) (h5 : W1.length ≤ 300)
end Pg

/-! checked_names, plan_of, best_plan -/
namespace Pg
open PySem L2 SI Mt
variable {c : Cl} {M : Mc} {t : Option Nat}
noncomputable def pos : List NP → NP → Nat
  | [], _ => 0
  | y :: ys, x => if y = x then 0 else pos ys x + 1
/-- a tree of names -/
structure TrG (Y : List NP) : Prop where
  ok : ∀ y ∈ Y, OkN none 1 y.1 y.2
  nd : Y.Nodup
  l0 : 0 < Y.length
  l1 : Y.length ≤ 100
  rt : ∀ i (hi : i < Y.length), i = 0 → Y[i] = (0, [])
  up : ∀ i (hi : i < Y.length), 0 < i → ∃ ms a, Y[i] = (0, ms ++ [a]) ∧ (0, ms) ∈ Y ∧ ∀ a', a = a' + 1 → (0, ms ++ [a']) ∈ Y
noncomputable def yAt (Y : List NP) (i : Nat) : NP := Y.getD i (0, [])
theorem yAt_eq {Y : List NP} {i : Nat} (hi : i < Y.length) : yAt Y i = Y[i] := by
  unfold yAt
  rw [List.getD_eq_getElem?_getD, List.getElem?_eq_getElem hi]
  rfl
/-- the row of the hand i -/
noncomputable def plRow (M : Mc) (Y : List NP) (i : Nat) : Rw := (((pos Y ((yAt Y i).1, (yAt Y i).2.dropLast) : Nat) : Int), ((i : Nat) : Int), TmN M [0] (yAt Y i) - M.letter)
theorem TrG.row {Y : List NP} (h : TrG Y) {i : Nat} (h0 : 0 < i) (hi : i < Y.length) : ∃ ms a, Y[i] = (0, ms ++ [a]) ∧ (0, ms) ∈ Y ∧ plRow M Y i = (((pos Y (0, ms) : Nat) : Int), ((i : Nat) : Int), TM M [0] 0 ms + a * M.gap) := by
  obtain ⟨ms, a, e, hm, _⟩ := h.up i hi h0
  refine ⟨ms, a, e, hm, ?_⟩
  unfold plRow
  rw [yAt_eq hi, e]
  unfold TmN
  dsimp only
  rw [List.dropLast_concat, TM_snoc, show TM M [0] 0 ms + M.letter + a * M.gap - M.letter = TM M [0] 0 ms + a * M.gap by omega]
end Pg

/-! mirrors: when they begin and end; the same rows, tracked -/
namespace Pg
open PySem L2 SI Mt
variable {c : Cl} {M : Mc} {zs : List Rw} {l L m : Int}
noncomputable def sts (zs : List Rw) : List Int := zs.map fun z => z.2.2
/-- the least start, or the end where there is none -/
structure Lo (l : Int) (zs : List Rw) (m : Int) : Prop where
  eq : lsI ((l + endP 0 zs) :: sts zs) = some m
  le : ∀ z ∈ zs, m ≤ z.2.2
  mem : zs ≠ [] → ∃ z ∈ zs, z.2.2 = m
  m0 : 0 ≤ m
end Pg

/-! a law's own times at which the hands of the growing tree know -/
namespace Pg
open PySem L2 SI Mt
variable {c : Cl} {M : Mc}
section
variable {n : Int} {zs : List Rw} {s : S} {sq : D} {rr : Option (Nat × List D)}
end
end Pg

/-! letters_plan -/
namespace Pg
open PySem L2 SI Mt
variable {c : Cl} {M : Mc}
noncomputable abbrev Lw4 := Int × Int × Int × Int
noncomputable def lwT (z : Lw4) : D := .tup [.int z.1, .int z.2.1, .int z.2.2.1, .int z.2.2.2]
end Pg

/-! faults of letters plans: form, numbers, telling -/
namespace Pg
open PySem L2 SI Mt
variable {c : Cl} {M : Mc}
noncomputable def r4 (zs : List Lw4) (i : Nat) : Lw4 := zs.getD i (0, 0, 0, 0)
theorem r4_eq {zs : List Lw4} {i : Nat} (hi : i < zs.length) : r4 zs i = zs[i] := by
  unfold r4
  rw [List.getD_eq_getElem?_getD, List.getElem?_eq_getElem hi]
  rfl
theorem enu_r4 (zs : List Lw4) : enumI 0 (zs.map lwT) = (List.range zs.length).map fun (i : Nat) => D.tup [.int i, lwT (r4 zs i)] := by
  apply List.ext_getElem?
  intro i
  rw [enum_get, List.getElem?_map, List.getElem?_map]
  by_cases hi : i < zs.length
  · rw [List.getElem?_eq_getElem hi, List.getElem?_range hi]
    simp only [Option.map_some, Nat.zero_add]
    rw [r4_eq hi]
  · rw [List.getElem?_eq_none (by omega), List.getElem?_eq_none (by simp; omega)]
    rfl
noncomputable def pForm4 (zs : List Lw4) (i : Nat) : Bool := !(decide (0 ≤ (r4 zs i).2.2.2) && decide ((r4 zs i).2.2.2 ≤ 1000000000000000))
noncomputable def pLet (many : Int) (zs : List Lw4) (i : Nat) : Bool := !(decide (0 ≤ (r4 zs i).1) && decide ((r4 zs i).1 < many))
noncomputable def pHnd (n : Int) (zs : List Lw4) (i : Nat) : Bool := !(decide (0 ≤ (r4 zs i).2.1) && decide ((r4 zs i).2.1 < n)) || (!(decide (0 ≤ (r4 zs i).2.2.1) && decide ((r4 zs i).2.2.1 < n)) || decide ((r4 zs i).2.1 = (r4 zs i).2.2.1))
noncomputable def numF (n many : Int) (zs : List Lw4) : Option (String × Int) := match fst1 (pLet many zs) zs.length with
  | some i => some ("letter", i)
  | none => (fst1 (pHnd n zs) zs.length).map fun (i : Nat) => ("hand", (i : Int))
theorem number_q {n many : Int} {zs : List Lw4} {s : S} {sq : D} {rr : Option (Nat × List D)} (hq : Sq s sq (zs.map lwT) rr) : G_number_fault c [.int n, .int many, sq] s = .ok (fltD (numF n many zs)) s := by
  apply eq_ok
  unfold G_number_fault
  simp_arith [hq.enu, pfx_refl, pfx_app]
  rw [enu_r4]
  refine ws_trk (xs := List.range zs.length) (f := fun i : Nat => D.tup [.int i, lwT (r4 zs i)]) (fun i L s' => ∃ y3 y4, L = [some (.int n), some (.int many), some sq, y3, y4, none, none, none, none] ∧ s = s' ∧ ∀ j, j < i → pLet many zs j = false) ⟨_, _, rfl, rfl, fun j h => by omega⟩ (fun i L s' h => by obtain ⟨_, _, _, rfl, _⟩ := h; exact hq.ck _ (pfx_refl _)) ?_ ?_
  · rintro i hi L s' ⟨y3, y4, rfl, rfl, hb⟩
    have hi' : i < zs.length := by simpa using hi
    rw [List.getElem_range]
    have nxt : pLet many zs i = false → ∀ j, j < i + 1 → pLet many zs j = false := nx_lt hb
    have ret : pLet many zs i = true → fltD (numF n many zs) = .tup [.str "letter", .int i] := fun hp => by
      unfold numF
      rw [fst1_some hp hb hi']
      rfl
    have pdef : pLet many zs i = !(decide (0 ≤ (r4 zs i).1) && decide ((r4 zs i).1 < many)) := rfl
    have i0 : ∀ s, dIx s (lwT (r4 zs i)) (.int 0) = some (.int (r4 zs i).1) := fun s => rfl
    generalize (r4 zs i).1 = a at *
    simp_arith [i0]
    refine wb_dec (fun h1 => ?_) (fun h1 => ?_)
    · simp_arith
      refine wb_dec (fun h2 => ?_) (fun h2 => ?_)
      · simp_arith
        exact ⟨_, _, rfl, nxt (by rw [pdef]; simp [h1, h2])⟩
      · simp_arith
        exact (ret (by rw [pdef]; simp [h2])).symm
    · simp_arith
      exact (ret (by rw [pdef]; simp [h1])).symm
  · rintro L s' ⟨y3, y4, rfl, rfl, hb⟩
    rw [List.length_range] at hb
    have hN : fst1 (pLet many zs) zs.length = none := fst1_none.mpr hb
    simp_arith [hq.enu, pfx_refl, pfx_app]
    rw [enu_r4]
    refine ws_trk (xs := List.range zs.length) (f := fun i : Nat => D.tup [.int i, lwT (r4 zs i)]) (fun i L s' => ∃ y3 y4 y5 y6 y7 y8, L = [some (.int n), some (.int many), some sq, y3, y4, y5, y6, y7, y8] ∧ s = s' ∧ ∀ j, j < i → pHnd n zs j = false) ⟨_, _, _, _, _, _, rfl, rfl, fun j h => by omega⟩ (fun i L s' h => by obtain ⟨_, _, _, _, _, _, _, rfl, _⟩ := h; exact hq.ck _ (pfx_refl _)) ?_ ?_
    · rintro i hi L s' ⟨y3, y4, y5, y6, y7, y8, rfl, rfl, hb⟩
      have hi' : i < zs.length := by simpa using hi
      rw [List.getElem_range]
      have nxt : pHnd n zs i = false → ∀ j, j < i + 1 → pHnd n zs j = false := nx_lt hb
      have ret : pHnd n zs i = true → fltD (numF n many zs) = .tup [.str "hand", .int i] := fun hp => by
        unfold numF
        rw [hN]
        dsimp only
        rw [fst1_some hp hb hi']
        rfl
      have pdef : pHnd n zs i = (!(decide (0 ≤ (r4 zs i).2.1) && decide ((r4 zs i).2.1 < n)) || (!(decide (0 ≤ (r4 zs i).2.2.1) && decide ((r4 zs i).2.2.1 < n)) || decide ((r4 zs i).2.1 = (r4 zs i).2.2.1))) := rfl
      generalize r4 zs i = z at pdef ⊢
      obtain ⟨a, b, e, t⟩ := z
      unfold lwT
      dsimp only at pdef ⊢
      simp_arith
      refine wb_dec (fun h1 => ?_) (fun h1 => ?_)
      · simp_arith
        refine wb_dec (fun h2 => ?_) (fun h2 => ?_)
        · simp_arith
          refine wb_dec (fun h3 => ?_) (fun h3 => ?_)
          · simp_arith
            refine wb_dec (fun h4 => ?_) (fun h4 => ?_)
            · simp_arith
              refine wb_dec (fun h5 => ?_) (fun h5 => ?_)
              · simp_arith
                exact (ret (by rw [pdef]; simp [h5])).symm
              · simp_arith
                exact ⟨_, _, _, _, _, _, rfl, nxt (by rw [pdef]; simp [h1, h2, h3, h4, h5])⟩
            · simp_arith
              exact (ret (by rw [pdef]; simp [h4])).symm
          · simp_arith
            exact (ret (by rw [pdef]; simp [h3])).symm
        · simp_arith
          exact (ret (by rw [pdef]; simp [h2])).symm
      · simp_arith
        exact (ret (by rw [pdef]; simp [h1])).symm
    · rintro L s' ⟨y3, y4, y5, y6, y7, y8, rfl, rfl, hb⟩
      rw [List.length_range] at hb
      simp_arith
      unfold numF
      rw [hN, fst1_none.mpr hb]
      rfl
end Pg

/-! faults of letters plans: telling -/
namespace Pg
open PySem L2 SI Mt
variable {c : Cl} {M : Mc}
/-- keys: the sources, the rows -/
noncomputable def srcK (ss : List Int) (i : Nat) : List (List Int) := (List.range i).map fun (j : Nat) => [(j : Int), ss.getD j 0]
noncomputable def rowK (zs : List Lw4) : List (List Int) := zs.map fun z => [z.1, z.2.2.1]
section
variable {s : S} {d : D} {ks : List (List Int)} {vs : List D}
end
/-- when each hand knows each letter -/
noncomputable def ktV (l : Int) (many : Nat) (zs : List Lw4) : List Int := (List.range many).map (fun _ => (0 : Int)) ++ zs.map fun z => z.2.2.2 + l
noncomputable def ktK (ss : List Int) (zs : List Lw4) : List (List Int) := srcK ss ss.length ++ rowK zs
noncomputable def Kn4 (l : Int) (ss : List Int) (zs : List Lw4) (a b : Int) : Int := (lkL (ktK ss zs) (ktV l ss.length zs) [a, b]).getD 0
theorem enu_src (ss : List Int) : enumI 0 (ss.map D.int) = (List.range ss.length).map fun (i : Nat) => D.tup [.int i, .int (ss.getD i 0)] := by
  apply List.ext_getElem?
  intro i
  rw [enum_get, List.getElem?_map, List.getElem?_map]
  by_cases hi : i < ss.length
  · rw [List.getElem?_eq_getElem hi, List.getElem?_range hi]
    simp only [Option.map_some, Nat.zero_add]
    rw [List.getD_eq_getElem?_getD, List.getElem?_eq_getElem hi]
    rfl
  · rw [List.getElem?_eq_none (by omega), List.getElem?_eq_none (by simp; omega)]
    rfl
noncomputable def pAg4 (ss : List Int) (zs : List Lw4) (i : Nat) : Bool := decide ([(r4 zs i).1, (r4 zs i).2.2.1] ∈ srcK ss ss.length ++ rowK (zs.take i))
noncomputable def pNob (ss : List Int) (zs : List Lw4) (n i : Nat) : Bool := decide ([((i / n : Nat) : Int), ((i % n : Nat) : Int)] ∉ ktK ss zs)
noncomputable def pEar4 (l : Int) (ss : List Int) (zs : List Lw4) (i : Nat) : Bool := decide ((r4 zs i).2.2.2 < Kn4 l ss zs (r4 zs i).1 (r4 zs i).2.1)
noncomputable def telF (l : Int) (n : Nat) (ss : List Int) (zs : List Lw4) : Option (String × D) := match fst1 (pAg4 ss zs) zs.length with
  | some i => some ("again", .int i)
  | none => match fst1 (pNob ss zs n) (ss.length * n) with
    | some i => some ("nobody", .tup [.int ((i / n : Nat) : Int), .int ((i % n : Nat) : Int)])
    | none => (fst1 (pEar4 l ss zs) zs.length).map fun (i : Nat) => ("early", .int (i : Int))
end Pg

/-! two dicts of lists, by hand -/
namespace Pg
open PySem L2 SI Mt
variable {c : Cl} {M : Mc}
noncomputable def hds (A : List Pr) : List Int := A.map fun q => q.1
structure Dc (σ : S) (nd b : Nat) (A : List Pr) (q : Int → Nat) : Prop where
  ex : ∃ ks vs, σ[nd]? = some (.dk ks vs) ∧ ks.Nodup ∧ ks.length = vs.length ∧ ks.length ≤ A.length ∧ ∀ h, lkD ks vs (.inl h) = if h ∈ hds A then some (.ref (q h)) else none
  at_ : ∀ h ∈ hds A, σ[q h]? = some (.lst ((stOf h A).map D.int))
  inj : ∀ h ∈ hds A, ∀ h' ∈ hds A, q h = q h' → h = h'
  ge : ∀ h ∈ hds A, b ≤ q h
theorem Dc.lt {σ : S} {nd b : Nat} {A : List Pr} {q : Int → Nat} (I : Dc σ nd b A q) {h : Int} (hm : h ∈ hds A) : q h < σ.length := (List.getElem?_eq_some_iff.mp (I.at_ h hm)).1
end Pg

/-! first_busy -/
namespace Pg
open PySem L2 SI Mt
variable {c : Cl} {M : Mc}
theorem st_nil {A : List Pr} {h : Int} (hm : h ∉ hds A) : stOf h A = [] := by
  unfold stOf
  rw [List.map_eq_nil_iff, List.filter_eq_nil_iff]
  intro z hz hd
  exact hm (List.mem_map.mpr ⟨z, hz, of_decide_eq_true hd⟩)
theorem Dc.get {σ : S} {nd b : Nat} {A : List Pr} {q : Int → Nat} (I : Dc σ nd b A q) (h : Int) : ∃ (z : List Key × List D) (x : Option D) (rr : Option (Nat × List D)), dicOf σ (.ref nd) = some z ∧ getOf σ (.ref nd) (.int h) = some x ∧ Sq σ (x.getD (.lst [])) ((stOf h A).map D.int) rr := by
  obtain ⟨ks, vs, e1, e2, e3, e4, e5⟩ := I.ex
  have ed : dicOf σ (.ref nd) = some (ks, vs) := by
    unfold dicOf
    simp only [e1]
  have eg : getOf σ (.ref nd) (.int h) = some (lkD ks vs (.inl h)) := by
    unfold getOf
    rw [ed]
    rfl
  by_cases hm : h ∈ hds A
  · refine ⟨_, _, some (q h, (stOf h A).map D.int), ed, eg, ?_⟩
    rw [e5, if_pos hm]
    exact sq_ref (I.at_ h hm)
  · refine ⟨_, _, none, ed, eg, ?_⟩
    rw [e5, if_neg hm, st_nil hm]
    exact sq_lst σ _
theorem Dc.frame {σ σ' : S} {nd b : Nat} {A : List Pr} {q : Int → Nat} (I : Dc σ nd b A q) (h1 : σ'[nd]? = σ[nd]?) (h2 : ∀ h ∈ hds A, σ'[q h]? = σ[q h]?) : Dc σ' nd b A q := by
  obtain ⟨ks, vs, e⟩ := I.ex
  exact ⟨⟨ks, vs, by rw [h1]; exact e.1, e.2⟩, fun h hm => by rw [h2 h hm]; exact I.at_ h hm, I.inj, I.ge⟩
noncomputable def clB (d b : Int) (xs : List Int) : Bool := xs.any fun x => decide (((b - x).natAbs : Int) < d)
noncomputable def prS (zs : List Lw4) : List Pr := zs.map fun z => (z.2.1, z.2.2.2)
noncomputable def prR (o l : Int) (zs : List Lw4) : List Pr := zs.map fun z => (z.2.2.1, z.2.2.2 + o + l)
/-- a hand is busy twice at a time with the i-th row -/
noncomputable def pBz (o l : Int) (zs : List Lw4) (i : Nat) : Bool := clB o (r4 zs i).2.2.2 (stOf (r4 zs i).2.1 (prR o l (zs.take i))) || clB o ((r4 zs i).2.2.2 + o + l) (stOf (r4 zs i).2.2.1 (prS (zs.take i)))
structure Bz (s σ : S) (A B : List Pr) : Prop where
  ex : ∃ q1 q2, Dc σ s.length (s.length + 2) A q1 ∧ Dc σ (s.length + 1) (s.length + 2) B q2 ∧ ∀ h ∈ hds A, ∀ h' ∈ hds B, q1 h ≠ q2 h'
  pf : ∀ i, i < s.length → σ[i]? = s[i]?
  ln : s.length + 2 ≤ σ.length
theorem Bz.pfx {s σ : S} {A B : List Pr} (I : Bz s σ A B) : Pfx s σ := by
  refine ⟨σ.drop s.length, ?_⟩
  have : σ.take s.length = s := by
    apply List.ext_getElem?
    intro i
    rw [List.getElem?_take]
    split
    · rename_i h
      exact I.pf i h
    · rename_i h
      rw [List.getElem?_eq_none (by omega)]
  rw [← this, List.length_take, Nat.min_eq_left (by have := I.ln; omega)]
  exact (List.take_append_drop ..).symm
theorem Bz.tk {s σ : S} {A B : List Pr} (I : Bz s σ A B) : σ.take s.length = s := by
  obtain ⟨t, e⟩ := I.pfx
  rw [e]
  simp
end Pg

/-! letters_wrong: the first fault of a letters plan -/
namespace Pg
open PySem L2 SI Mt
variable {c : Cl} {M : Mc}
noncomputable def prV (zs : List Lw4) : List Pr := zs.map fun z => (z.2.2.1, z.2.2.2)
noncomputable def runF4 (M : Mc) (zs : List Lw4) : Option (String × D) := match fst1 (pNear M.gap (prS zs)) zs.length with
  | some i => some ("gap", .int (i : Int))
  | none => match fst1 (pNear M.gap (prV zs)) zs.length with
    | some i => some ("close", .int (i : Int))
    | none => (fst1 (pBz M.o M.l zs) zs.length).map fun (i : Nat) => ("busy", .int (i : Int))
noncomputable def letF (M : Mc) (n : Nat) (ss : List Int) (zs : List Lw4) : Option (String × D) := match fst1 (pForm4 zs) zs.length with
  | some i => some ("form", .int (i : Int))
  | none => match numF n ss.length zs with
    | some p => some (p.1, .int p.2)
    | none => match telF M.letter n ss zs with
      | some p => some p
      | none => runF4 M zs
end Pg

/-! a law's own faults of letters plans -/
namespace Pg
open PySem L2 SI Mt
variable {c : Cl} {M : Mc}
--TAKE
--END TAKE
end Pg

/-! a law's own faults of letters plans: telling -/
namespace Pg
open PySem L2 SI Mt
variable {c : Cl} {M : Mc}
noncomputable def pT (p : Int × Int) : D := .tup [.int p.1, .int p.2]
end Pg

/-! a law's own faults of letters plans: the form, gap, close, busy -/
namespace Pg
open PySem L2 SI Mt
variable {c : Cl} {M : Mc}
--TAKE
--END TAKE
noncomputable def hd4 (k : Nat) (z : Lw4) : Int := if k = 0 then z.2.1 else z.2.2.1
end Pg

/-! faults of letters plans among whose rows any other thing may stand -/
namespace Pg
open PySem L2 SI Mt
variable {c : Cl} {M : Mc} {s : S} {sq : D} {rr : Option (Nat × List D)} {xs : List D}
noncomputable def toLw : D → Lw4
  | .tup [.int a, .int b, .int d, .int t] => (a, b, d, t)
  | _ => (0, 0, 0, 0)
noncomputable def lwsO (xs : List D) : List Lw4 := xs.map toLw
theorem lwsO_len (xs : List D) : (lwsO xs).length = xs.length := List.length_map ..
theorem rowG4 {d : D} (h : rowG 4 d = true) : ∃ z : Lw4, d = lwT z ∧ toLw d = z ∧ 0 ≤ z.2.2.2 ∧ z.2.2.2 ≤ 1000000000000000 := by
  cases d <;> try cases h
  rename_i ys
  rw [rowG_tup, Bool.and_eq_true, Bool.and_eq_true, decide_eq_true_eq] at h
  obtain ⟨h1, h2, h3⟩ := h
  obtain ⟨a, b, d, t, rfl⟩ : ∃ a b d t, ys = [a, b, d, t] := by
    match ys, h1 with
    | [a, b, d, t], _ => exact ⟨a, b, d, t, rfl⟩
  simp only [List.all_cons, List.all_nil, Bool.and_true, Bool.and_eq_true] at h2
  obtain ⟨i, rfl⟩ := isI_int h2.1
  obtain ⟨j, rfl⟩ := isI_int h2.2.1
  obtain ⟨l, rfl⟩ := isI_int h2.2.2.1
  obtain ⟨k, rfl⟩ := isI_int h2.2.2.2
  obtain ⟨k', e, k0, k1⟩ := gb_int h3
  have e' : k = k' := by cases e; rfl
  subst e'
  exact ⟨(i, j, l, k), rfl, rfl, k0, k1⟩
theorem odd_none4 (h : fst1 (pOdd 4 xs) xs.length = none) : xs = (lwsO xs).map lwT ∧ fst1 (pForm4 (lwsO xs)) (lwsO xs).length = none := by
  have hn := fst1_none.mp h
  have g : ∀ i (hi : i < xs.length), rowG 4 xs[i] = true := fun i hi => by
    have := hn i hi
    unfold pOdd at this
    rw [List.getD_eq_getElem?_getD, List.getElem?_eq_getElem hi] at this
    simpa using this
  constructor
  · apply List.ext_getElem
    · rw [List.length_map, lwsO_len]
    · intro i h1 h2
      obtain ⟨z, e, e2, _⟩ := rowG4 (g i h1)
      rw [List.getElem_map]
      unfold lwsO
      rw [List.getElem_map, e2, e]
  · rw [fst1_none]
    intro i hi
    rw [lwsO_len] at hi
    obtain ⟨z, e, e2, h1, h2⟩ := rowG4 (g i hi)
    have er : r4 (lwsO xs) i = z := by
      rw [r4_eq (by rw [lwsO_len]; exact hi)]
      unfold lwsO
      rw [List.getElem_map, e2]
    unfold pForm4
    rw [er]
    simp [h1, h2]
end Pg

/-! writing sheets -/
namespace Mt
open PySem L2
/-- a word and numbers -/
noncomputable def rowL (w ns : List Nat) : List Nat := TL.joinL [32] (w :: ns.map TL.numL)
noncomputable def machL : List Nat := [109, 97, 99, 104, 105, 110, 101]
noncomputable def handL : List Nat := [104, 97, 110, 100, 115]
noncomputable def srcL : List Nat := [115, 111, 117, 114, 99, 101]
noncomputable def tellL : List Nat := [116, 101, 108, 108]
noncomputable def sendL : List Nat := [115, 101, 110, 100]
noncomputable def wdL (src : Option (List Nat)) : List Nat := if src.isSome = true then sendL else tellL
noncomputable def linesL (m : List Nat) (n : Nat) (src : Option (List Nat)) (rows : List (List Nat)) : List (List Nat) :=
  rowL machL m :: rowL handL [n] :: ((src.getD []).map (fun h => rowL srcL [h]) ++ rows.map (rowL (wdL src)))
noncomputable def sheetL (ls : List (List Nat)) : List Nat := TL.joinL [10] ls ++ [10]
theorem tell_st : ("tell" : Str) = st tellL := by decide +kernel
theorem send_st : ("send" : Str) = st sendL := by decide +kernel
theorem machsp_st : ("machine " : Str) = st (machL ++ [32]) := by decide +kernel
theorem handsp_st : ("hands " : Str) = st (handL ++ [32]) := by decide +kernel
theorem srcesp_st : ("source " : Str) = st (srcL ++ [32]) := by decide +kernel
theorem tellsp_st : ("tell " : Str) = st (tellL ++ [32]) := by decide +kernel
theorem sendsp_st : ("send " : Str) = st (sendL ++ [32]) := by decide +kernel
theorem rowL_eq (w : List Nat) {ns : List Nat} (h : ns ≠ []) : rowL w ns = w ++ [32] ++ TL.joinL [32] (ns.map TL.numL) := by
  unfold rowL
  rw [joinL_cons (by simpa using h), List.append_assoc]
theorem numsL_len {ns : List Nat} (h : ∀ n ∈ ns, n ≤ 1000000000000000) : (TL.joinL [32] (ns.map TL.numL)).length ≤ 17 * ns.length := by
  have h1 := joinL_len [32] (ns.map TL.numL)
  have h2 := nums_len h
  rw [List.length_map, List.length_singleton] at h1
  omega
theorem rowL_len {w ns : List Nat} (h : ∀ n ∈ ns, n ≤ 1000000000000000) : (rowL w ns).length ≤ w.length + 1 + 17 * ns.length := by
  unfold rowL
  have h1 := joinL_len [32] (w :: ns.map TL.numL)
  have h2 := nums_len h
  simp only [List.length_cons, List.length_map, List.map_cons, List.sum_cons, List.length_nil] at h1 h2
  omega
theorem rowL_tok {w ns : List Nat} (h : ∀ c ∈ w, c < 1114112) : ∀ c ∈ rowL w ns, c < 1114112 := fun c hc => by
  rcases joinL_mem hc with h1 | ⟨p, hp, h1⟩
  · rw [List.mem_singleton.mp h1]
    decide
  · rcases List.mem_cons.mp hp with rfl | hp
    · exact h c h1
    · obtain ⟨n, _, rfl⟩ := List.mem_map.mp hp
      have := TL.numL_digits n c h1
      omega
end Mt
namespace SI
open PySem L2 Pg Mt
variable {c : Cl} {M : Mc}
noncomputable def rowD (ns : List Nat) : D := .tup (ns.map nI)
theorem rowD_pur (ns : List Nat) : Pur (rowD ns) := pur_tup fun x hx => by
  obtain ⟨n, _, rfl⟩ := List.mem_map.mp hx
  exact pur_int _
/-- rows of w numbers that can be written -/
structure RowsOk (w : Nat) (ws : List (List Nat)) : Prop where
  n : ws.length ≤ 2000
  w : ∀ r ∈ ws, r.length = w
  m : ∀ r ∈ ws, ∀ x ∈ r, x ≤ 1000000000000000
/-! the faults -/
noncomputable def plnX (n : Int) (xs : List D) : Option (String × Int) := match fst1 (pOdd 3 xs) xs.length with
  | some i => some ("form", i)
  | none => (fst1 (pHand n (rwsO xs)) xs.length).map fun (i : Nat) => ("hand", (i : Int))
noncomputable def lplX (n many : Int) (xs : List D) : Option (String × Int) := match fst1 (pOdd 4 xs) xs.length with
  | some i => some ("form", i)
  | none => numF n many (lwsO xs)
section
variable {xs : List D} {s : S} {sq : D} {rr : Option (Nat × List D)}
theorem plan_any {n : Int} (hl : xs.length ≤ 400) (hq : Sq s sq xs rr) (hr : ∀ x ∈ xs, Rowy c x) : G_plan_fault_texts c [.int n, sq] s = .ok (fltD (plnX n xs)) s := by
  have is1 : ∀ (w : String) (d : D) s, dIs true s (.tup [.str w, d]) .non = some (.bl true) := fun _ _ _ => rfl
  have ef := form_rows_any (c := c) (w := 3) (most := 400) (by omega) hl hq hr
  apply eq_ok
  unfold G_plan_fault_texts
  cases e1 : fst1 (pOdd 3 xs) xs.length with
  | some i =>
    have ex : plnX n xs = some ("form", (i : Int)) := by
      unfold plnX
      rw [e1]
    rw [e1] at ef
    have ef : G_form_fault_rows c [sq, .int 3, .int 400] s = .ok (.tup [.str "form", .int i]) s := ef
    rw [ex]
    simp_arith [ef, is1]
    rfl
  | none =>
    obtain ⟨e, _⟩ := odd_none e1
    have ex : plnX n xs = (fst1 (pHand n (rwsO xs)) xs.length).map fun (i : Nat) => ("hand", (i : Int)) := by
      unfold plnX
      rw [e1]
    rw [e1] at ef
    have ef : G_form_fault_rows c [sq, .int 3, .int 400] s = .ok .non s := ef
    have hlz := rwsO_len xs
    rw [ex, ← hlz]
    rw [e] at hq
    clear ex e1 e hr hlz
    generalize rwsO xs = zs at *
    simp_arith [ef, isn_nn, hq.enu (pfx_refl s)]
    rw [enu_rows]
    refine ws_trk (xs := List.range zs.length) (f := fun i : Nat => D.tup [.int i, rwT (rAt zs i)]) (fun i L s' => ∃ y3 y4 y5 y6, L = [some (.int n), some sq, some .non, y3, y4, y5, y6] ∧ s = s' ∧ ∀ j, j < i → pHand n zs j = false) ⟨_, _, _, _, rfl, rfl, fun j h => by omega⟩ (fun i L s' h => by obtain ⟨_, _, _, _, _, rfl, _⟩ := h; exact hq.ck _ (pfx_refl _)) ?_ ?_
    · rintro i hi L s' ⟨y3, y4, y5, y6, rfl, rfl, hb⟩
      have hi' : i < zs.length := by simpa using hi
      rw [List.getElem_range]
      have nxt : pHand n zs i = false → ∀ j, j < i + 1 → pHand n zs j = false := nx_lt hb
      have ret : pHand n zs i = true → fltD ((fst1 (pHand n zs) zs.length).map fun (i : Nat) => ("hand", (i : Int))) = .tup [.str "hand", .int i] := fun hp => by
        rw [fst1_some hp hb hi']
        rfl
      have pdef : pHand n zs i = (!(decide (0 ≤ (rAt zs i).1) && decide ((rAt zs i).1 < n)) || (!(decide (0 < (rAt zs i).2.1) && decide ((rAt zs i).2.1 < n)) || decide ((rAt zs i).1 = (rAt zs i).2.1))) := rfl
      generalize rAt zs i = z at pdef ⊢
      obtain ⟨a, b, t⟩ := z
      unfold rwT
      dsimp only at pdef ⊢
      by_cases h1 : 0 ≤ a
      · by_cases h2 : a < n
        · by_cases h3 : 0 < b
          · by_cases h4 : b < n
            · by_cases h5 : a = b
              · simp_arith [h1, h2, h3, h4, eq_true h5]
                exact (ret (by rw [pdef]; simp [h5])).symm
              · simp_arith [h1, h2, h3, h4, h5]
                exact ⟨_, _, _, _, rfl, nxt (by rw [pdef]; simp [h1, h2, h3, h4, h5])⟩
            · simp_arith [h1, h2, h3, h4]
              exact (ret (by rw [pdef]; simp [h4])).symm
          · simp_arith [h1, h2, h3]
            exact (ret (by rw [pdef]; simp [h3])).symm
        · simp_arith [h1, h2]
          exact (ret (by rw [pdef]; simp [h2])).symm
      · simp_arith [h1]
        exact (ret (by rw [pdef]; simp [h1])).symm
    · rintro L s' ⟨y3, y4, y5, y6, rfl, rfl, hb⟩
      rw [List.length_range] at hb
      simp_arith
      rw [fst1_none.mpr hb]
      rfl
theorem lplan_any {n many : Int} (hl : xs.length ≤ 2000) (hq : Sq s sq xs rr) (hr : ∀ x ∈ xs, Rowy c x) : G_letters_plan_fault c [.int n, .int many, sq] s = .ok (fltD (lplX n many xs)) s := by
  have is1 : ∀ (w : String) (d : D) s, dIs false s (.tup [.str w, d]) .non = some (.bl false) := fun _ _ _ => rfl
  have ef := form_rows_any (c := c) (w := 4) (most := 2000) (by omega) hl hq hr
  apply eq_ok
  unfold G_letters_plan_fault
  cases e1 : fst1 (pOdd 4 xs) xs.length with
  | some i =>
    have ex : lplX n many xs = some ("form", (i : Int)) := by
      unfold lplX
      rw [e1]
    rw [e1] at ef
    have ef : G_form_fault_rows c [sq, .int 4, .int 2000] s = .ok (.tup [.str "form", .int i]) s := ef
    rw [ex]
    simp_arith [ef, is1]
    rfl
  | none =>
    obtain ⟨e, _⟩ := odd_none4 e1
    have ex : lplX n many xs = numF n many (lwsO xs) := by
      unfold lplX
      rw [e1]
    rw [e1] at ef
    have ef : G_form_fault_rows c [sq, .int 4, .int 2000] s = .ok .non s := ef
    rw [ex]
    rw [e] at hq
    have nq := number_q (c := c) (n := n) (many := many) hq
    simp_arith [ef, is_nn, nq]
end
/-- rows without a fault are rows of numbers -/
theorem rws_nat : ∀ {zs : List Rw} {b : Nat}, (∀ z ∈ zs, (0 ≤ z.1 ∧ z.1 ≤ b) ∧ (0 ≤ z.2.1 ∧ z.2.1 ≤ b) ∧ 0 ≤ z.2.2 ∧ z.2.2 ≤ b) → ∃ ws : List (List Nat), zs.map rwT = ws.map rowD ∧ (∀ r ∈ ws, r.length = 3) ∧ ∀ r ∈ ws, ∀ x ∈ r, x ≤ b
  | [], b, h => ⟨[], rfl, (fun r hr => by cases hr), fun r hr => by cases hr⟩
  | z :: zs, b, h => by
    obtain ⟨ws, e, h1, h2⟩ := rws_nat fun y hy => h y (List.mem_cons_of_mem _ hy)
    obtain ⟨⟨a0, a1⟩, ⟨b0, b1⟩, c0, c1⟩ := h z (List.mem_cons_self ..)
    obtain ⟨x, y, t⟩ := z
    obtain ⟨x, rfl⟩ := Int.eq_ofNat_of_zero_le a0
    obtain ⟨y, rfl⟩ := Int.eq_ofNat_of_zero_le b0
    obtain ⟨t, rfl⟩ := Int.eq_ofNat_of_zero_le c0
    refine ⟨[x, y, t] :: ws, by rw [List.map_cons, List.map_cons, e]; rfl, fun r hr => ?_, fun r hr u hu => ?_⟩
    · rcases List.mem_cons.mp hr with rfl | hr
      · rfl
      · exact h1 r hr
    · rcases List.mem_cons.mp hr with rfl | hr
      · simp only [List.mem_cons, List.not_mem_nil, or_false] at hu
        dsimp only at a1 b1 c1
        rcases hu with rfl | rfl | rfl <;> omega
      · exact h2 r hr u hu
theorem lws_nat : ∀ {zs : List Lw4} {b : Nat}, (∀ z ∈ zs, (0 ≤ z.1 ∧ z.1 ≤ b) ∧ (0 ≤ z.2.1 ∧ z.2.1 ≤ b) ∧ (0 ≤ z.2.2.1 ∧ z.2.2.1 ≤ b) ∧ 0 ≤ z.2.2.2 ∧ z.2.2.2 ≤ b) → ∃ ws : List (List Nat), zs.map lwT = ws.map rowD ∧ (∀ r ∈ ws, r.length = 4) ∧ ∀ r ∈ ws, ∀ x ∈ r, x ≤ b
  | [], b, h => ⟨[], rfl, (fun r hr => by cases hr), fun r hr => by cases hr⟩
  | z :: zs, b, h => by
    obtain ⟨ws, e, h1, h2⟩ := lws_nat fun y hy => h y (List.mem_cons_of_mem _ hy)
    obtain ⟨⟨a0, a1⟩, ⟨b0, b1⟩, ⟨d0, d1⟩, c0, c1⟩ := h z (List.mem_cons_self ..)
    obtain ⟨x, y, w, t⟩ := z
    obtain ⟨x, rfl⟩ := Int.eq_ofNat_of_zero_le a0
    obtain ⟨y, rfl⟩ := Int.eq_ofNat_of_zero_le b0
    obtain ⟨w, rfl⟩ := Int.eq_ofNat_of_zero_le d0
    obtain ⟨t, rfl⟩ := Int.eq_ofNat_of_zero_le c0
    refine ⟨[x, y, w, t] :: ws, by rw [List.map_cons, List.map_cons, e]; rfl, fun r hr => ?_, fun r hr u hu => ?_⟩
    · rcases List.mem_cons.mp hr with rfl | hr
      · rfl
      · exact h1 r hr
    · rcases List.mem_cons.mp hr with rfl | hr
      · simp only [List.mem_cons, List.not_mem_nil, or_false] at hu
        dsimp only at a1 b1 c1 d1
        rcases hu with rfl | rfl | rfl | rfl <;> omega
      · exact h2 r hr u hu
theorem pln_none {n : Nat} (hn : n ≤ 1000) {xs : List D} (hl : xs.length ≤ 2000) (h : plnX n xs = none) : ∃ ws : List (List Nat), xs = ws.map rowD ∧ RowsOk 3 ws := by
  unfold plnX at h
  split at h
  · cases h
  · rename_i e1
    obtain ⟨e, e2⟩ := odd_none e1
    have h2 := Option.map_eq_none_iff.mp h
    rw [← rwsO_len xs] at h2
    have hlz := rwsO_len xs
    rw [fst1_none] at h2 e2
    obtain ⟨ws, h3, h4, h5⟩ := rws_nat (zs := rwsO xs) (b := 1000000000000000) fun z hz => by
      obtain ⟨j, hj, rfl⟩ := List.mem_iff_getElem.mp hz
      have a := h2 j hj
      have b := e2 j hj
      unfold pHand at a
      unfold pForm at b
      rw [rAt_eq hj] at a b
      simp at a b
      omega
    refine ⟨ws, e.trans h3, ?_, h4, h5⟩
    have := congrArg List.length h3
    rw [List.length_map, List.length_map] at this
    omega
theorem lpl_none {n many : Nat} (hn : n ≤ 1000) (hm : many ≤ 1000) {xs : List D} (hl : xs.length ≤ 2000) (h : lplX n many xs = none) : ∃ ws : List (List Nat), xs = ws.map rowD ∧ RowsOk 4 ws := by
  unfold lplX at h
  split at h
  · cases h
  · rename_i e1
    obtain ⟨e, e2⟩ := odd_none4 e1
    unfold numF at h
    split at h
    · cases h
    · rename_i h1
      have h2 := Option.map_eq_none_iff.mp h
      have hlz := lwsO_len xs
      rw [fst1_none] at h1 h2 e2
      obtain ⟨ws, h3, h4, h5⟩ := lws_nat (zs := lwsO xs) (b := 1000000000000000) fun z hz => by
        obtain ⟨j, hj, rfl⟩ := List.mem_iff_getElem.mp hz
        have a := h2 j hj
        have b := e2 j hj
        have d := h1 j hj
        unfold pHnd at a
        unfold pForm4 at b
        unfold pLet at d
        rw [r4_eq hj] at a b d
        simp at a b d
        omega
      refine ⟨ws, e.trans h3, ?_, h4, h5⟩
      have := congrArg List.length h3
      rw [List.length_map, List.length_map] at this
      omega
/-! the text -/
section
variable {L : Lc} {s : S} {E : Cn (Addr → List Str → List D → S → Prop)}
theorem w_star (f : F D) (fa : F (List D)) {Q : Cn (List D → S → Prop)} : @WR _ (fStar f fa L s) Q E = @WR _ (f L s) ⟨fun d s1 => @WO _ (lstOf s1 d) ⟨fun xs => @WR _ (fa L s1) ⟨fun ys s2 => Q (xs ++ ys) s2⟩ E⟩⟩ E := by
  refine (w_bind ..).trans (congrArg (fun z => @WR _ (f L s) ⟨z⟩ _) ?_)
  funext d s1
  cases lstOf s1 d with
  | none => rfl
  | some xs =>
    show @WR _ ((fa L s1).bind _) Q E = _
    exact w_bind ..
end
theorem wo_js {a b : List Nat} (h : a.length + b.length ≤ 1000000) {Q : Cn (Str → Prop)} (q : Q (st (a ++ b))) : @WO _ (jsD (st a) (.str (st b))) Q := by
  rw [show jsD (st a) (.str (st b)) = some (st (a ++ b)) from js_dS h]
  exact q
theorem num_len {n : Nat} (h : n ≤ 1000000000000000) : (TL.numL n).length ≤ 16 := TL.numL_len (by decide) (by omega)
noncomputable def mcN (M : Mc) : List Nat := [M.o.toNat, M.l.toNat, M.g.toNat]
theorem rowL3 (w : List Nat) (x y z : Nat) : rowL w [x, y, z] = ((((w ++ [32]) ++ TL.numL x) ++ [32] ++ TL.numL y) ++ [32]) ++ TL.numL z := by
  unfold rowL
  show w ++ ([32] ++ (TL.numL x ++ ([32] ++ (TL.numL y ++ ([32] ++ TL.numL z))))) = _
  simp
theorem rowL1 (w : List Nat) (x : Nat) : rowL w [x] = (w ++ [32]) ++ TL.numL x := by
  unfold rowL
  show w ++ ([32] ++ TL.numL x) = _
  simp
theorem lines_sum {k : Nat} : ∀ {ls : List (List Nat)}, (∀ l ∈ ls, l.length ≤ k) → (ls.map List.length).sum ≤ ls.length * k := fun {ls} h => by
  have := sum_le k (xs := ls.map List.length) fun x hx => by
    obtain ⟨l, hl, rfl⟩ := List.mem_map.mp hx
    exact h l hl
  rwa [List.length_map] at this
theorem sheet_core (hM : M.Ok) {n w : Nat} (hn : n ≤ 1000) {ws : List (List Nat)} (hw : RowsOk w ws) (hw4 : w ≤ 4) {src : Option (List Nat)} (hs1 : ∀ ss, src = some ss → ss.length ≤ 40 ∧ ∀ x ∈ ss, x ≤ 1000) {s : S} (hs : ∀ o ∈ s, PurO o) {sq sd : D} {rr : Option (Nat × List D)} (hq : Sq s sq (ws.map rowD) rr)
    (h : (src = none ∧ sd = .non ∧ (∀ s, G_checked_count c [.int n, .int 1, .int 100] s = .ok (.int n) s) ∧ G_plan_fault_texts c [.int n, sq] s = .ok .non s) ∨ ∃ ss, src = some ss ∧ dIs false s sd .non = some (.bl false) ∧ G_checked_sources c [.int n, sd] s = .ok (.lst (ss.map nI)) s ∧ G_letters_plan_fault c [.int n, .int ss.length, sq] s = .ok .non s) :
    G_write_sheet c [M.d c, .int n, sq, sd] s = .ok (dS (sheetL (linesL (mcN M) n src ws))) s := by
  have hM' := hM
  obtain ⟨o0, o1, l0, l1, g0, g1, _⟩ := hM'
  have fo : fmtD (.int M.o) = some (st (TL.numL M.o.toNat)) := by
    rw [← fmt_st (n := M.o.toNat) (by omega), Int.toNat_of_nonneg o0]
  have fl : fmtD (.int M.l) = some (st (TL.numL M.l.toNat)) := by
    rw [← fmt_st (n := M.l.toNat) (by omega), Int.toNat_of_nonneg l0]
  have fg : fmtD (.int M.g) = some (st (TL.numL M.g.toNat)) := by
    rw [← fmt_st (n := M.g.toNat) (by omega), Int.toNat_of_nonneg (by omega)]
  have fn : fmtD (.int n) = some (st (TL.numL n)) := fmt_st (by omega)
  have lo := num_len (n := M.o.toNat) (by omega)
  have ll := num_len (n := M.l.toNat) (by omega)
  have lg := num_len (n := M.g.toNat) (by omega)
  have lnn := num_len (n := n) (by omega)
  have eo := fld_o (c := c) (M := M)
  have el := fld_l (c := c) (M := M)
  have eg : ∀ s, fldOf s [c.Machine] "g" (M.d c) = some (.int M.g) := fun s => fld_any rfl
  have hsL : ∀ src' : List Nat, src.getD [] = src' → src'.length ≤ 40 ∧ ∀ x ∈ src', x ≤ 1000 := fun src' e => by
    cases src with
    | none =>
      subst e
      exact ⟨by decide, fun x hx => by cases hx⟩
    | some ss =>
      subst e
      exact hs1 ss rfl
  have hLs := hsL _ rfl
  have hLl : ∀ l ∈ linesL (mcN M) n src ws, l.length ≤ 100 := fun l hl => by
    have hmc : ∀ x ∈ mcN M, x ≤ 1000000000000000 := fun x hx => by
      unfold mcN at hx
      simp only [List.mem_cons, List.not_mem_nil, or_false] at hx
      rcases hx with rfl | rfl | rfl <;> omega
    unfold linesL at hl
    rcases List.mem_cons.mp hl with rfl | hl
    · have := rowL_len (w := machL) hmc
      simp [machL, mcN] at this ⊢
      omega
    rcases List.mem_cons.mp hl with rfl | hl
    · have := rowL_len (w := handL) (ns := [n]) fun x hx => by rw [List.mem_singleton.mp hx]; omega
      simp [handL] at this ⊢
      omega
    rcases List.mem_append.mp hl with hl | hl
    · obtain ⟨x, hx, rfl⟩ := List.mem_map.mp hl
      have := rowL_len (w := srcL) (ns := [x]) fun y hy => by rw [List.mem_singleton.mp hy]; have := hLs.2 x hx; omega
      simp [srcL] at this ⊢
      omega
    · obtain ⟨r, hr, rfl⟩ := List.mem_map.mp hl
      have := rowL_len (w := wdL src) (ns := r) (hw.m r hr)
      have e2 := hw.w r hr
      have e3 : (wdL src).length ≤ 4 := by
        unfold wdL
        split <;> decide
      omega
  have hLn : (linesL (mcN M) n src ws).length ≤ 2042 := by
    have := hw.n
    simp [linesL]
    omega
  have hsum := lines_sum hLl
  have hjl := joinL_len [10] (linesL (mcN M) n src ws)
  have hj := fun s => join_dS (s := s) (a := [10]) (ps := linesL (mcN M) n src ws) (by rw [List.length_singleton]; omega)
  apply eq_ok
  unfold G_write_sheet
  rw [machsp_st, handsp_st, srcesp_st, sp_st, nl_st, empty_st, tell_st, send_st, w_pure]
  simp_all_arith
  refine ws_cut (fun L s' => L = [some (M.d c), some (.int n), some sq, some sd, some (.lst ((src.getD []).map nI)), some (.str (st (wdL src))), some .non, none, none, none, none] ∧ s' = s) ?_ ?_
  · rcases h with ⟨rfl, rfl, h1, h2⟩ | ⟨ss, rfl, h1, h2, h3⟩
    · simp_arith [is_nn, h1, h2]
      rfl
    · have ln : ∀ s, bLen s [.lst (ss.map nI)] = some (.int ss.length) := fun s => by
        show some (D.int _) = _
        rw [List.length_map]
      simp_arith [h1, h2, h3, ln]
      rfl
  rintro L s' ⟨rfl, rfl⟩
  have p := pfx_refl s'
  simp_arith [isn_nn, eo, el, eg, ↓w_jsc, ↓w_jsn, ↓w_fmt, fo, fl, fg, fn]
  refine wo_js (a := []) (by simp [machL]) ?_
  simp_arith [eo, el, eg, ↓w_jsc, ↓w_jsn, ↓w_fmt, fo, fl, fg, fn]
  refine wo_js (by simp [machL]; omega) ?_
  simp_arith [eo, el, eg, ↓w_jsc, ↓w_jsn, ↓w_fmt, fo, fl, fg, fn]
  refine wo_js (by simp [machL]; omega) ?_
  simp_arith [eo, el, eg, ↓w_jsc, ↓w_jsn, ↓w_fmt, fo, fl, fg, fn]
  refine wo_js (by simp [machL]; omega) ?_
  simp_arith [eo, el, eg, ↓w_jsc, ↓w_jsn, ↓w_fmt, fo, fl, fg, fn]
  refine wo_js (by simp [machL]; omega) ?_
  simp_arith [eo, el, eg, ↓w_jsc, ↓w_jsn, ↓w_fmt, fo, fl, fg, fn]
  refine wo_js (by simp [machL]; omega) ?_
  simp_arith [eo, el, eg, ↓w_jsc, ↓w_jsn, ↓w_fmt, fo, fl, fg, fn]
  refine wo_js (a := []) (by simp [handL]) ?_
  simp_arith [eo, el, eg, ↓w_jsc, ↓w_jsn, ↓w_fmt, fo, fl, fg, fn]
  refine wo_js (by simp [handL]; omega) ?_
  have em : [] ++ (machL ++ [32]) ++ TL.numL M.o.toNat ++ [32] ++ TL.numL M.l.toNat ++ [32] ++ TL.numL M.g.toNat = rowL machL (mcN M) := by
    unfold mcN
    rw [rowL3]
    simp
  have eh : [] ++ (handL ++ [32]) ++ TL.numL n = rowL handL [n] := by
    rw [rowL1]
    simp
  rw [List.nil_append] at em eh
  have eL : linesL (mcN M) n src ws = [rowL machL (mcN M), rowL handL [n]] ++ ((src.getD []).map fun h => rowL srcL [h]) ++ ws.map (rowL (wdL src)) := by
    unfold linesL
    simp
  obtain ⟨pre, epre⟩ : ∃ pre, pre = [rowL machL (mcN M), rowL handL [n]] := ⟨_, rfl⟩
  have epd : [D.str (st (rowL machL (mcN M))), D.str (st (rowL handL [n]))] = pre.map dS := by rw [epre]; rfl
  have hpl : pre.length = 2 := by rw [epre]; rfl
  rw [← epre] at eL
  simp_arith [↓w_jsn, em, eh, epd]
  have ap : ∀ (xs : List (List Nat)) (l : List Nat), xs.length < 10000 → appOf s'.length (.str (st l)) (s' ++ [.lst (xs.map dS)]) = some (s' ++ [.lst ((xs ++ [l]).map dS)]) := fun xs l h => by
    rw [List.map_append]
    exact ap_app (r := s') (xs := xs.map dS) (dS l) (by rw [List.length_map]; omega)
  have il : ∀ xs : List D, isLst s'.length (s' ++ [.lst xs]) = true := fun xs => by
    unfold isLst
    rw [get_app]
  refine ⟨by rw [List.length_map, hpl]; decide, ?_⟩
  refine ws_lst (xs := src.getD []) (f := nI) (fun i L s2 => ∃ y8, L = [some (M.d c), some (.int n), some sq, some sd, some (.lst ((src.getD []).map nI)), some (.str (st (wdL src))), some .non, some (.ref s'.length), y8, none, none] ∧ s2 = s' ++ [.lst ((pre ++ ((src.getD []).take i).map fun h => rowL srcL [h]).map dS)]) ?_ ?_ ?_
  · exact ⟨none, rfl, by simp⟩
  · rintro i hi L s2 ⟨y8, rfl, rfl⟩
    have hx := hLs.2 _ (List.getElem_mem hi)
    have tk : (src.getD []).take (i + 1) = (src.getD []).take i ++ [(src.getD [])[i]] := List.take_succ_eq_append_getElem hi
    have fx := fmt_st (n := (src.getD [])[i]) (by omega)
    have lx := num_len (n := (src.getD [])[i]) (by omega)
    have tl : (pre ++ ((src.getD []).take i).map fun h => rowL srcL [h]).length < 10000 := by
      rw [List.length_append, List.length_map, List.length_take]
      omega
    have ap' := fun l => ap _ l tl
    have tE : (pre ++ ((src.getD []).take (i + 1)).map fun h => rowL srcL [h]) = (pre ++ ((src.getD []).take i).map fun h => rowL srcL [h]) ++ [rowL srcL [(src.getD [])[i]]] := by
      rw [tk, List.map_append, List.map_singleton, ← List.append_assoc]
    clear tk
    generalize (src.getD [])[i] = x at *
    generalize (pre ++ ((src.getD []).take i).map fun h => rowL srcL [h]) = X at *
    unfold nI
    simp_arith [↓w_jsc, ↓w_jsn, ↓w_fmt, fx, il]
    refine wo_js (a := []) (by simp [srcL]) ?_
    simp_arith [↓w_jsc, ↓w_jsn, ↓w_fmt, fx, il]
    refine wo_js (by simp [srcL]; omega) ?_
    have ex : srcL ++ [32] ++ TL.numL x = rowL srcL [x] := by rw [rowL1]
    simp_arith [↓w_jsn, ex, ap', il]
    exact ⟨_, rfl, by rw [tE]⟩
  rintro L s2 ⟨y8, rfl, rfl⟩
  rw [List.take_length]
  have hA : (pre ++ (src.getD []).map fun h => rowL srcL [h]).length ≤ 42 := by
    rw [List.length_append, List.length_map]
    omega
  generalize (pre ++ (src.getD []).map fun h => rowL srcL [h]) = A at *
  have q2 : ∀ (xs : List D), Pfx s' (s' ++ [.lst xs]) := fun xs => pfx_app _ _
  simp_arith [hq.src (q2 _)]
  have hwl : (wdL src).length ≤ 4 := by
    unfold wdL
    split <;> decide
  refine ws_trk (xs := ws) (f := rowD) (fun i L s2 => ∃ y8 y9 y10, L = [some (M.d c), some (.int n), some sq, some sd, some (.lst ((src.getD []).map nI)), some (.str (st (wdL src))), some .non, some (.ref s'.length), y8, y9, y10] ∧ s2 = s' ++ [.lst ((A ++ (ws.take i).map (rowL (wdL src))).map dS)]) ?_ (fun i L s2 h => by obtain ⟨_, _, _, _, rfl⟩ := h; exact hq.ck _ (q2 _)) ?_ ?_
  · exact ⟨_, none, none, rfl, by simp⟩
  · rintro i hi L s2 ⟨y8, y9, y10, rfl, rfl⟩
    have hm := List.getElem_mem hi
    have hx := hw.m _ hm
    have hx4 := hw.w _ hm
    have tk : ws.take (i + 1) = ws.take i ++ [ws[i]] := List.take_succ_eq_append_getElem hi
    have tl : (A ++ (ws.take i).map (rowL (wdL src))).length < 10000 := by
      have := hw.n
      rw [List.length_append, List.length_map, List.length_take]
      omega
    have ap' := fun l => ap _ l tl
    have tE : A ++ (ws.take (i + 1)).map (rowL (wdL src)) = (A ++ (ws.take i).map (rowL (wdL src))) ++ [rowL (wdL src) ws[i]] := by
      rw [tk, List.map_append, List.map_singleton, ← List.append_assoc]
    clear tk
    have pS : ∀ o ∈ s' ++ [O.lst ((A ++ (ws.take i).map (rowL (wdL src))).map dS)], PurO o := pur_app hs (purO_lst fun x hx => by
      obtain ⟨l, _, rfl⟩ := List.mem_map.mp hx
      exact dS_pur l)
    generalize ws[i] = x at *
    generalize (A ++ (ws.take i).map (rowL (wdL src))) = X at *
    have bs : ∀ n ∈ x, ∀ s, bStr s [nI n] = some (dS (TL.numL n)) := fun n hn s => bStr_dS (by have := hx n hn; omega) s
    have hl2 := nums_len hx
    have hjr := fun s => join_dS (s := s) (a := [32]) (ps := wdL src :: x.map TL.numL) (by
      simp only [List.map_cons, List.sum_cons, List.length_cons, List.length_map, List.length_nil]
      omega)
    have e0 : x.map (fun n => dS (TL.numL n)) = (x.map TL.numL).map dS := by rw [List.map_map]; rfl
    have hsr : ∀ s, iSeq s (rowD x) = some ⟨x.map nI, none⟩ := fun s => rfl
    have hlo : ∀ s (xs : List D), lstOf s (.lst xs) = some xs := fun s xs => rfl
    have ewd : D.str (st (wdL src)) = dS (wdL src) := rfl
    have est : ∀ l : List Nat, dS l = D.str (st l) := fun _ => rfl
    have erl : TL.joinL [32] (wdL src :: x.map TL.numL) = rowL (wdL src) x := rfl
    simp_arith [↓w_m1, strD_str, ↓w_star, hsr, il]
    refine lcp_all x nI (fun n => dS (TL.numL n)) rfl (fun acc => rfl) (by omega) pS (fun n _ => dS_pur _) (fun n hn acc hacc => by
      have b1 := bs n hn
      simp_arith [wipeD, b1]) ?_
    rw [e0]
    simp_arith [hlo, ewd]
    rw [List.append_nil]
    refine ⟨by rw [List.length_map, List.length_map]; omega, ?_⟩
    rw [← List.map_cons]
    rw [hjr, erl, est]
    simp_arith [ap', il]
    exact ⟨_, _, _, rfl, by rw [tE]⟩
  · rintro L s2 ⟨y8, y9, y10, rfl, rfl⟩
    rw [List.take_length, ← eL]
    have sj : ∀ x, mJoin (s' ++ [O.lst ((linesL (mcN M) n src ws).map dS)]) (.str x) (.ref s'.length) = mJoin (s' ++ [O.lst ((linesL (mcN M) n src ws).map dS)]) (.str x) (.lst ((linesL (mcN M) n src ws).map dS)) := fun x => by
      show ((seqOf _ _).bind strsOf).bind _ = ((seqOf _ _).bind strsOf).bind _
      rw [ap_seq]
      rfl
    have ad : ∀ s, dAdd s (dS (TL.joinL [10] (linesL (mcN M) n src ws))) (.str (st [10])) = some (dS (sheetL (linesL (mcN M) n src ws))) := fun s => add_dS (by simp only [List.length_singleton] at *; omega)
    simp_arith [↓w_m1, strD_str, sj, hj, ad, fin2_pur (dS_pur _), List.take_left]
end SI

/-! a comprehension that draws -/
namespace Pg
open PySem L2 SI Mt
variable {r : S} {Q : Cn (D → S → Prop)} {E : Cn (Addr → List Str → List D → S → Prop)}
theorem lcd_run {q : Tg} {fe : F D} {on : List D} {L0 : Lc} {P : D → Prop}
    (hfe : ∀ (d : D) (v : SrcV) (k : Nat) (acc : List D), v.Ok k → k < 2 ^ 59 → @WO _ (q d L0) ⟨fun L1 => @WR _ (fe L1 (v.o :: (r ++ [.lst acc]))) ⟨fun y s' => ∃ v' : SrcV, P y ∧ v'.Ok (k + 1) ∧ s' = v'.o :: (r ++ [.lst acc])⟩ ⟨nE⟩⟩) :
    ∀ (items acc : List D) (v : SrcV) (k : Nat), v.Ok k → k + items.length < 2 ^ 59 → acc.length + items.length ≤ 1000000 → ∃ (ys : List D) (v' : SrcV), ys.length = items.length ∧ (∀ y ∈ ys, P y) ∧ v'.Ok (k + items.length) ∧ lcL q fYes fe ⟨on, none⟩ L0 (r.length + 1) items (v.o :: (r ++ [.lst acc])) = .ok () (v'.o :: (r ++ [.lst (acc ++ ys)]))
  | [], acc, v, k, ok, _, _ => ⟨[], v, rfl, (fun y h => by cases h), ok, by
    rw [lcL, if_pos (show chk ⟨on, none⟩ _ = true from rfl)]
    simp⟩
  | d :: items, acc, v, k, ok, hk, ha => by
    rw [List.length_cons] at hk ha
    have h1 := hfe d v k acc ok (by omega)
    cases eq : q d L0 with
    | none =>
      rw [eq] at h1
      exact h1.elim
    | some L1 =>
      rw [eq] at h1
      obtain ⟨y, s', e, v', py, ok', rfl⟩ := ex_ok (show @WR _ (fe L1 (v.o :: (r ++ [.lst acc]))) ⟨fun y s' => ∃ v' : SrcV, P y ∧ v'.Ok (k + 1) ∧ s' = v'.o :: (r ++ [.lst acc])⟩ ⟨nE⟩ from h1)
      obtain ⟨ys, v2, e1, e2, ok2, e3⟩ := lcd_run (on := on) hfe items (acc ++ [y]) v' (k + 1) ok' (by omega) (by simp; omega)
      refine ⟨y :: ys, v2, by simp [e1], fun z hz => ?_, by rw [List.length_cons, show k + (items.length + 1) = k + 1 + items.length by omega]; exact ok2, ?_⟩
      · rcases List.mem_cons.mp hz with rfl | hz
        · exact py
        · exact e2 z hz
      · rw [lcL, if_pos (show chk ⟨on, none⟩ _ = true from rfl), eq]
        dsimp only
        rw [show ∀ s, fYes L1 s = .ok true s from fun _ => rfl, R_bind_ok, if_pos rfl, e, R_bind_ok, rl_get]
        dsimp only
        rw [if_pos (show acc.length < big by show acc.length < 1000000; omega), rl_set, e3]
        simp
theorem lcd_wp {q : Tg} {fe : F D} {vs : List Nat} {items : List D} {L : Lc} {P : D → Prop} {v : SrcV} {k : Nat} (hr : ∀ o ∈ r, PurO o) (ok : v.Ok k) (hk : k + items.length < 2 ^ 59) (hl : items.length ≤ 1000000) (hP : ∀ y, P y → Pur y)
    (hfe : ∀ (d : D) (v : SrcV) (k : Nat) (acc : List D), v.Ok k → k < 2 ^ 59 → @WO _ (q d (wipeD L vs)) ⟨fun L1 => @WR _ (fe L1 (v.o :: (r ++ [.lst acc]))) ⟨fun y s' => ∃ v' : SrcV, P y ∧ v'.Ok (k + 1) ∧ s' = v'.o :: (r ++ [.lst acc])⟩ ⟨nE⟩⟩)
    (h : ∀ (ys : List D) (v' : SrcV), ys.length = items.length → (∀ y ∈ ys, P y) → v'.Ok (k + items.length) → Q (.lst ys) (v'.o :: r)) : @WR _ (lcE q fYes fe vs L ⟨items, none⟩ (v.o :: r)) Q E := by
  obtain ⟨ys, v', e1, e2, ok', e3⟩ := lcd_run (on := items) hfe items [] v k ok hk (by simpa using hl)
  unfold lcE
  rw [List.cons_append, show (v.o :: r).length = r.length + 1 from rfl, e3, List.nil_append]
  dsimp only
  rw [rl_get]
  dsimp only
  have tk : (v'.o :: (r ++ [O.lst ys])).take (r.length + 1) = v'.o :: r := by simp
  rw [tk, if_pos ⟨all_pur (pur_cons hr (pur_srcv v')), bels_pur fun y hy => hP y (e2 y hy)⟩]
  exact h ys v' e1 e2 ok'
end Pg

/-! the cases of the laws of sheets: drawn rows and sources, and the law's own sheet -/
namespace SI
open PySem L2 Pg Mt
--TAKE
noncomputable def rwsTG : List D → S → R D := cutF (runF 9
  ((sSeq (sAsg 4 (fLstT fNil))
    (sSeq (sFor (fRng dRng1 (fCons (fVar 2) fNil)) (gN 5) (sSeq (sAsg 6 (fCall 2 drawB (fCons (fVar 0) (fCons (fVar 1) fNil))))
    (sSeq (sAsg 7 (fCall 2 drawB (fCons (fVar 0) (fCons (fVar 1) fNil))))
    (sSeq (sIf (fAnd (fTst (fOp (dEqD false) (fVar 7) (fC (.int 0)))) (fTst (fOp (dEqD false) (fVar 3) (fC (.int 0))))) (sAsg 7 (fOp dSub (fVar 1) (fC (.int 1)))) sNext)
    (sSeq (sIf (fAnd (fTst (fOp (dEqD false) (fVar 7) (fVar 6))) (fTst (fOp dGt (fVar 6) (fC (.int 0))))) (sAsg 6 (fOp dSub (fVar 6) (fC (.int 1)))) (sIf (fTst (fOp (dEqD false) (fVar 7) (fVar 6))) (sAsg 7 (fOp dSub (fVar 1) (fC (.int 1)))) sNext))
    (sSeq (sAsg 8 (fOp dIx (fLst (fCons (fCall 2 drawB (fCons (fVar 0) (fCons (fC (.int 30)) fNil))) (fCons (fCall 2 wideG (fCons (fVar 0) (fCons (fOp dAdd (fOp dPow (fC (.int 10)) (fC (.int 15))) (fC (.int 1))) fNil))) (fCons (fOp dPow (fC (.int 10)) (fC (.int 15))) (fCons (fC (.int 0)) fNil))))) (fCall 2 drawB (fCons (fVar 0) (fCons (fC (.int 4)) fNil)))))
    (sIf (fTst (fOp (dEqD false) (fVar 3) (fC (.int 0)))) (sExpr (fApp (fVar 4) (fCons (fTup (fCons (fVar 6) (fCons (fVar 7) (fCons (fVar 8) fNil)))) fNil))) (sExpr (fApp (fVar 4) (fCons (fTup (fCons (fCall 2 drawB (fCons (fVar 0) (fCons (fVar 3) fNil))) (fCons (fVar 6) (fCons (fVar 7) (fCons (fVar 8) fNil))))) fNil))))))))))
    (sRet (fVar 4))))))
noncomputable def sheTG : List D → S → R D := runF 9
  ((sSeq (sAsg 4 (fLst (fCons (fOp dAdd (fC (.str "machine ")) (fM1 mJoin (fC (.str " ")) (fLc (fSrc (fVar 0)) (gN 6) fYes (fCB bStr (fCons (fVar 6) fNil)) [6]))) (fCons (fOp dAdd (fC (.str "hands ")) (fCB bStr (fCons (fVar 1) fNil))) fNil))))
    (sSeq (sAsg 5 (fC (.str "tell ")))
    (sSeq (sIf (fTst (fOp (dIs true) (fVar 2) (fC .non))) (sSeq (sAsg 4 (fOp dAdd (fVar 4) (fLc (fSrc (fVar 2)) (gN 7) fYes (fOp dAdd (fC (.str "source ")) (fCB bStr (fCons (fVar 7) fNil))) [7])))
    (sAsg 5 (fC (.str "send ")))) sNext)
    (sSeq (sAsg 4 (fOp dAdd (fVar 4) (fLc (fSrc (fVar 3)) (gN 8) fYes (fOp dAdd (fVar 5) (fM1 mJoin (fC (.str " ")) (fLc (fSrc (fVar 8)) (gN 6) fYes (fCB bStr (fCons (fVar 6) fNil)) [6]))) [8])))
    (sRet (fOp dAdd (fM1 mJoin (fC (.str "\n")) (fVar 4)) (fC (.str "\n")))))))))
noncomputable def casTG : List D → S → R D := runF 7
  ((sSeq (sAsg 1 (fCall 1 numB (fCons (fVar 0) fNil)))
    (sSeq (sAsg 2 (fOp dIx (fLst (fCons (fC (.int 3)) (fCons (fC (.int 2)) (fCons (fC (.int 5)) (fCons (fC (.int 1)) (fCons (fC (.int 40)) (fCons (fC (.int 100)) fNil))))))) (fCall 2 drawB (fCons (fVar 0) (fCons (fC (.int 6)) fNil)))))
    (sSeq (sAsg 3 (fC .non))
    (sSeq (sIf (fAnd (fTst (fOp dGt (fVar 2) (fC (.int 1)))) (fAnd (fTst (fOp dLt (fVar 2) (fC (.int 41)))) (fTst (fOp (dEqD false) (fCall 2 drawB (fCons (fVar 0) (fCons (fC (.int 2)) fNil))) (fC (.int 0)))))) (sAsg 3 (fLc (fRng dRng1 (fCons (fOp dIx (fLst (fCons (fC (.int 1)) (fCons (fC (.int 2)) (fCons (fC (.int 3)) (fCons (fC (.int 40)) fNil))))) (fCall 2 drawB (fCons (fVar 0) (fCons (fC (.int 4)) fNil)))) fNil)) (gN 6) fYes (fCall 2 drawB (fCons (fVar 0) (fCons (fVar 2) fNil))) [6])) sNext)
    (sSeq (sAsg 4 (fOp dIx (fLst (fCons (fC (.int 2)) (fCons (fC (.int 0)) (fCons (fC (.int 1)) (fCons (fC (.int 4)) (fCons (fC (.int 9)) (fCons (fC (.int 30)) fNil))))))) (fCall 2 drawB (fCons (fVar 0) (fCons (fC (.int 6)) fNil)))))
    (sSeq (sIf (fTst (fOp (dEqD false) (fVar 2) (fC (.int 1)))) (sAsg 4 (fC (.int 0))) sNext)
    (sSeq (sAsg 5 (fC (.int 0)))
    (sSeq (sIf (fTst (fOp (dIs true) (fVar 3) (fC .non))) (sAsg 5 (fCB bLen (fCons (fVar 3) fNil))) sNext)
    (sRet (fTup (fCons (fVar 1) (fCons (fVar 2) (fCons (fVar 3) (fCons (fCall 4 rwsTG (fCons (fVar 0) (fCons (fVar 2) (fCons (fVar 4) (fCons (fVar 5) fNil))))) fNil)))))))))))))))
--END TAKE
variable {c : Cl} {v : SrcV} {k : Nat} {r : S} {Q : Cn (D → S → Prop)} {E : Cn (Addr → List Str → List D → S → Prop)}
/-- a drawn row -/
noncomputable def RowG (n : Nat) (src : Option (List Nat)) (w : List Nat) : Prop := match src with
  | none => ∃ a b t, w = [a, b, t] ∧ a < n ∧ 0 < b ∧ b < n ∧ a ≠ b ∧ t ≤ 1000000000000000
  | some ss => ∃ l a b t, w = [l, a, b, t] ∧ l < ss.length ∧ a < n ∧ b < n ∧ a ≠ b ∧ t ≤ 1000000000000000
noncomputable def wdN (src : Option (List Nat)) : Nat := if src.isSome = true then 4 else 3
noncomputable def ltN (src : Option (List Nat)) : Nat := (src.getD []).length
theorem RowG.ok {n : Nat} (hn : n ≤ 1000) {src : Option (List Nat)} (hs : ltN src ≤ 1000) {ws : List (List Nat)} (h : ∀ w ∈ ws, RowG n src w) (hl : ws.length ≤ 2000) : RowsOk (wdN src) ws := by
  refine ⟨hl, fun r hr => ?_, fun r hr x hx => ?_⟩
  · have := h r hr
    cases src with
    | none =>
      obtain ⟨a, b, t, rfl, _⟩ := this
      rfl
    | some ss =>
      obtain ⟨l, a, b, t, rfl, _⟩ := this
      rfl
  · have := h r hr
    cases src with
    | none =>
      obtain ⟨a, b, t, rfl, h1, h2, h3, h4, h5⟩ := this
      simp only [List.mem_cons, List.not_mem_nil, or_false] at hx
      rcases hx with rfl | rfl | rfl <;> omega
    | some ss =>
      have hs' : ss.length ≤ 1000 := hs
      obtain ⟨l, a, b, t, rfl, h1, h2, h3, h4, h5⟩ := this
      simp only [List.mem_cons, List.not_mem_nil, or_false] at hx
      rcases hx with rfl | rfl | rfl | rfl <;> omega
theorem lim_n {n : Nat} (h : n ≤ 1000) : (n : Int) < 2 ^ 200 := Int.lt_of_le_of_lt (show (n : Int) ≤ 1000 by omega) (by decide +kernel)
theorem rwsT_wp {n many : Nat} (n1 : n ≤ 1000) {src : Option (List Nat)} (hs1 : ltN src ≤ 1000) (hs2 : ∀ ss, src = some ss → 1 ≤ ss.length) (hm : many ≤ 1000) (hn : 0 < many → 2 ≤ n) (ok : v.Ok k) (hk : k + 100000 < 2 ^ 60) (hr : ∀ o ∈ r, PurO o)
    (h : ∀ (ws : List (List Nat)) (v' : SrcV), ws.length = many → (∀ w ∈ ws, RowG n src w) → v'.Ok (k + 20 * many) → Q (.lst (ws.map rowD)) (v'.o :: r)) : @WR _ (rwsTG [.ref 0, .int n, .int many, .int (ltN src)] (v.o :: r)) Q E := by
  have hD : ∀ {v : SrcV} {n : Nat} {lim : Int} {r : S} {Q : Cn (D → S → Prop)} {E : Cn (Addr → List Str → List D → S → Prop)} (ok : v.Ok n) (hn : n < 2 ^ 60) (h0 : 0 < lim) (h1 : lim < 2 ^ 200) (h : ∀ x v', 0 ≤ x → x < lim → SrcV.Ok v' (n + 1) → Q (.int x) (v'.o :: r)), @WR _ (drawB [.ref 0, .int lim] (v.o :: r)) Q E := fun ok hn h0 h1 h => drawB_wp ok hn h0 h1 h
  have hW : ∀ {v : SrcV} {n : Nat} {lim : Int} {r : S} {Q : Cn (D → S → Prop)} {E : Cn (Addr → List Str → List D → S → Prop)} (ok : v.Ok n) (hn : n + 3 < 2 ^ 60) (h0 : 0 < lim) (h : ∀ x v', 0 ≤ x → x < lim → SrcV.Ok v' (n + 3) → Q (.int x) (v'.o :: r)), @WR _ (wideG [.ref 0, .int lim] (v.o :: r)) Q E := fun ok hn h0 h => wide_wp ok hn h0 h
  have p15 : ∀ s, dPow s (.int 10) (.int 15) = some (.int 1000000000000000) := fun s => pow_lit rfl rfl
  have ln := lim_n n1
  unfold rwsTG
  generalize drawB = DB at *
  generalize wideG = WG at *
  generalize hlt : ltN src = lt at *
  have hl0 : (src = none ∧ lt = 0) ∨ ∃ ss, src = some ss ∧ ss.length = lt ∧ 1 ≤ lt := by
    cases src with
    | none => exact .inl ⟨rfl, hlt.symm⟩
    | some ss => exact .inr ⟨ss, rfl, hlt, by rw [← hlt]; exact hs2 ss rfl⟩
  have lln := lim_n hs1
  simp_arith
  rw [rng1 (by omega) (by omega), w_some, Int.toNat_natCast]
  refine ws_rng (fun i L s' => ∃ (ws : List (List Nat)) (v' : SrcV) (y5 y6 y7 y8 : Option D), L = [some (.ref 0), some (.int n), some (.int many), some (.int lt), some (.ref (r.length + 1)), y5, y6, y7, y8] ∧ s' = v'.o :: (r ++ [.lst (ws.map rowD)]) ∧ ws.length = i ∧ (∀ w ∈ ws, RowG n src w) ∧ v'.Ok (k + 20 * i)) ⟨[], v, _, _, _, _, rfl, rfl, rfl, (fun w hw => by cases hw), ok⟩ ?_ ?_
  · rintro i L s' hi ⟨ws, v1, y5, y6, y7, y8, rfl, rfl, hwl, hwg, ok1⟩
    have h2 := hn (by omega)
    simp_arith
    refine hD ok1 (by omega) (by omega) ln fun a v2 a0 a1 ok2 => ?_
    obtain ⟨a, rfl⟩ := Int.eq_ofNat_of_zero_le a0
    simp_arith
    refine hD ok2 (by omega) (by omega) ln fun b v3 b0 b1 ok3 => ?_
    obtain ⟨b, rfl⟩ := Int.eq_ofNat_of_zero_le b0
    simp_all_arith
    refine ws_cut (fun L s' => ∃ b2 : Nat, L = [some (.ref 0), some (.int n), some (.int many), some (.int lt), some (.ref (r.length + 1)), some (.int i), some (.int a), some (.int b2), y8] ∧ s' = v3.o :: (r ++ [.lst (ws.map rowD)]) ∧ b2 < n ∧ (lt = 0 → 0 < b2)) ?_ ?_
    · simp_arith
      by_cases e1 : b = 0
      · have e1' : (b : Int) = 0 := by omega
        by_cases e2 : lt = 0
        · have e2' : (lt : Int) = 0 := by omega
          simp_arith [e1', e2']
          exact ⟨n - 1, by rw [show ((n - 1 : Nat) : Int) = (n : Int) - 1 by omega], by omega, fun _ => by omega⟩
        · have e2' : ¬ (lt : Int) = 0 := by omega
          simp_arith [e1', e2']
          exact ⟨b, by rw [e1'], by omega, fun h => absurd h e2⟩
      · have e1' : ¬ (b : Int) = 0 := by omega
        simp_arith [e1']
        exact ⟨b, rfl, by omega, fun _ => by omega⟩
    rintro L s' ⟨b2, rfl, rfl, hb2, hb3⟩
    refine ws_cut (fun L s' => ∃ a2 b3 : Nat, L = [some (.ref 0), some (.int n), some (.int many), some (.int lt), some (.ref (r.length + 1)), some (.int i), some (.int a2), some (.int b3), y8] ∧ s' = v3.o :: (r ++ [.lst (ws.map rowD)]) ∧ a2 < n ∧ b3 < n ∧ (lt = 0 → 0 < b3) ∧ a2 ≠ b3) ?_ ?_
    · simp_arith
      by_cases e1 : b2 = a
      · have e1' : (b2 : Int) = (a : Int) := by omega
        by_cases e2 : 0 < a
        · have e2' : (0 : Int) < (a : Int) := by omega
          simp_arith [eq_true e1', e2']
          exact ⟨a - 1, b2, by rw [show ((a - 1 : Nat) : Int) = (a : Int) - 1 by omega], by omega, by omega, hb3, by omega⟩
        · have e2' : ¬ (0 : Int) < (a : Int) := by omega
          simp_arith [eq_true e1', e2']
          exact ⟨a, n - 1, by rw [show ((n - 1 : Nat) : Int) = (n : Int) - 1 by omega], by omega, by omega, fun _ => by omega, by omega⟩
      · have e1' : ¬ (b2 : Int) = (a : Int) := by omega
        simp_arith [e1']
        exact ⟨a, b2, rfl, by omega, hb2, hb3, by omega⟩
    rintro L s' ⟨a2, b3, rfl, rfl, ha2, hb4, hb5, hne⟩
    simp_arith
    refine hD ok3 (by omega) (by decide) (by decide +kernel) fun t1 v4 t0 t1' ok4 => ?_
    simp_arith [p15]
    refine hW ok4 (by omega) (by decide) fun t2 v5 t20 t21 ok5 => ?_
    simp_arith [p15]
    refine hD ok5 (by omega) (by decide) (by decide +kernel) fun q v6 q0 q1 ok6 => ?_
    simp_arith
    refine wo_pick (fun x => ∃ t : Nat, x = .int t ∧ t ≤ 1000000000000000) q0 (by simpa using q1) ?_ ?_
    · intro x hx
      simp only [List.mem_cons, List.not_mem_nil, or_false] at hx
      rcases hx with rfl | rfl | rfl | rfl
      · exact ⟨t1.toNat, by rw [Int.toNat_of_nonneg t0], by omega⟩
      · exact ⟨t2.toNat, by rw [Int.toNat_of_nonneg t20], by omega⟩
      · exact ⟨1000000000000000, rfl, by omega⟩
      · exact ⟨0, rfl, by omega⟩
    rintro _ ⟨t, rfl, ht⟩
    simp_arith
    have ap : ∀ (w : List Nat) (v' : SrcV), appOf (r.length + 1) (rowD w) (v'.o :: (r ++ [.lst (ws.map rowD)])) = some (v'.o :: (r ++ [.lst ((ws ++ [w]).map rowD)])) := fun w v' => by
      rw [List.map_append]
      exact rl_app _ (by rw [List.length_map]; omega)
    have hcons : ∀ w, RowG n src w → ∀ x ∈ ws ++ [w], RowG n src x := fun w hw x hx => by
      rcases List.mem_append.mp hx with hx | hx
      · exact hwg x hx
      · rw [List.mem_singleton.mp hx]
        exact hw
    rcases hl0 with ⟨rfl, e0⟩ | ⟨ss, rfl, e1, e2⟩
    · have e0' : (lt : Int) = 0 := by omega
      have ap' := ap [a2, b3, t] v6
      have er : rowD [a2, b3, t] = .tup [.int a2, .int b3, .int t] := rfl
      rw [er] at ap'
      simp_arith [e0', rl_isl, ap']
      exact ⟨ws ++ [[a2, b3, t]], v6, _, _, _, _, rfl, rfl, by simp [hwl], hcons _ ⟨a2, b3, t, rfl, ha2, hb5 e0, hb4, hne, ht⟩, ok6.mono (by omega)⟩
    · have e0' : ¬ (lt : Int) = 0 := by omega
      simp_arith [e0', rl_isl]
      refine hD ok6 (by omega) (by omega) lln fun l v7 l0 l1 ok7 => ?_
      obtain ⟨l, rfl⟩ := Int.eq_ofNat_of_zero_le l0
      have ap' := ap [l, a2, b3, t] v7
      have er : rowD [l, a2, b3, t] = .tup [.int l, .int a2, .int b3, .int t] := rfl
      rw [er] at ap'
      simp_arith [rl_isl, ap']
      exact ⟨ws ++ [[l, a2, b3, t]], v7, _, _, _, _, rfl, rfl, by simp [hwl], hcons _ ⟨l, a2, b3, t, rfl, by omega, ha2, hb4, hne, ht⟩, ok7.mono (by omega)⟩
  · rintro L s' ⟨ws, v1, y5, y6, y7, y8, rfl, rfl, hwl, hwg, ok1⟩
    have tk : (v1.o :: (r ++ [O.lst (ws.map rowD)])).take (r.length + 1) = v1.o :: r := by simp
    have gt : (v1.o :: (r ++ [O.lst (ws.map rowD)]))[r.length + 1]? = some (.lst (ws.map rowD)) := rl_get
    have ef : fin2 (r.length + 1) (v1.o :: (r ++ [.lst (ws.map rowD)])) (.ref (r.length + 1)) = some (.lst (ws.map rowD)) := fin2_ref (Nat.le_refl _) gt fun x hx => by
      obtain ⟨w, _, rfl⟩ := List.mem_map.mp hx
      exact rowD_pur w
    simp_arith [tk, ef]
    exact ⟨bel_pur (pur_cons hr (pur_srcv v1)), h ws v1 (by simpa using hwl) hwg (by simpa using ok1)⟩
/-- a drawn case -/
structure CaseG (M : Mc) (n : Nat) (src : Option (List Nat)) (ws : List (List Nat)) : Prop where
  M : M.Ok
  n0 : 1 ≤ n
  n1 : n ≤ 100
  s : ∀ ss, src = some ss → 2 ≤ n ∧ n ≤ 40 ∧ 1 ≤ ss.length ∧ ss.length ≤ 40 ∧ ∀ x ∈ ss, x < n
  w : ∀ w ∈ ws, RowG n src w
  l : ws.length ≤ 30
noncomputable def srcD : Option (List Nat) → D
  | none => .non
  | some ss => .lst (ss.map nI)
noncomputable def mcD (M : Mc) : D := .tup [.int M.o, .int M.l, .int M.g]
theorem casT_wp (ok : v.Ok k) (hk : k + 200000 < 2 ^ 59) (hr : ∀ o ∈ r, PurO o)
    (h : ∀ (M : Mc) (n : Nat) (src : Option (List Nat)) (ws : List (List Nat)) (v' : SrcV), CaseG M n src ws → v'.Ok (k + 1000) → Q (.tup [mcD M, .int n, srcD src, .lst (ws.map rowD)]) (v'.o :: r)) : @WR _ (casTG [.ref 0] (v.o :: r)) Q E := by
  have hR := fun {v : SrcV} {k n many : Nat} {Q : Cn (D → S → Prop)} {E : Cn (Addr → List Str → List D → S → Prop)} (n1 : n ≤ 1000) {src : Option (List Nat)} (hs1 : ltN src ≤ 1000) (hs2 : ∀ ss, src = some ss → 1 ≤ ss.length) (hm : many ≤ 1000) (hn : 0 < many → 2 ≤ n) (ok : v.Ok k) (hk : k + 100000 < 2 ^ 60)
    (h : ∀ (ws : List (List Nat)) (v' : SrcV), ws.length = many → (∀ w ∈ ws, RowG n src w) → v'.Ok (k + 20 * many) → Q (.lst (ws.map rowD)) (v'.o :: r)) => rwsT_wp (E := E) n1 hs1 hs2 hm hn ok hk hr h
  have hN : ∀ {v : SrcV} {n : Nat} {Q : Cn (D → S → Prop)} (ok : v.Ok n) (hn : n + 16 < 2 ^ 60) (h : ∀ (M : Mc) (v' : SrcV), M.Ok → v'.Ok (n + 16) → Q (.tup [.int M.o, .int M.l, .int M.g]) (v'.o :: r)), @WR _ (numB [.ref 0] (v.o :: r)) Q E := fun ok hn h => numB_wp ok hn h
  unfold casTG
  generalize rwsTG = rG at *
  generalize numB = nB at *
  simp_arith
  refine hN ok (by omega) fun M v1 hM ok1 => ?_
  simp_arith
  refine drawB_wp ok1 (by omega) (by decide) (by decide +kernel) fun a v2 a0 a1 ok2 => ?_
  simp_arith
  refine wo_pick (fun x => ∃ n : Nat, x = .int n ∧ 1 ≤ n ∧ n ≤ 100) a0 (by simpa using a1) ?_ ?_
  · intro x hx
    simp only [List.mem_cons, List.not_mem_nil, or_false] at hx
    rcases hx with rfl | rfl | rfl | rfl | rfl | rfl <;> exact ⟨_, rfl, by decide, by decide⟩
  rintro _ ⟨n, rfl, n0, n1⟩
  have ln := lim_n (n := n) (by omega)
  simp_all_arith
  refine ws_cut (fun L s' => ∃ (src : Option (List Nat)) (v' : SrcV) (y6 : Option D), L = [some (.ref 0), some (mcD M), some (.int n), some (srcD src), none, none, y6] ∧ s' = v'.o :: r ∧ v'.Ok (k + 100) ∧ ∀ ss, src = some ss → 2 ≤ n ∧ n ≤ 40 ∧ 1 ≤ ss.length ∧ ss.length ≤ 40 ∧ ∀ x ∈ ss, x < n) ?_ ?_
  · by_cases h1 : (1 : Int) < n
    · by_cases h2 : (n : Int) < 41
      · simp_arith [h1, h2]
        refine drawB_wp ok2 (by omega) (by decide) (by decide +kernel) fun b v3 b0 b1 ok3 => ?_
        simp_arith
        refine wb_dec (fun h3 => ?_) (fun h3 => ?_)
        · simp_arith
          refine drawB_wp ok3 (by omega) (by decide) (by decide +kernel) fun e v4 e0 e1 ok4 => ?_
          simp_arith
          refine wo_pick (fun x => ∃ q : Nat, x = .int q ∧ 1 ≤ q ∧ q ≤ 40) e0 (by simpa using e1) ?_ ?_
          · intro x hx
            simp only [List.mem_cons, List.not_mem_nil, or_false] at hx
            rcases hx with rfl | rfl | rfl | rfl <;> exact ⟨_, rfl, by decide, by decide⟩
          rintro _ ⟨q, rfl, q0, q1⟩
          simp_arith
          rw [rng1 (by omega) (by omega), w_some, Int.toNat_natCast]
          refine lcd_wp (P := fun d => ∃ x : Nat, d = nI x ∧ x < n) hr ok4 (by simp [rgItems]; omega) (by simp [rgItems]; omega) (fun y hy => by obtain ⟨x, rfl, _⟩ := hy; exact pur_int _) (fun d v k acc okv hk => ?_) (fun ys v' ly hy okv => ?_)
          · have hk' : k < 2 ^ 60 := by omega
            obtain ⟨x, v2, x0, x1, ok2, e⟩ := drawB_ok (s := v.o :: (r ++ [.lst acc])) (k := 0) rfl okv hk' (by omega : (0 : Int) < n) ln
            obtain ⟨x, rfl⟩ := Int.eq_ofNat_of_zero_le x0
            simp_arith [wipeD, e]
            exact ⟨v2, ⟨x, rfl, by omega⟩, ok2, rfl⟩
          · obtain ⟨ss, rfl, hss⟩ : ∃ ss : List Nat, ys = ss.map nI ∧ ∀ x ∈ ss, x < n := by
              clear ly
              induction ys with
              | nil => exact ⟨[], rfl, fun x hx => by cases hx⟩
              | cons y ys ih =>
                obtain ⟨x, rfl, hx⟩ := hy y (List.mem_cons_self ..)
                obtain ⟨ss, rfl, hss⟩ := ih fun z hz => hy z (List.mem_cons_of_mem _ hz)
                refine ⟨x :: ss, rfl, fun z hz => ?_⟩
                rcases List.mem_cons.mp hz with rfl | hz
                · exact hx
                · exact hss z hz
            have lq : ss.length = q := by simpa [rgItems] using ly
            simp_arith
            refine ⟨some ss, v', _, rfl, rfl, okv.mono (by simp [rgItems]; omega), fun ss' e => ?_⟩
            cases e
            exact ⟨by omega, by omega, by omega, by omega, hss⟩
        · simp_arith
          exact ⟨none, v3, _, rfl, rfl, ok3.mono (by omega), fun ss e => by cases e⟩
      · simp_arith [h1, h2]
        exact ⟨none, v2, _, rfl, rfl, ok2.mono (by omega), fun ss e => by cases e⟩
    · simp_arith [h1]
      exact ⟨none, v2, _, rfl, rfl, ok2.mono (by omega), fun ss e => by cases e⟩
  rintro L s' ⟨src, v3, y6, rfl, rfl, ok3, hsrc⟩
  simp_arith
  refine drawB_wp ok3 (by omega) (by decide) (by decide +kernel) fun b v4 b0 b1 ok4 => ?_
  simp_arith
  refine wo_pick (fun x => ∃ q : Nat, x = .int q ∧ q ≤ 30) b0 (by simpa using b1) ?_ ?_
  · intro x hx
    simp only [List.mem_cons, List.not_mem_nil, or_false] at hx
    rcases hx with rfl | rfl | rfl | rfl | rfl | rfl <;> exact ⟨_, rfl, by decide⟩
  rintro _ ⟨q, rfl, q1⟩
  have fin : ∀ q2 : Nat, q2 ≤ 30 → (0 < q2 → 2 ≤ n) → ∀ {Q' : Cn (D → S → Prop)} {E' : Cn (Addr → List Str → List D → S → Prop)}, (∀ ws v5, CaseG M n src ws → SrcV.Ok v5 (k + 1000) → Q' (.lst (ws.map rowD)) (v5.o :: r)) → @WR _ (rG [.ref 0, .int n, .int q2, .int (ltN src)] (v4.o :: r)) Q' E' := fun q2 h1 h2 Q' E' hq => by
    have hlt : ltN src ≤ 1000 := by
      unfold ltN
      cases src with
      | none => exact Nat.zero_le _
      | some ss =>
        have := (hsrc ss rfl).2.2.2.1
        show ss.length ≤ 1000
        omega
    exact hR (by omega) hlt (fun ss e => (hsrc ss e).2.2.1) (by omega) h2 ok4 (by omega) fun ws v5 lw hw ok5 => hq ws v5 ⟨hM, n0, n1, hsrc, hw, by omega⟩ (ok5.mono (by omega))
  have hsl : ∀ ss, src = some ss → ∀ s, bLen s [srcD src] = some (.int (ltN src)) := fun ss e s => by
    subst e
    show some (D.int _) = _
    rw [List.length_map]
    rfl
  have nn : ∀ s, dIs true s (srcD none) .non = some (.bl false) := fun _ => rfl
  have ns : ∀ ss s, dIs true s (srcD (some ss)) .non = some (.bl true) := fun _ _ => rfl
  by_cases h1 : n = 1
  · have h1' : (n : Int) = 1 := by omega
    have h0 := fun {Q' E'} hq => fin 0 (by omega) (by omega) (Q' := Q') (E' := E') hq
    cases src with
    | none =>
      simp only [show ((ltN none : Nat) : Int) = 0 from rfl, h1', show ((0 : Nat) : Int) = 0 from rfl] at h0
      simp_arith [h1', nn]
      refine h0 fun ws v5 hC ok5 => ?_
      simp_arith
      have hh := h M n none ws v5 hC ok5
      rw [h1'] at hh
      exact hh
    | some ss =>
      have := (hsrc ss rfl).1
      omega
  · have h1' : ¬ (n : Int) = 1 := by omega
    have h0 := fun {Q' E'} hq => fin q q1 (by omega) (Q' := Q') (E' := E') hq
    cases src with
    | none =>
      simp only [show ((ltN none : Nat) : Int) = 0 from rfl] at h0
      simp_arith [h1', nn]
      refine h0 fun ws v5 hC ok5 => ?_
      simp_arith
      exact h M n none ws v5 hC ok5
    | some ss =>
      simp_arith [h1', ns, hsl ss rfl]
      refine h0 fun ws v5 hC ok5 => ?_
      simp_arith
      exact h M n (some ss) ws v5 hC ok5
theorem mcD_row {M : Mc} (hM : M.Ok) : mcD M = rowD (mcN M) := by
  obtain ⟨o0, o1, l0, l1, g0, g1, _⟩ := hM
  show D.tup [.int M.o, .int M.l, .int M.g] = .tup [.int (M.o.toNat : Int), .int (M.l.toNat : Int), .int (M.g.toNat : Int)]
  rw [Int.toNat_of_nonneg o0, Int.toNat_of_nonneg l0, Int.toNat_of_nonneg (by omega)]
theorem mcN_le {M : Mc} (hM : M.Ok) : ∀ x ∈ mcN M, x ≤ 1000000000000000 := fun x hx => by
  obtain ⟨o0, o1, l0, l1, g0, g1, _⟩ := hM
  unfold mcN at hx
  simp only [List.mem_cons, List.not_mem_nil, or_false] at hx
  rcases hx with rfl | rfl | rfl <;> omega
theorem sheT_ok {M : Mc} (hM : M.Ok) {n w : Nat} (hn : n ≤ 1000) {src : Option (List Nat)} (hs1 : ∀ ss, src = some ss → ss.length ≤ 40 ∧ ∀ x ∈ ss, x ≤ 1000) {ws : List (List Nat)} (hw : RowsOk w ws) (hw1 : 1 ≤ w) (hw4 : w ≤ 4) {s : S} (hs : ∀ o ∈ s, PurO o) : sheTG [mcD M, .int n, srcD src, .lst (ws.map rowD)] s = .ok (dS (sheetL (linesL (mcN M) n src ws))) s := by
  have bs : ∀ n : Nat, n ≤ 1000000000000000 → ∀ s, bStr s [nI n] = some (dS (TL.numL n)) := fun n h s => bStr_dS (by omega) s
  have bn := bs n (by omega)
  have hsr : ∀ (x : List Nat) s, iSeq s (rowD x) = some ⟨x.map nI, none⟩ := fun x s => rfl
  have est : ∀ l : List Nat, D.str (st l) = dS l := fun _ => rfl
  have hmc := mcN_le hM
  have e0 : ∀ x : List Nat, x.map (fun n => dS (TL.numL n)) = (x.map TL.numL).map dS := fun x => by rw [List.map_map]; rfl
  have hj : ∀ x : List Nat, (∀ n ∈ x, n ≤ 1000000000000000) → x.length ≤ 10 → ∀ s, mJoin s (.str (st [32])) (.lst ((x.map TL.numL).map dS)) = some (dS (TL.joinL [32] (x.map TL.numL))) := fun x hx hl s => join_dS (by
    have := nums_len hx
    rw [List.length_map, List.length_singleton]
    omega)
  have hjm := hj (mcN M) hmc (by unfold mcN; simp)
  have lnm := numsL_len hmc
  rw [show (mcN M).length = 3 from rfl] at lnm
  have adm : ∀ s, dAdd s (.str (st (machL ++ [32]))) (dS (TL.joinL [32] ((mcN M).map TL.numL))) = some (dS (rowL machL (mcN M))) := fun s => by
    rw [rowL_eq _ (by unfold mcN; exact List.cons_ne_nil _ _)]
    exact add_dS (by simp [machL]; omega)
  have lnn := num_len (n := n) (by omega)
  have adh : ∀ s, dAdd s (.str (st (handL ++ [32]))) (dS (TL.numL n)) = some (dS (rowL handL [n])) := fun s => by
    rw [rowL1]
    exact add_dS (by simp [handL]; omega)
  rw [mcD_row hM]
  unfold nI at bn
  apply eq_ok
  unfold sheTG
  rw [machsp_st, handsp_st, srcesp_st, sp_st, nl_st, tellsp_st, sendsp_st]
  simp_arith [↓w_m1, strD_str, hsr]
  refine lcp_all (mcN M) nI (fun n => dS (TL.numL n)) rfl (fun acc => rfl) (by unfold mcN; simp) hs (fun n _ => dS_pur _) (fun n hn acc hacc => by
    have b1 := bs n (hmc n hn)
    simp_arith [wipeD, b1]) ?_
  rw [e0]
  simp_all_arith [hjm, adm, adh, bn]
  have hLs : (src.getD []).length ≤ 40 ∧ ∀ x ∈ src.getD [], x ≤ 1000 := by
    cases src with
    | none => exact ⟨by decide, fun x hx => by cases hx⟩
    | some ss => exact hs1 ss rfl
  have hwl : (wdL src).length ≤ 4 := by
    unfold wdL
    split <;> decide
  obtain ⟨A, eA⟩ : ∃ A, A = [rowL machL (mcN M), rowL handL [n]] ++ (src.getD []).map fun h => rowL srcL [h] := ⟨_, rfl⟩
  have hA : A.length ≤ 42 := by
    rw [eA, List.length_append, List.length_map]
    have : [rowL machL (mcN M), rowL handL [n]].length = 2 := rfl
    omega
  refine ws_cut (fun L s' => ∃ y7 : Option D, L = [some (rowD (mcN M)), some (.int n), some (srcD src), some (.lst (ws.map rowD)), some (.lst (A.map dS)), some (.str (st (wdL src ++ [32]))), none, y7, none] ∧ s' = s) ?_ ?_
  · cases src with
    | none =>
      simp_arith [show ∀ s, dIs true s (srcD none) .non = some (.bl false) from fun _ => rfl]
      exact ⟨none, by rw [eA]; rfl⟩
    | some ss =>
      have hss := hs1 ss rfl
      have cc : ∀ s, iSeq s (srcD (some ss)) = some ⟨ss.map nI, none⟩ := fun _ => rfl
      simp_arith [show ∀ s, dIs true s (srcD (some ss)) .non = some (.bl true) from fun _ => rfl, cc]
      refine lcp_all ss nI (fun x => dS (rowL srcL [x])) rfl (fun acc => rfl) (by omega) hs (fun n _ => dS_pur _) (fun x hx acc hacc => by
        have b1 := bs x (by have := hss.2 x hx; omega)
        have lx := num_len (n := x) (by have := hss.2 x hx; omega)
        have a1 : ∀ s, dAdd s (.str (st (srcL ++ [32]))) (dS (TL.numL x)) = some (dS (rowL srcL [x])) := fun s => by
          rw [rowL1]
          exact add_dS (by simp [srcL]; omega)
        simp_arith [wipeD, b1, a1]) ?_
      have al : ∀ s, dAdd s (.lst [dS (rowL machL (mcN M)), dS (rowL handL [n])]) (.lst (ss.map fun x => dS (rowL srcL [x]))) = some (.lst (A.map dS)) := fun s => by
        rw [add_ll (by simp; omega), eA]
        simp
      simp_arith [al]
      exact ⟨none, rfl⟩
  rintro L s' ⟨y7, rfl, rfl⟩
  have sq0 : ∀ s (xs : List D), iSeq s (.lst xs) = some ⟨xs, none⟩ := fun _ _ => rfl
  have hLl : ∀ l ∈ A ++ ws.map (rowL (wdL src)), l.length ≤ 100 := fun l hl => by
    rcases List.mem_append.mp hl with hl | hl
    · rw [eA] at hl
      rcases List.mem_append.mp hl with hl | hl
      · simp only [List.mem_cons, List.not_mem_nil, or_false] at hl
        rcases hl with rfl | rfl
        · have := rowL_len (w := machL) hmc
          simp [machL, mcN] at this ⊢
          omega
        · have := rowL_len (w := handL) (ns := [n]) fun x hx => by rw [List.mem_singleton.mp hx]; omega
          simp [handL] at this ⊢
          omega
      · obtain ⟨x, hx, rfl⟩ := List.mem_map.mp hl
        have := rowL_len (w := srcL) (ns := [x]) fun y hy => by rw [List.mem_singleton.mp hy]; have := hLs.2 x hx; omega
        simp [srcL] at this ⊢
        omega
    · obtain ⟨r, hr, rfl⟩ := List.mem_map.mp hl
      have := rowL_len (w := wdL src) (ns := r) (hw.m r hr)
      have e2 := hw.w r hr
      omega
  have hn2 := hw.n
  have hsum := lines_sum hLl
  have hLn : (A ++ ws.map (rowL (wdL src))).length ≤ 2042 := by
    rw [List.length_append, List.length_map]
    omega
  have hjl := joinL_len [10] (A ++ ws.map (rowL (wdL src)))
  have hjf := fun s => join_dS (s := s) (a := [10]) (ps := A ++ ws.map (rowL (wdL src))) (by rw [List.length_singleton]; omega)
  have eL : A ++ ws.map (rowL (wdL src)) = linesL (mcN M) n src ws := by
    rw [eA]
    unfold linesL
    simp
  simp_arith [sq0]
  refine lcp_all ws rowD (fun r => dS (rowL (wdL src) r)) rfl (fun acc => rfl) (by omega) hs (fun r _ => dS_pur _) (fun x hx acc hacc => ?_) ?_
  · have hx1 := hw.m x hx
    have hx2 := hw.w x hx
    have hj2 := hj x hx1 (by omega)
    have lx := numsL_len hx1
    have a1 : ∀ s, dAdd s (.str (st (wdL src ++ [32]))) (dS (TL.joinL [32] (x.map TL.numL))) = some (dS (rowL (wdL src) x)) := fun s => by
      rw [rowL_eq _ (by intro e; rw [e] at hx2; simp at hx2; omega)]
      exact add_dS (by simp; omega)
    simp_arith [wipeD, ↓w_m1, strD_str, hsr]
    refine lcp_all x nI (fun n => dS (TL.numL n)) rfl (fun acc => rfl) (by omega) (pur_app hs (purO_lst hacc)) (fun n _ => dS_pur _) (fun n hn acc hacc => by
      have b1 := bs n (hx1 n hn)
      simp_arith [wipeD, b1]) ?_
    rw [e0]
    simp_arith [hj2, a1]
  · have al : ∀ s, dAdd s (.lst (A.map dS)) (.lst (ws.map fun r => dS (rowL (wdL src) r))) = some (.lst ((A ++ ws.map (rowL (wdL src))).map dS)) := fun s => by
      rw [add_ll (by rw [List.length_map, List.length_map]; omega), List.map_append, List.map_map]
      rfl
    have ad : ∀ s, dAdd s (dS (TL.joinL [10] (A ++ ws.map (rowL (wdL src))))) (.str (st [10])) = some (dS (sheetL (A ++ ws.map (rowL (wdL src))))) := fun s => add_dS (by simp only [List.length_singleton] at *; omega)
    rw [← eL]
    simp_arith [al, ↓w_m1, strD_str, hjf, ad]
end SI

/-! a law's _law_spoilt -/
namespace Pg
open PySem L2 SI Mt
variable {c : Cl} {M : Mc} {v : SrcV} {k : Nat} {r : S} {Q : Cn (D → S → Prop)} {E : Cn (Addr → List Str → List D → S → Prop)}
theorem bels_mem {n : Nat} : ∀ {ys : List D}, D.bels n ys = true → ∀ y ∈ ys, D.bel n y = true
  | [], _, y, hy => by cases hy
  | x :: ys, h, y, hy => by
    rw [D.bels, Bool.and_eq_true] at h
    rcases List.mem_cons.mp hy with rfl | hy
    · exact h.1
    · exact bels_mem h.2 y hy
theorem pur_parts {ys : List D} (h : Pur (.tup ys)) (y : D) (hy : y ∈ ys) : Pur y := fun n => by
  have := h n
  rw [D.bel] at this
  exact bels_mem this y hy
/-- is the row plain? -/
theorem odd_plain {d : D} (h : Odd c d) (w : Nat) : (∀ s, bIsi c.cs s [d, .ty "tuple"] = some (.bl false)) ∨ ∃ ys, d = .tup ys ∧ (∀ y ∈ ys, Th c y) ∧ (∀ y ∈ ys, Pur y) ∧ ys.length ≤ 1000 := by
  cases h.rw with
  | no h1 h2 => exact .inl h1
  | tup ys h1 h2 => exact .inr ⟨ys, rfl, h1, fun y hy => pur_parts h.pur y hy, h2⟩
theorem all_ints : ∀ {ys : List D}, ys.all isI = true → ∃ is : List Int, ys = is.map D.int
  | [], _ => ⟨[], rfl⟩
  | y :: ys, h => by
    rw [List.all_cons, Bool.and_eq_true] at h
    obtain ⟨i, rfl⟩ := isI_int h.1
    obtain ⟨is, rfl⟩ := all_ints h.2
    exact ⟨i :: is, rfl⟩
theorem spo_wp {w : Nat} (hw : w = 3 ∨ w = 4) {n : Nat} (hn : n ≤ 1000) {xs : List D} (hx : ∀ x ∈ xs, Odd c x) (hl : xs.length ≤ 3000) (ok : v.Ok k) (hk : k + 20 < 2 ^ 60) (hr : ∀ o ∈ r, PurO o)
    (h : ∀ ys v', (∀ y ∈ ys, Odd c y) → ys.length ≤ xs.length + 1 → SrcV.Ok v' (k + 10) → Q (.lst ys) (v'.o :: r)) : @WR _ (spG c [.ref 0, .lst xs, .int w, .int n] (v.o :: r)) Q E := by
  have w3 : 3 ≤ w := by omega
  have w4 : w ≤ 4 := by omega
  have ll : ∀ s, bLen s [.lst xs] = some (.int xs.length) := fun s => rfl
  have rlen : ∀ (o : O) (xs : List D), bLen (o :: (r ++ [.lst xs])) [.ref (r.length + 1)] = some (.int xs.length) := fun o xs => len_of rl_seq
  have px : ∀ {ys : List D}, (∀ y ∈ ys, Odd c y) → ∀ o ∈ r ++ [O.lst ys], PurO o := fun hy => pur_app hr (purO_lst fun y h => (hy y h).pur)
  have fin : ∀ {ys : List D} {v' : SrcV} {m : Nat}, (∀ y ∈ ys, Odd c y) → ys.length ≤ xs.length + 1 → v'.Ok m → m ≤ k + 10 → (((v'.o :: (r ++ [.lst ys])).take (r.length + 1)).all (O.bel (r.length + 1)) = true ∧ @WO _ (fin2 (r.length + 1) (v'.o :: (r ++ [.lst ys])) (.ref (r.length + 1))) ⟨fun d' => Q.f d' ((v'.o :: (r ++ [.lst ys])).take (r.length + 1))⟩) := fun {ys v' m} hy hl2 okm hm => by
    have tk : (v'.o :: (r ++ [O.lst ys])).take (r.length + 1) = v'.o :: r := by simp
    have ef : fin2 (r.length + 1) (v'.o :: (r ++ [.lst ys])) (.ref (r.length + 1)) = some (.lst ys) := fin2_ref (by omega) rl_get fun x hx => (hy x hx).pur
    rw [tk, ef]
    exact ⟨bel_pur (pur_cons hr (pur_srcv v')), h ys v' hy hl2 (okm.mono hm)⟩
  unfold spG
  obtain ⟨ch, v1, c1, ok1, e1⟩ := dr_ex (r := r) ok (by omega) (show (0 : Int) < 8 by decide) (by decide +kernel)
  have sq0 : ∀ s, seqOf s (.lst xs) = some xs := fun _ => rfl
  have r1 := rlen v1.o xs
  simp_all_arith [e1, sq0]
  have b20 : (xs.length : Int) + 1 < 2 ^ 200 := by
    have : (xs.length : Int) < 2 ^ 20 := by omega
    omega
  have lst1 := rl_lst (o := v1.o) (r := r) (xs := xs)
  have isl1 : isLst (r.length + 1) (v1.o :: (r ++ [.lst xs])) = true := rl_isl
  refine ws_cut (fun L s => L = [some (.ref 0), some (.ref (r.length + 1)), some (.int w), some (.int n), some (.int ch), none, none, none, none] ∧ s = v1.o :: (r ++ [.lst xs]) ∧ (ch : Int) ≠ 0 ∧ 1 ≤ xs.length) ?_ ?_
  · obtain ⟨q, v2, q1, ok2, e2⟩ := dr_ex (r := r ++ [.lst xs]) ok1 (by omega) (show (0 : Int) < xs.length + 1 by omega) b20
    obtain ⟨d, v3, hd, ok3, e3⟩ := odd_ex (c := c) (r := r ++ [.lst xs]) hw ok2 (by omega) (px hx)
    have e4 := rl_ins (o := v3.o) (r := r) (xs := xs) (q := q) (by omega) (by omega) d
    have go := fin (ys := xs.take q ++ [d] ++ xs.drop q) (v' := v3) (m := k + 1 + 1 + 1) (fun y hy => by
      rcases List.mem_append.mp hy with hy | hy
      · rcases List.mem_append.mp hy with hy | hy
        · exact hx y (List.mem_of_mem_take hy)
        · rw [List.mem_singleton.mp hy]
          exact hd
      · exact hx y (List.mem_of_mem_drop hy)) (by simp; omega) ok3 (by omega)
    simp_arith [r1]
    refine wb_dec (fun h1 => ?_) (fun h1 => ?_)
    · simp_arith [r1, lst1, isl1, e2, e3, e4]
      exact go
    · simp_arith [r1]
      refine wb_dec (fun h2 => ?_) (fun h2 => ?_)
      · simp_arith [r1, lst1, isl1, e2, e3, e4]
        exact go
      · simp_arith
        exact ⟨h1, by omega⟩
  rintro L s ⟨rfl, rfl, ch0, x1⟩
  obtain ⟨q, v2, q1, ok2, e2⟩ := dr_ex (r := r ++ [.lst xs]) ok1 (by omega) (show (0 : Int) < xs.length by omega) (by omega)
  have hq : q < xs.length := by omega
  have r2 := rlen v2.o xs
  have ix : dIx (v2.o :: (r ++ [.lst xs])) (.ref (r.length + 1)) (.int q) = some xs[q] := by
    show (seqOf _ _).bind _ = _
    rw [rl_seq, Option.bind_some]
    show L2.atI xs q = _
    rw [atI_in (by omega) (by omega), Int.toNat_natCast, List.getElem?_eq_getElem hq]
  have hd := hx xs[q] (List.getElem_mem hq)
  generalize xs[q] = d at ix hd
  refine ws_cut (fun L s => L = [some (.ref 0), some (.ref (r.length + 1)), some (.int w), some (.int n), some (.int ch), some (.int q), none, none, none] ∧ s = v2.o :: (r ++ [.lst xs])) ?_ ?_
  · simp_arith [r1, e2]
  rintro L s ⟨rfl, rfl⟩
  refine ws_cut (fun L s => L = [some (.ref 0), some (.ref (r.length + 1)), some (.int w), some (.int n), some (.int ch), some (.int q), some d, none, none] ∧ s = v2.o :: (r ++ [.lst xs])) ?_ ?_
  · simp_arith [ix]
  rintro L s ⟨rfl, rfl⟩
  refine ws_cut (fun L s => ∃ (pl : Bool) (y8 : Option D), L = [some (.ref 0), some (.ref (r.length + 1)), some (.int w), some (.int n), some (.int ch), some (.int q), some d, some (.bl pl), y8] ∧ s = v2.o :: (r ++ [.lst xs]) ∧ (pl = true → ∃ is : List Int, is.length = w ∧ d = .tup (is.map D.int))) ?_ ?_
  · rcases odd_plain hd w with h1 | ⟨ys, rfl, hy, py, l1000⟩
    · simp_arith [h1]
      exact ⟨false, _, rfl, fun z => by cases z⟩
    have it : ∀ s, bIsi c.cs s [.tup ys, .ty "tuple"] = some (.bl true) := fun s => rfl
    have ln : ∀ s, bLen s [.tup ys] = some (.int ys.length) := fun s => rfl
    have sr : ∀ s, iSeq s (.tup ys) = some ⟨ys, none⟩ := fun s => rfl
    simp_arith [it, ln]
    by_cases hlen : ys.length = w
    · simp_arith [show ((ys.length : Int) = (w : Int)) from by omega, sr]
      have mp : ys = ys.map fun x => x := by simp
      refine lcp_all ys (fun x => x) (fun x => D.bl (isI x)) mp (fun acc => rfl) (by omega) (pur_cons (px hx) (pur_srcv v2)) (fun _ _ => fun _ => rfl) (fun x hx acc ha => ?_) ?_
      · simp_arith [wipeD, th_intg (hy x hx)]
      simp_arith [all_map]
      refine ⟨_, _, rfl, fun z => ?_⟩
      obtain ⟨is, e⟩ := all_ints z
      subst e
      exact ⟨is, by simpa using hlen, rfl⟩
    · simp_arith [show ¬ ((ys.length : Int) = (w : Int)) from by omega]
      exact ⟨false, _, rfl, fun z => by cases z⟩
  rintro L s ⟨pl, y8, rfl, rfl, hpl⟩
  have pr2 := pur_cons (px hx) (pur_srcv v2)
  have lst2 := rl_lst (o := v2.o) (r := r) (xs := xs)
  have isl2 : isLst (r.length + 1) (v2.o :: (r ++ [.lst xs])) = true := rl_isl
  have setO : ∀ {y : D} {i : Nat}, Odd c y → ∀ z ∈ xs.set i y, Odd c z := fun {y i} hy z hz => by
    rcases List.mem_or_eq_of_mem_set hz with hz | rfl
    · exact hx z hz
    · exact hy
  have put : ∀ (o : O) (y : D), dPut (o :: (r ++ [.lst xs])) (.ref (r.length + 1)) (.int q) y = some (o :: (r ++ [.lst (xs.set q y)])) := fun o y => by
    have := rl_put (o := o) (r := r) (xs := xs) (i := (q : Int)) (d := y) (by omega) (by omega)
    rw [Int.toNat_natCast] at this
    exact this
  refine ws_cut (fun L s => ∃ (ys : List D) (v' : SrcV), L = [some (.ref 0), some (.ref (r.length + 1)), some (.int w), some (.int n), some (.int ch), some (.int q), some d, some (.bl pl), y8] ∧ s = v'.o :: (r ++ [.lst ys]) ∧ (∀ y ∈ ys, Odd c y) ∧ ys.length ≤ xs.length + 1 ∧ v'.Ok (k + 10)) ?_ ?_
  · simp_arith
    refine wb_dec (fun h1 => ?_) (fun h1 => ?_)
    · have e3 := rl_pop (o := v2.o) (r := r) (xs := xs) (q := q) (by omega) hq
      simp_arith [lst2, isl2, e3]
      exact ⟨_, v2, rfl, fun y hy => hx y (List.mem_of_mem_eraseIdx hy), by rw [List.length_eraseIdx]; split <;> omega, ok2.mono (by omega)⟩
    simp_arith
    refine wb_dec (fun h2 => ?_) (fun h2 => ?_)
    · obtain ⟨p, v3, p1, ok3, e3⟩ := dr_ex (r := r ++ [.lst xs]) ok2 (by omega) (show (0 : Int) < xs.length + 1 by omega) b20
      have e4 := rl_ins (o := v3.o) (r := r) (xs := xs) (q := p) (by omega) (by omega) d
      simp_arith [lst2, isl2, r2, e3, e4]
      refine ⟨_, v3, rfl, fun y hy => ?_, by simp; omega, ok3.mono (by omega)⟩
      have hy : y ∈ xs.take p ++ [d] ++ xs.drop p := by simpa using hy
      rcases List.mem_append.mp hy with hy | hy
      · rcases List.mem_append.mp hy with hy | hy
        · exact hx y (List.mem_of_mem_take hy)
        · rw [List.mem_singleton.mp hy]
          exact hd
      · exact hx y (List.mem_of_mem_drop hy)
    cases pl with
    | false =>
      obtain ⟨y, v3, hy, ok3, e3⟩ := odd_ex (c := c) (r := r ++ [.lst xs]) hw ok2 (by omega) (px hx)
      simp_arith
      refine wb_dec (fun h3 => ?_) (fun h3 => ?_)
      · simp_arith [e3, put]
        exact ⟨_, v3, rfl, setO hy, by simp, ok3.mono (by omega)⟩
      · simp_arith [e3, put]
        exact ⟨_, v3, rfl, setO hy, by simp, ok3.mono (by omega)⟩
    | true =>
      obtain ⟨is, il, rfl⟩ := hpl rfl
      obtain ⟨y, v3, hy, ok3, e3⟩ := chg_ex (c := c) (r := r ++ [.lst xs]) (is := is) (by omega) (by omega) hn ok2 (by omega)
      have ixj : ∀ j : Nat, 1 ≤ j → j ≤ 3 → ∃ z : Int, ∀ s, dIx s (.tup (is.map D.int)) (.int ((w : Int) - j)) = some (.int z) := fun j j1 j3 => by
        have hi : w - j < is.length := by omega
        refine ⟨is[w - j], fun s => ?_⟩
        rw [dIx_tup, show (w : Int) - j = ((w - j : Nat) : Int) by omega]
        exact atI_map (List.getElem?_eq_getElem hi)
      obtain ⟨z1, i1⟩ := ixj 1 (by decide) (by decide)
      obtain ⟨z2, i2⟩ := ixj 2 (by decide) (by decide)
      obtain ⟨z3, i3⟩ := ixj 3 (by decide) (by decide)
      have i1 : ∀ s, dIx s (.tup (is.map D.int)) (.int ((w : Int) - 1)) = some (.int z1) := i1
      have i2 : ∀ s, dIx s (.tup (is.map D.int)) (.int ((w : Int) - 2)) = some (.int z2) := i2
      have i3 : ∀ s, dIx s (.tup (is.map D.int)) (.int ((w : Int) - 3)) = some (.int z3) := i3
      obtain ⟨m1, l1⟩ := cut_sub (xs := is.map D.int) (lo := none) (hi := some ((w : Int) - 3))
      rw [List.length_map] at l1
      have t1 : ∀ s, dAdd s (.tup (cutD (is.map D.int) none (some ((w : Int) - 3)))) (.tup [.int z2, .int z3, .int z1]) = some (.tup (cutD (is.map D.int) none (some ((w : Int) - 3)) ++ [.int z2, .int z3, .int z1])) := fun s => add_tt (by simp; omega)
      simp_arith
      refine wb_dec (fun h3 => ?_) (fun h3 => ?_)
      · simp_arith [sl_tup, i1, i2, i3, t1, put]
        refine ⟨_, v2, rfl, setO (odd_opt (fun y hy => ?_) (by simp; omega)), by simp, ok2.mono (by omega)⟩
        rcases List.mem_append.mp hy with hy | hy
        · exact ⟨⟨th_ints _ _ (m1 _ hy), pur_ints _ _ (m1 _ hy)⟩, eqi_ints _ _ _ (m1 _ hy)⟩
        · exact ⟨⟨th_ints [z2, z3, z1] _ hy, pur_ints [z2, z3, z1] _ hy⟩, eqi_ints _ [z2, z3, z1] _ hy⟩
      · simp_arith [e3, put]
        exact ⟨_, v3, rfl, setO hy, by simp, ok3.mono (by omega)⟩
  rintro L s ⟨ys, v', rfl, rfl, h1, h2, h3⟩
  simp_arith
  exact fin h1 h2 h3 (Nat.le_refl _)
end Pg

/-! right letters plans -/
namespace Pg
open PySem L2 SI Mt
variable {c : Cl} {M : Mc}
/-- no number, form or telling fault -/
structure LtT (l : Int) (n : Nat) (ss : List Int) (zs : List Lw4) : Prop where
  frm : ∀ z ∈ zs, 0 ≤ z.2.2.2 ∧ z.2.2.2 ≤ 1000000000000000
  num : ∀ z ∈ zs, 0 ≤ z.1 ∧ z.1 < ss.length ∧ 0 ≤ z.2.1 ∧ z.2.1 < n ∧ 0 ≤ z.2.2.1 ∧ z.2.2.1 < n ∧ z.2.1 ≠ z.2.2.1
  agn : (ktK ss zs).Nodup
  nob : ∀ a h : Nat, a < ss.length → h < n → [(a : Int), (h : Int)] ∈ ktK ss zs
  ear : ∀ z ∈ zs, ∀ y ∈ zs, y.1 = z.1 → y.2.2.1 = z.2.1 → y.2.2.2 + l ≤ z.2.2.2
/-- all gaps and stretches are kept -/
structure LtR (M : Mc) (zs : List Lw4) : Prop where
  gap : ∀ i j, j < i → i < zs.length → (r4 zs j).2.1 = (r4 zs i).2.1 → M.gap ≤ (((r4 zs j).2.2.2 - (r4 zs i).2.2.2).natAbs : Int)
  cls : ∀ i j, j < i → i < zs.length → (r4 zs j).2.2.1 = (r4 zs i).2.2.1 → M.gap ≤ (((r4 zs j).2.2.2 - (r4 zs i).2.2.2).natAbs : Int)
  bzy : ∀ i j, i < zs.length → j < zs.length → (r4 zs i).2.1 = (r4 zs j).2.2.1 → M.o ≤ (((r4 zs i).2.2.2 - ((r4 zs j).2.2.2 + M.o + M.l)).natAbs : Int)
/-! letters_fault, the sources -/
theorem sources_ok {n : Nat} (n0 : 2 ≤ n) (n1 : n ≤ 40) {ss : List Int} (h0 : 1 ≤ ss.length) (h1 : ss.length ≤ 40) (hs : ∀ x ∈ ss, 0 ≤ x ∧ x < n) {s : S} {sq : D} {rr : Option (Nat × List D)} (hq : Sq s sq (ss.map D.int) rr) : G_checked_sources c [.int n, sq] s = .ok (.lst (ss.map D.int)) s := by
  have len := hq.len (pfx_refl s)
  rw [List.length_map] at len
  apply eq_ok
  unfold G_checked_sources
  simp_arith [count_ok (c := c) (show (2 : Int) ≤ n by omega) (show (n : Int) ≤ 40 by omega), hq.isT (cs := c.cs) (pfx_refl s), len, show (1 : Int) ≤ ss.length by omega, show (ss.length : Int) ≤ 40 by omega, hq.enu (pfx_refl s)]
  rw [enu_src]
  refine ws_trk (xs := List.range ss.length) (f := fun i : Nat => D.tup [.int i, .int (ss.getD i 0)]) (fun i L s' => ∃ y2 y3, L = [some (.int n), some sq, y2, y3] ∧ s = s') ⟨none, none, rfl, rfl⟩ (fun i L s' h => by obtain ⟨_, _, _, rfl⟩ := h; exact hq.ck _ (pfx_refl _)) ?_ ?_
  · rintro i hi L s' ⟨y2, y3, rfl, rfl⟩
    have hi' : i < ss.length := by simpa using hi
    rw [List.getElem_range]
    have hx : 0 ≤ ss.getD i 0 ∧ ss.getD i 0 < n := by
      rw [List.getD_eq_getElem?_getD, List.getElem?_eq_getElem hi']
      exact hs _ (List.getElem_mem hi')
    generalize ss.getD i 0 = x at *
    simp_arith [between_int (c := c) hx.1 (show x ≤ (n : Int) - 1 by omega)]
    exact ⟨_, _, rfl⟩
  · rintro L s' ⟨y2, y3, rfl, rfl⟩
    simp_arith [hq.ls (pfx_refl s)]
end Pg

/-! letters_ends of a right letters plan -/
namespace Pg
open PySem L2 SI Mt
variable {c : Cl} {M : Mc}
/-- the rows of one letter -/
noncomputable def lrs (j : Int) (zs : List Lw4) : List Rw := (zs.filter fun z => decide (z.1 = j)).map (·.2)
noncomputable def endJ (l : Int) (j : Int) (zs : List Lw4) : Int := endP l (lrs j zs)
noncomputable def endL (l : Int) (k : Nat) (zs : List Lw4) : List Int := (List.range k).map fun (j : Nat) => endJ l (j : Int) zs
end Pg

/-! all letters by one tree, each a period later -/
namespace Pg
open PySem L2 SI Mt
variable {c : Cl} {M : Mc}
noncomputable def zrI (k : Nat) : List Int := (List.range k).map fun _ => (0 : Int)
/-- a tree with at most T turns, as early as can be -/
structure ETr (M : Mc) (T n : Nat) (zs : List Rw) : Prop where
  pl : PlR M.letter M.gap n zs
  at_ : ∃ K : Int → Int, ∀ z ∈ zs, K z.2.1 = z.2.2 + M.letter ∧ ∃ a : Nat, a < T ∧ z.2.2 = K z.1 + a * M.gap
end Pg

/-! no right letters plan of one source ends before the first bound -/
namespace Pg
open PySem L2 SI Mt
variable {c : Cl} {M : Mc}
end Pg

/-! what letters_plan tells; three hands -/
namespace Pg
open PySem L2 SI Mt
variable {c : Cl} {M : Mc}
/-- all that the law asks of a told plan -/
structure Tld (M : Mc) (n k : Nat) (b : Int) (R : List Lw4) : Prop where
  len : R.length = k * (n - 1)
  flt : letF M n (zrI k) R = none
  num : ∀ z ∈ R, 0 ≤ z.1 ∧ z.1 < k
  mx : gsI (R.map fun z => z.2.2.2) = some (b - M.letter)
  ends : gsI (endL M.letter k R) = some b
end Pg

/-! a != b for two equal lists among whose items empty dicts may stand -/
namespace PySem.SeqAt
open AutoSeq1 (wpAny_loadPart')
open MeetsSeq MeetsSeq2 MeetsSeq3
section
variable {prog : Program} {w : World}
end
end PySem.SeqAt
namespace SI
open PySem PySem.Spec PyProof.Rows L2
section
variable {X : Cx} {pins : List (Addr × Obj)} {σ : L2.St} {H : Hp} {s : Shared}
end
section
variable {X : Cx} {W : WX} {a b : Expr} {f g : F D} {pos : Pos}
end
end SI

/-! lists with empty dicts among their items equal themselves -/
namespace SI
open PySem L2
/-- what equals itself at once, or part by part -/
noncomputable def EqP1 (n : Nat) (x : D) : Prop := x = .dk [] [] ∨ (∃ a d, x = .adr a d) ∨ dOk n x = true
noncomputable def EqP2 (n : Nat) (x : D) : Prop := EqP1 n x ∨ ∃ ys, x = .tup ys ∧ ∀ y ∈ ys, EqP1 n y
end SI

/-! letters_fault of any thing -/
namespace Pg
open PySem L2 SI Mt
variable {c : Cl} {M : Mc} {s : S} {sq : D} {rr : Option (Nat × List D)} {xs : List D} {n : Nat}
theorem frmR_long (hq : Sq s sq xs rr) (w m : Int) (h : m < xs.length) : G_form_fault_rows c [sq, .int w, .int m] s = .ok (.tup [.str "form", .int (-1)]) s := by
  apply eq_ok
  unfold G_form_fault_rows
  simp_arith [hq.isT (cs := c.cs) (pfx_refl s), hq.len (pfx_refl s), h]
section
variable {ss : List Int} (n0 : 2 ≤ n) (n1 : n ≤ 40) (h0 : 1 ≤ ss.length) (h1 : ss.length ≤ 40) (hx : ∀ x ∈ ss, 0 ≤ x ∧ x < n)
include n0 n1 h0 h1 hx
end
end Pg

/-! law k67: answers and what is due -/
namespace Lw
open PySem L2 SI Pg Mt
variable {c : Cl} {M : Mc} {s : S}
theorem eForm : G__law_form c = formG c := rfl
theorem eDraw : G__law_draw c = drawB := rfl
theorem eWide : G__law_wide c = wideG := rfl
theorem eSrc : G__law_source c = srcG := rfl
theorem eSheet : G__law_sheet c = sheTG := rfl
theorem eCase : G__law_case c = casTG := rfl
theorem eSpo : G__law_spoilt c = spG c := rfl
theorem eSame : ∀ n, Gn__law_same c n = sameN c n
  | 0 => rfl
  | n + 1 => by
    unfold Gn__law_same sameN
    rw [eSame n]
    rfl
theorem eSm : G__law_same c = sameN c 24 := by
  unfold G__law_same
  rw [eSame]
theorem sel_cc : selOf (xsel_InvalidCount c) c.InvalidCount = some true := by
  unfold xsel_InvalidCount selOf
  rw [if_pos rfl]
theorem sel_rr : selOf (xsel_InvalidRows c) c.InvalidRows = some true := by
  unfold xsel_InvalidRows selOf
  rw [if_pos rfl]
theorem sel_pp : selOf (xsel_InvalidPlan c) c.InvalidPlan = some true := by
  unfold xsel_InvalidPlan selOf
  rw [if_pos rfl]
theorem sel_cr (hc : OkC c) : selOf (xsel_InvalidCount c) c.InvalidRows = some false := by
  unfold OkC at hc
  simp [xsel_InvalidCount, selOf, hc]
theorem sel_cp (hc : OkC c) : selOf (xsel_InvalidCount c) c.InvalidPlan = some false := by
  unfold OkC at hc
  simp [xsel_InvalidCount, selOf, hc]
theorem sel_rp (hc : OkC c) : selOf (xsel_InvalidRows c) c.InvalidPlan = some false := by
  unfold OkC at hc
  simp [xsel_InvalidRows, selOf, hc]
theorem xf_why {a C : Addr} {od : Option Addr} {cs : List Addr} (h : C ∈ cs) {d : D} {w : Str} : xfOf a C od cs "why" (.exc a C od ["at", "why"] [d, .str w]) = some (.str w) := by
  show (if a = a ∧ C = C ∧ od = od ∧ C ∈ cs then (List.zip (["at", "why"] : List Str) [d, .str w]).lookup ("why" : Str) else none) = _
  rw [if_pos ⟨rfl, rfl, rfl, h⟩]
  rfl
theorem xf_at {a C : Addr} {od : Option Addr} {cs : List Addr} (h : C ∈ cs) {d : D} {w : Str} : xfOf a C od cs "at" (.exc a C od ["at", "why"] [d, .str w]) = some d := by
  show (if a = a ∧ C = C ∧ od = od ∧ C ∈ cs then (List.zip (["at", "why"] : List Str) [d, .str w]).lookup ("at" : Str) else none) = _
  rw [if_pos ⟨rfl, rfl, rfl, h⟩]
  rfl
theorem ans_told {d x y z w : D} (e : G_write_sheet c [x, y, z, w] s = .ok d s) : G__law_answer c [x, y, z, w] s = .ok (.tup [.str "told", d]) s := by
  apply eq_ok
  unfold G__law_answer
  simp_arith [e]
theorem ans_cnt {x y z w : D} (e : G_write_sheet c [x, y, z, w] s = .ex c.InvalidCount [] [] s) : G__law_answer c [x, y, z, w] s = .ok (.tup [.str "count"]) s := by
  apply eq_ok
  unfold G__law_answer
  simp_arith [e, sel_cc]
  refine hAll_rt (.tup [.str "count"]) s (fun a od => ?_) ⟨rfl, rfl⟩
  simp_arith
theorem ans_rows (hc : OkC c) {x y z w : D} {i : Int} (e : G_write_sheet c [x, y, z, w] s = .ex c.InvalidRows ["at"] [.int i] s) : G__law_answer c [x, y, z, w] s = .ok (.tup [.str "rows", .int i]) s := by
  apply eq_ok
  unfold G__law_answer
  simp_arith [e, sel_cr hc, sel_rr]
  refine hAll_rt (.tup [.str "rows", .int i]) s (fun a od => ?_) ⟨rfl, rfl⟩
  have hm : c.InvalidRows ∈ xs_at c := by unfold xs_at; simp
  simp_arith [xf_1 hm]
theorem ans_plan (hc : OkC c) {x y z w : D} {u : String} {d : D} (e : G_write_sheet c [x, y, z, w] s = .ex c.InvalidPlan ["at", "why"] [d, .str u] s) : G__law_answer c [x, y, z, w] s = .ok (.tup [.str "plan", .str u, d]) s := by
  apply eq_ok
  unfold G__law_answer
  simp_arith [e, sel_cp hc, sel_rp hc, sel_pp]
  refine hAll_rt (.tup [.str "plan", .str u, d]) s (fun a od => ?_) ⟨rfl, rfl⟩
  have hm : c.InvalidPlan ∈ xs_at c := by unfold xs_at; simp
  have hm2 : c.InvalidPlan ∈ xs_why c := by unfold xs_why; simp
  simp_arith [xf_why hm2, xf_at hm]
/-! what write_sheet refuses -/
theorem wr_cnt0 {m d nd : D} (h : Th c nd) (hb : gb nd 1 100 = false) : G_write_sheet c [m, nd, d, .non] s = .ex c.InvalidCount [] [] s := by
  apply eq_ex
  unfold G_write_sheet
  rw [w_pure]
  simp_arith [is_nn, count_bad h hb]
  simp [D.bels]
theorem wr_src {m d nd sd : D} (h0 : dIs false s sd .non = some (.bl false)) {C : Addr} {fs : List Str} {vs : List D} (hv : D.bels s.length vs = true) (h : G_checked_sources c [nd, sd] s = .ex C fs vs s) : G_write_sheet c [m, nd, d, sd] s = .ex C fs vs s := by
  apply eq_ex
  unfold G_write_sheet
  rw [w_pure]
  simp_arith [h0, h]
  simp [hv]
theorem src_cnt {nd sd : D} (h : Th c nd) (hb : gb nd 2 40 = false) : G_checked_sources c [nd, sd] s = .ex c.InvalidCount [] [] s := by
  apply eq_ex
  unfold G_checked_sources
  simp_arith [count_bad h hb]
theorem wr_cnt {m d nd sd : D} (h : Th c nd) (hb1 : gb nd 1 100 = false) (hb2 : gb nd 2 40 = false) (h0 : sd = .non ∨ dIs false s sd .non = some (.bl false)) : G_write_sheet c [m, nd, d, sd] s = .ex c.InvalidCount [] [] s := by
  rcases h0 with rfl | h0
  · exact wr_cnt0 h hb1
  · exact wr_src h0 rfl (src_cnt h hb2)
theorem src_no {n : Nat} (n0 : 2 ≤ n) (n1 : n ≤ 40) {d : D} (h1 : ∀ s, bIsiT c.cs s [d, .tup [.ty "list", .ty "tuple"]] = some (.bl false)) : G_checked_sources c [.int n, d] s = .ex c.InvalidRows ["at"] [.int (-1)] s := by
  have co := count_ok (c := c) (show (2 : Int) ≤ n by omega) (show (n : Int) ≤ 40 by omega) s
  apply eq_ex
  unfold G_checked_sources
  simp_arith [co, h1]
theorem src_len {n : Nat} (n0 : 2 ≤ n) (n1 : n ≤ 40) {d : D} {xs : List D} {rr : Option (Nat × List D)} (hq : Sq s d xs rr) (h : xs.length < 1 ∨ 40 < xs.length) : G_checked_sources c [.int n, d] s = .ex c.InvalidRows ["at"] [.int (-1)] s := by
  have co := count_ok (c := c) (show (2 : Int) ≤ n by omega) (show (n : Int) ≤ 40 by omega) s
  have p := pfx_refl s
  apply eq_ex
  unfold G_checked_sources
  by_cases h1 : (1 : Int) ≤ xs.length
  · have h2 : ¬ (xs.length : Int) ≤ 40 := by omega
    simp_arith [co, hq.isT (cs := c.cs) p, hq.len p, h1, h2]
  · simp_arith [co, hq.isT (cs := c.cs) p, hq.len p, h1]
theorem src_bad {n : Nat} (n0 : 2 ≤ n) (n1 : n ≤ 40) {A B : List Nat} {b : D} (hA : ∀ x ∈ A, x < n) (hb : Th c b) (hb2 : gb b 0 (n - 1) = false) (hl : A.length + B.length < 40) : G_checked_sources c [.int n, .lst (A.map nI ++ [b] ++ B.map nI)] s = .ex c.InvalidRows ["at"] [.int A.length] s := by
  have co := count_ok (c := c) (show (2 : Int) ≤ n by omega) (show (n : Int) ≤ 40 by omega) s
  have hlen : (A.map nI ++ [b] ++ B.map nI).length = A.length + 1 + B.length := by simp; omega
  have ga : ∀ i < A.length, ∃ x : Nat, (A.map nI ++ [b] ++ B.map nI).getD i .non = .int x ∧ x < n := fun i hi => by
    refine ⟨A[i], ?_, hA _ (List.getElem_mem hi)⟩
    rw [List.getD_eq_getElem?_getD, List.append_assoc, List.getElem?_append_left (by simpa using hi), List.getElem?_map, List.getElem?_eq_getElem hi]
    rfl
  have gbb : (A.map nI ++ [b] ++ B.map nI).getD A.length .non = b := by
    rw [List.getD_eq_getElem?_getD]
    simp
  generalize A.map nI ++ [b] ++ B.map nI = xs at *
  have it : bIsiT c.cs s [.lst xs, .tup [.ty "list", .ty "tuple"]] = some (.bl true) := rfl
  have h1 : (1 : Int) ≤ xs.length := by omega
  have h2 : (xs.length : Int) ≤ 40 := by omega
  apply eq_ex
  unfold G_checked_sources
  simp_arith [co, it, h1, h2]
  rw [enumI_range]
  refine ws_lst (xs := List.range xs.length) (f := fun i : Nat => D.tup [.int i, xs.getD i .non]) (fun i L s' => ∃ y2 y3, L = [some (.int n), some (.lst xs), y2, y3] ∧ s' = s ∧ i ≤ A.length) ⟨_, _, rfl, rfl, Nat.zero_le _⟩ ?_ ?_
  · rintro i hi L s' ⟨y2, y3, rfl, rfl, hiA⟩
    rw [List.getElem_range]
    rcases Nat.lt_or_ge i A.length with h | h
    · obtain ⟨x, e, hx⟩ := ga i h
      have bt := between_int (c := c) (i := (x : Int)) (lo := 0) (hi := (n : Int) - 1) (by omega) (by omega) s'
      rw [e]
      simp_arith [bt]
      exact ⟨_, _, rfl, by omega⟩
    · have e : i = A.length := by omega
      subst e
      rw [gbb]
      simp_arith [between_ok hb, hb2]
  · rintro L s' ⟨y2, y3, rfl, rfl, hiA⟩
    rw [List.length_range] at hiA
    omega
/-! the fault in general -/
noncomputable def fX (n : Int) (src : Option (List Nat)) (xs : List D) : Option (String × Int) := match src with
  | none => plnX n xs
  | some ss => lplX n ss.length xs
theorem src_nI (ss : List Nat) : ss.map nI = (ss.map fun (x : Nat) => (x : Int)).map D.int := by
  rw [List.map_map]
  rfl
theorem srcs_ok {n : Nat} {ss : List Nat} (h : 2 ≤ n ∧ n ≤ 40 ∧ 1 ≤ ss.length ∧ ss.length ≤ 40 ∧ ∀ x ∈ ss, x < n) {sd : D} {rr : Option (Nat × List D)} (hq : Sq s sd (ss.map nI) rr) : G_checked_sources c [.int n, sd] s = .ok (.lst (ss.map nI)) s := by
  rw [src_nI] at hq ⊢
  exact sources_ok h.1 h.2.1 (by rw [List.length_map]; exact h.2.2.1) (by rw [List.length_map]; exact h.2.2.2.1) (fun x hx => by
    obtain ⟨y, hy, rfl⟩ := List.mem_map.mp hx
    have := h.2.2.2.2 y hy
    omega) hq
noncomputable def SrcOk (n : Nat) (src : Option (List Nat)) : Prop := 1 ≤ n ∧ n ≤ 100 ∧ ∀ ss, src = some ss → 2 ≤ n ∧ n ≤ 40 ∧ 1 ≤ ss.length ∧ ss.length ≤ 40 ∧ ∀ x ∈ ss, x < n
noncomputable def SrcAt (s : S) (src : Option (List Nat)) (sd : D) : Prop := match src with
  | none => sd = .non
  | some ss => dIs false s sd .non = some (.bl false) ∧ ∃ rr, Sq s sd (ss.map nI) rr
theorem wr_plan {m d nd sd : D} {w : String} {i : Int} (h : (sd = .non ∧ (∃ x, G_checked_count c [nd, .int 1, .int 100] s = .ok x s) ∧ G_plan_fault_texts c [nd, d] s = .ok (.tup [.str w, .int i]) s) ∨ ∃ (k : Nat) (xs : List D), xs.length = k ∧ dIs false s sd .non = some (.bl false) ∧ G_checked_sources c [nd, sd] s = .ok (.lst xs) s ∧ G_letters_plan_fault c [nd, .int k, d] s = .ok (.tup [.str w, .int i]) s) : G_write_sheet c [m, nd, d, sd] s = .ex c.InvalidPlan ["at", "why"] [.int i, .str w] s := by
  have i1 : ∀ s, dIs true s (.tup [.str w, .int i]) .non = some (.bl true) := fun _ => rfl
  have x0 : ∀ s, dIx s (.tup [.str w, .int i]) (.int 0) = some (.str w) := fun s => it0 ..
  have x1 : ∀ s, dIx s (.tup [.str w, .int i]) (.int 1) = some (.int i) := fun s => it1 ..
  apply eq_ex
  unfold G_write_sheet
  rw [w_pure]
  rcases h with ⟨rfl, ⟨x, h1⟩, h2⟩ | ⟨k, xs, rfl, h0, h1, h2⟩
  · simp_arith [is_nn, h1, h2, i1, x0, x1]
    simp [D.bels, D.bel]
  · have ln : ∀ s, bLen s [.lst xs] = some (.int xs.length) := fun _ => rfl
    simp_arith [h0, h1, h2, ln, i1, x0, x1]
    simp [D.bels, D.bel]
theorem ans_any (hc : OkC c) (hM : M.Ok) {n : Nat} {src : Option (List Nat)} (hS : SrcOk n src) (hs : ∀ o ∈ s, PurO o) {sd : D} (hA : SrcAt s src sd) {xs : List D} {sq : D} {rr : Option (Nat × List D)} (hq : Sq s sq xs rr) (hr : ∀ x ∈ xs, Rowy c x) (hl : xs.length ≤ 400) :
    (∃ w i, fX n src xs = some (w, i) ∧ G__law_answer c [M.d c, .int n, sq, sd] s = .ok (.tup [.str "plan", .str w, .int i]) s) ∨ (fX n src xs = none ∧ ∃ ws, xs = ws.map rowD ∧ RowsOk (wdN src) ws ∧ G_write_sheet c [M.d c, .int n, sq, sd] s = .ok (dS (sheetL (linesL (mcN M) n src ws))) s) := by
  obtain ⟨n0, n1, hS⟩ := hS
  have co := fun s => count_ok (c := c) (show (1 : Int) ≤ n by omega) (show (n : Int) ≤ 100 by omega) s
  cases src with
  | none =>
    have hA : sd = .non := hA
    subst hA
    have hp := plan_any (c := c) (n := (n : Int)) hl hq hr
    cases e : plnX n xs with
    | some x =>
      obtain ⟨w, i⟩ := x
      rw [e] at hp
      exact .inl ⟨w, i, e, ans_plan hc (wr_plan (.inl ⟨rfl, ⟨_, co s⟩, hp⟩))⟩
    | none =>
      rw [e] at hp
      obtain ⟨ws, rfl, hw⟩ := pln_none (by omega) (by omega) e
      exact .inr ⟨e, ws, rfl, hw, sheet_core hM (by omega) hw (by decide) (src := none) (fun ss e => by cases e) hs hq (.inl ⟨rfl, rfl, co, hp⟩)⟩
  | some ss =>
    obtain ⟨h0, rs, hqs⟩ := hA
    have h5 := hS ss rfl
    have hp := lplan_any (c := c) (n := (n : Int)) (many := (ss.length : Int)) (by omega) hq hr
    have hso := srcs_ok (c := c) h5 hqs
    cases e : lplX n ss.length xs with
    | some x =>
      obtain ⟨w, i⟩ := x
      rw [e] at hp
      exact .inl ⟨w, i, e, ans_plan hc (wr_plan (.inr ⟨ss.length, ss.map nI, List.length_map _, h0, hso, hp⟩))⟩
    | none =>
      rw [e] at hp
      obtain ⟨ws, rfl, hw⟩ := lpl_none (by omega) (by omega) (by omega) e
      exact .inr ⟨e, ws, rfl, hw, sheet_core hM (by omega) hw (by decide) (src := some ss) (fun ss' e => by
        cases e
        exact ⟨h5.2.2.2.1, fun x hx => by have := h5.2.2.2.2 x hx; omega⟩) hs hq (.inr ⟨ss, rfl, h0, hso, hp⟩)⟩
/-! the law's own reading -/
noncomputable def duD : Option (String × Int) → D
  | none => .non
  | some (w, i) => .tup [.str "plan", .str w, .int i]
noncomputable def pDu (least n : Int) (zs : List (Int × Int)) (i : Nat) : Bool := !(decide (0 ≤ (zs.getD i (0, 0)).1) && decide ((zs.getD i (0, 0)).1 < n)) || (!(decide (least ≤ (zs.getD i (0, 0)).2) && decide ((zs.getD i (0, 0)).2 < n)) || decide ((zs.getD i (0, 0)).1 = (zs.getD i (0, 0)).2))
theorem hdue_ok {n least : Int} {xs : List D} (hl : xs.length ≤ 2000) {zs : List (Int × Int)} (hz : zs.length = xs.length) (hx : ∀ i (h : i < xs.length) s, dSl s xs[i] (some (-3)) (some (-1)) = some (.tup [.int (zs.getD i (0, 0)).1, .int (zs.getD i (0, 0)).2])) : G__law_hands_due c [.lst xs, .int n, .int least] s = .ok (duD ((fst1 (pDu least n zs) xs.length).map fun (i : Nat) => ("hand", (i : Int)))) s := by
  have ln : ∀ s, bLen s [.lst xs] = some (.int xs.length) := fun _ => rfl
  apply eq_ok
  unfold G__law_hands_due
  simp_arith [ln]
  rw [rng1 (by omega) (by omega), w_some, Int.toNat_natCast]
  refine ws_rng (fun i L s' => ∃ y3 y4 y5, L = [some (.lst xs), some (.int n), some (.int least), y3, y4, y5] ∧ s' = s ∧ ∀ j, j < i → pDu least n zs j = false) ⟨_, _, _, rfl, rfl, fun j h => by omega⟩ ?_ ?_
  · rintro i L s' hi ⟨y3, y4, y5, rfl, rfl, hb⟩
    have hx' := hx i hi
    have xi : dIx s' (.lst xs) (.int i) = some xs[i] := by
      rw [dIx_lst, atI_in (by omega) (by omega), Int.toNat_natCast, List.getElem?_eq_getElem hi]
    have nxt : pDu least n zs i = false → ∀ j, j < i + 1 → pDu least n zs j = false := nx_lt hb
    have ret : pDu least n zs i = true → duD ((fst1 (pDu least n zs) xs.length).map fun (i : Nat) => ("hand", (i : Int))) = .tup [.str "plan", .str "hand", .int i] := fun hp => by
      rw [fst1_some hp hb hi]
      rfl
    have pdef : pDu least n zs i = (!(decide (0 ≤ (zs.getD i (0, 0)).1) && decide ((zs.getD i (0, 0)).1 < n)) || (!(decide (least ≤ (zs.getD i (0, 0)).2) && decide ((zs.getD i (0, 0)).2 < n)) || decide ((zs.getD i (0, 0)).1 = (zs.getD i (0, 0)).2))) := rfl
    generalize zs.getD i (0, 0) = z at *
    obtain ⟨a, b⟩ := z
    generalize xs[i] = x at *
    dsimp only at *
    by_cases h1 : a < 0
    · simp_arith [xi, hx', h1]
      exact (ret (by rw [pdef]; simp; omega)).symm
    · by_cases h2 : n ≤ a
      · simp_arith [xi, hx', h1, h2]
        exact (ret (by rw [pdef]; simp; omega)).symm
      · by_cases h3 : b < least
        · simp_arith [xi, hx', h1, h2, h3]
          exact (ret (by rw [pdef]; simp; omega)).symm
        · by_cases h4 : n ≤ b
          · simp_arith [xi, hx', h1, h2, h3, h4]
            exact (ret (by rw [pdef]; simp; omega)).symm
          · by_cases h5 : a = b
            · simp_arith [xi, hx', h1, h2, h3, h4, eq_true h5]
              exact (ret (by rw [pdef]; simp; omega)).symm
            · simp_arith [xi, hx', h1, h2, h3, h4, h5]
              exact ⟨_, _, _, rfl, nxt (by rw [pdef]; simp; omega)⟩
  · rintro L s' ⟨y3, y4, y5, rfl, rfl, hb⟩
    simp_arith
    rw [fst1_none.mpr hb]
    rfl
theorem fst1_congr {p q : Nat → Bool} : ∀ {k : Nat}, (∀ i, i < k → p i = q i) → fst1 p k = fst1 q k
  | 0, _ => rfl
  | k + 1, h => by
    rw [fst1, fst1, fst1_congr (k := k) fun i hi => h i (by omega), h k (by omega)]
theorem rdue_ok {n : Nat} {src : Option (List Nat)} {xs : List D} (hs : ∀ o ∈ s, PurO o) (hr : ∀ x ∈ xs, Rowy c x) (hl : xs.length ≤ 400) (hm : ltN src ≤ 1000) : G__law_rows_due c [.lst xs, .int n, srcD src] s = .ok (duD (fX n src xs)) s := by
  have tn : ∀ (i : Int) s, dIs true s (.tup [.str "form", .int i]) .non = some (.bl true) := fun _ _ => rfl
  have x0 : ∀ (i : Int) s, dIx s (.tup [.str "form", .int i]) (.int 0) = some (.str "form") := fun i s => it0 ..
  have x1 : ∀ (i : Int) s, dIx s (.tup [.str "form", .int i]) (.int 1) = some (.int i) := fun i s => it1 ..
  have hH := fun {n least : Int} {xs : List D} (hl : xs.length ≤ 2000) {zs : List (Int × Int)} (hz : zs.length = xs.length) (hx : ∀ i (h : i < xs.length) s, dSl s xs[i] (some (-3)) (some (-1)) = some (.tup [.int (zs.getD i (0, 0)).1, .int (zs.getD i (0, 0)).2])) s => hdue_ok (c := c) (s := s) (n := n) (least := least) hl hz hx
  apply eq_ok
  unfold G__law_rows_due
  rw [eForm]
  generalize G__law_hands_due c = hG at *
  cases src with
  | none =>
    have ef := formG_any (c := c) (w := 3) (most := 400) (by omega) hl (by omega) hs (sq_lst s xs) hr
    have i0 : ∀ s, dIs false s (srcD none) .non = some (.bl true) := fun _ => rfl
    rw [show fX n none xs = plnX n xs from rfl]
    cases e1 : fst1 (pOdd 3 xs) xs.length with
    | some i =>
      have ex : plnX n xs = some ("form", (i : Int)) := by
        unfold plnX
        rw [e1]
      rw [e1] at ef
      have ef : formG c [.lst xs, .int 3, .int 400] s = .ok (.tup [.str "form", .int i]) s := ef
      rw [ex]
      simp_arith [i0, ef, tn, x0, x1]
      rfl
    | none =>
      have ex : plnX n xs = (fst1 (pHand n (rwsO xs)) xs.length).map fun (i : Nat) => ("hand", (i : Int)) := by
        unfold plnX
        rw [e1]
      rw [e1] at ef
      have ef : formG c [.lst xs, .int 3, .int 400] s = .ok .non s := ef
      obtain ⟨e, _⟩ := odd_none e1
      have lz := rwsO_len xs
      have hh := hH (n := (n : Int)) (least := 1) (xs := xs) (by omega) (zs := (rwsO xs).map fun z => (z.1, z.2.1)) (by rw [List.length_map, lz]) (fun i hi s => by
        have e2 : xs[i] = rwT (rAt (rwsO xs) i) := by
          have hi' : i < (rwsO xs).length := by omega
          rw [rAt_eq hi']
          have : xs[i]? = ((rwsO xs).map rwT)[i]? := by rw [← e]
          rw [List.getElem?_eq_getElem hi, List.getElem?_map, List.getElem?_eq_getElem hi'] at this
          exact Option.some.inj this
        have e3 : ((rwsO xs).map fun z => (z.1, z.2.1)).getD i (0, 0) = ((rAt (rwsO xs) i).1, (rAt (rwsO xs) i).2.1) := by
          have hi' : i < (rwsO xs).length := by omega
          rw [rAt_eq hi', List.getD_eq_getElem?_getD, List.getElem?_map, List.getElem?_eq_getElem hi']
          rfl
        rw [e2, e3]
        rfl) s
      have ec : fst1 (pDu 1 n ((rwsO xs).map fun z => (z.1, z.2.1))) xs.length = fst1 (pHand n (rwsO xs)) xs.length := fst1_congr fun i hi => by
        have e3 : ((rwsO xs).map fun z => (z.1, z.2.1)).getD i (0, 0) = ((rAt (rwsO xs) i).1, (rAt (rwsO xs) i).2.1) := by
          have hi' : i < (rwsO xs).length := by omega
          rw [rAt_eq hi', List.getD_eq_getElem?_getD, List.getElem?_map, List.getElem?_eq_getElem hi']
          rfl
        unfold pDu pHand
        rw [e3]
        have : decide (1 ≤ (rAt (rwsO xs) i).2.1) = decide (0 < (rAt (rwsO xs) i).2.1) := decide_eq_decide.mpr (by omega)
        dsimp only
        rw [this]
      rw [ec] at hh
      rw [ex]
      simp_arith [i0, ef, isn_nn, hh]
  | some ss =>
    have ef := formG_any (c := c) (w := 4) (most := 2000) (by omega) (by omega) (by omega) hs (sq_lst s xs) hr
    have i0 : ∀ s, dIs false s (srcD (some ss)) .non = some (.bl false) := fun _ => rfl
    have lss : ∀ s, bLen s [srcD (some ss)] = some (.int ss.length) := fun s => by
      show some (D.int _) = _
      rw [List.length_map]
    rw [show fX n (some ss) xs = lplX n ss.length xs from rfl]
    cases e1 : fst1 (pOdd 4 xs) xs.length with
    | some i =>
      have ex : lplX n ss.length xs = some ("form", (i : Int)) := by
        unfold lplX
        rw [e1]
      rw [e1] at ef
      have ef : formG c [.lst xs, .int 4, .int 2000] s = .ok (.tup [.str "form", .int i]) s := ef
      rw [ex]
      simp_arith [i0, ef, tn, x0, x1]
      rfl
    | none =>
      have ex : lplX n ss.length xs = numF n ss.length (lwsO xs) := by
        unfold lplX
        rw [e1]
      rw [e1] at ef
      have ef : formG c [.lst xs, .int 4, .int 2000] s = .ok .non s := ef
      obtain ⟨e, _⟩ := odd_none4 e1
      have lz := lwsO_len xs
      have e2 : ∀ i (hi : i < xs.length), xs[i] = lwT (r4 (lwsO xs) i) := fun i hi => by
        have hi' : i < (lwsO xs).length := by omega
        rw [r4_eq hi']
        have : xs[i]? = ((lwsO xs).map lwT)[i]? := by rw [← e]
        rw [List.getElem?_eq_getElem hi, List.getElem?_map, List.getElem?_eq_getElem hi'] at this
        exact Option.some.inj this
      have e3 : ∀ i (hi : i < xs.length), ((lwsO xs).map fun z => (z.2.1, z.2.2.1)).getD i (0, 0) = ((r4 (lwsO xs) i).2.1, (r4 (lwsO xs) i).2.2.1) := fun i hi => by
        have hi' : i < (lwsO xs).length := by omega
        rw [r4_eq hi', List.getD_eq_getElem?_getD, List.getElem?_map, List.getElem?_eq_getElem hi']
        rfl
      have hh := hH (n := (n : Int)) (least := 0) (xs := xs) (by omega) (zs := (lwsO xs).map fun z => (z.2.1, z.2.2.1)) (by rw [List.length_map, lz]) (fun i hi s => by
        rw [e2 i hi, e3 i hi]
        rfl) s
      have ec : fst1 (pDu 0 n ((lwsO xs).map fun z => (z.2.1, z.2.2.1))) xs.length = fst1 (pHnd n (lwsO xs)) xs.length := fst1_congr fun i hi => by
        unfold pDu pHnd
        rw [e3 i hi]
      rw [ec] at hh
      have ln : ∀ s, bLen s [.lst xs] = some (.int xs.length) := fun _ => rfl
      rw [ex]
      simp_arith [i0, ef, isn_nn, ln]
      rw [rng1 (by omega) (by omega), w_some, Int.toNat_natCast]
      refine ws_rng (fun i L s' => ∃ y4, L = [some (.lst xs), some (.int n), some (srcD (some ss)), some .non, y4] ∧ s' = s ∧ ∀ j, j < i → pLet ss.length (lwsO xs) j = false) ⟨_, rfl, rfl, fun j h => by omega⟩ ?_ ?_
      · rintro i L s' hi ⟨y4, rfl, rfl, hb⟩
        have xi : dIx s' (.lst xs) (.int i) = some (lwT (r4 (lwsO xs) i)) := by
          rw [dIx_lst, atI_in (by omega) (by omega), Int.toNat_natCast, List.getElem?_eq_getElem hi, e2 i hi]
        have y0 : ∀ s, dIx s (lwT (r4 (lwsO xs) i)) (.int 0) = some (.int (r4 (lwsO xs) i).1) := fun s => rfl
        have nxt : pLet ss.length (lwsO xs) i = false → ∀ j, j < i + 1 → pLet ss.length (lwsO xs) j = false := nx_lt hb
        have ret : pLet ss.length (lwsO xs) i = true → duD (numF n ss.length (lwsO xs)) = .tup [.str "plan", .str "letter", .int i] := fun hp => by
          unfold numF
          rw [fst1_some hp hb (by omega)]
          rfl
        have pdef : pLet ss.length (lwsO xs) i = !(decide (0 ≤ (r4 (lwsO xs) i).1) && decide ((r4 (lwsO xs) i).1 < ss.length)) := rfl
        generalize (r4 (lwsO xs) i).1 = a at *
        by_cases h1 : a < 0
        · simp_arith [xi, y0, h1]
          exact (ret (by rw [pdef]; simp; omega)).symm
        · by_cases h2 : (ss.length : Int) ≤ a
          · simp_arith [xi, y0, h1, lss, h2]
            exact (ret (by rw [pdef]; simp; omega)).symm
          · simp_arith [xi, y0, h1, lss, h2]
            exact ⟨_, rfl, nxt (by rw [pdef]; simp; omega)⟩
      · rintro L s' ⟨y4, rfl, rfl, hb⟩
        have en : numF n ss.length (lwsO xs) = (fst1 (pHnd n (lwsO xs)) xs.length).map fun (i : Nat) => ("hand", (i : Int)) := by
          unfold numF
          rw [lz, fst1_none.mpr hb]
        rw [en]
        simp_arith [hh]
end Lw

/-! the law's own reading of a plan's faults, laws k23 k24 k33: _law_row, _law_fault = fltX -/
namespace Pg
open PySem L2 SI Mt
--TAKE
--END TAKE
variable {c : Cl} {M : Mc} {s : S} {sq : D} {rr : Option (Nat × List D)} {xs : List D}
end Pg

/-! a drawn plan as a list that the caller changes -/
namespace Pg
open PySem L2 SI Mt
variable {c : Cl} {M : Mc}
variable {v : SrcV} {k : Nat} {r : S} {Q : Cn (D → S → Prop)} {E : Cn (Addr → List Str → List D → S → Prop)}
end Pg

/-! two places of lists set side by side -/
namespace SI
open PySem PySem.Spec PyProof.Rows L2
end SI

/-! tuple * int -/
namespace SI
open PySem PySem.Spec PyProof.Rows L2
variable {X : Cx} {W : WX} {a b : Expr} {f g : F D} {pos : Pos}
end SI

namespace SI
open PySem L2
end SI

/-! spoilt plans, laws k23 k33 -/
namespace Pg
open PySem L2 SI Mt
--TAKE
--END TAKE
variable {c : Cl} {M : Mc} {v : SrcV} {k m : Nat} {r : S} {xs : List D} {Q : Cn (D → S → Prop)} {E : Cn (Addr → List Str → List D → S → Prop)}
/-- what stands among the rows -/
structure Rwi (c : Cl) (x : D) : Prop where
  ry : Rowy c x
  pu : Pur x
  eq : EqP2 3 x
theorem cut_d' (xs : List D) (q : Nat) : cutD xs (some ((q : Int) + 1)) none = xs.drop (q + 1) := by
  rw [show ((q : Int) + 1) = ((q + 1 : Nat) : Int) by omega]
  unfold cutD
  rw [HT.sIx_none, HT.sIx_nat]
  rcases Nat.le_total (q + 1) xs.length with h | h
  · rw [show min (q + 1) xs.length = q + 1 by omega, List.take_of_length_le (by rw [List.length_drop]; omega)]
  · rw [show min (q + 1) xs.length = xs.length by omega, List.drop_eq_nil_of_le (Nat.le_refl _), List.drop_eq_nil_of_le h, List.take_nil]
end Pg

/-! law k67 -/
namespace Lw
open PySem L2 SI Pg Mt
variable {c : Cl} {M : Mc} {v : SrcV} {k : Nat} {r : S} {Q : Cn (D → S → Prop)} {E : Cn (Addr → List Str → List D → S → Prop)}
theorem rowD_ints (w : List Nat) : rowD w = .tup ((w.map fun (x : Nat) => (x : Int)).map D.int) := by
  unfold rowD
  rw [List.map_map]
  rfl
theorem rowD_odd {w : List Nat} (h : w.length ≤ 1000) : Odd c (rowD w) := by
  rw [rowD_ints]
  exact odd_ints (by rw [List.length_map]; exact h)
theorem good_none {n : Nat} {src : Option (List Nat)} {ws : List (List Nat)} (h : ∀ w ∈ ws, RowG n src w) : fX n src (ws.map rowD) = none := by
  cases src with
  | none =>
    show plnX n (ws.map rowD) = none
    have e1 : fst1 (pOdd 3 (ws.map rowD)) (ws.map rowD).length = none := fst1_none.mpr fun j hj => by
      rw [List.length_map] at hj
      obtain ⟨a, b, t, e, h1, h2, h3, h4, h5⟩ := h _ (List.getElem_mem hj)
      have ei : (ws.map rowD).getD j .non = rowD ws[j] := by
        rw [List.getD_eq_getElem?_getD, List.getElem?_map, List.getElem?_eq_getElem hj]
        rfl
      unfold pOdd
      rw [ei, e]
      show (!(decide (3 = 3) && ((true && (true && (true && true))) && gb (.int t) 0 1000000000000000))) = false
      rw [gb_in (by omega) (by omega)]
      rfl
    unfold plnX
    rw [e1]
    have e2 : fst1 (pHand n (rwsO (ws.map rowD))) (ws.map rowD).length = none := fst1_none.mpr fun j hj => by
      rw [List.length_map] at hj
      obtain ⟨a, b, t, e, h1, h2, h3, h4, h5⟩ := h _ (List.getElem_mem hj)
      have ei : rAt (rwsO (ws.map rowD)) j = ((a : Int), (b : Int), (t : Int)) := by
        rw [rAt_eq (by rw [rwsO_len, List.length_map]; exact hj)]
        unfold rwsO
        rw [List.getElem_map, List.getElem_map, e]
        rfl
      unfold pHand
      rw [ei]
      simp
      omega
    rw [e2]
    rfl
  | some ss =>
    show lplX n ss.length (ws.map rowD) = none
    have e1 : fst1 (pOdd 4 (ws.map rowD)) (ws.map rowD).length = none := fst1_none.mpr fun j hj => by
      rw [List.length_map] at hj
      obtain ⟨l, a, b, t, e, h1, h2, h3, h4, h5⟩ := h _ (List.getElem_mem hj)
      have ei : (ws.map rowD).getD j .non = rowD ws[j] := by
        rw [List.getD_eq_getElem?_getD, List.getElem?_map, List.getElem?_eq_getElem hj]
        rfl
      unfold pOdd
      rw [ei, e]
      show (!(decide (4 = 4) && ((true && (true && (true && (true && true)))) && gb (.int t) 0 1000000000000000))) = false
      rw [gb_in (by omega) (by omega)]
      rfl
    unfold lplX numF
    rw [e1]
    have e0 : ∀ j (hj : j < ws.length), ∃ l a b t : Nat, r4 (lwsO (ws.map rowD)) j = ((l : Int), (a : Int), (b : Int), (t : Int)) ∧ l < ss.length ∧ a < n ∧ b < n ∧ a ≠ b := fun j hj => by
      obtain ⟨l, a, b, t, e, h1, h2, h3, h4, h5⟩ := h _ (List.getElem_mem hj)
      refine ⟨l, a, b, t, ?_, h1, h2, h3, h4⟩
      rw [r4_eq (by rw [lwsO_len, List.length_map]; exact hj)]
      unfold lwsO
      rw [List.getElem_map, List.getElem_map, e]
      rfl
    have lz : (lwsO (ws.map rowD)).length = ws.length := by rw [lwsO_len, List.length_map]
    have e2 : fst1 (pLet ss.length (lwsO (ws.map rowD))) (lwsO (ws.map rowD)).length = none := fst1_none.mpr fun j hj => by
      obtain ⟨l, a, b, t, e, h1, h2, h3, h4⟩ := e0 j (by omega)
      unfold pLet
      rw [e]
      simp
      omega
    have e3 : fst1 (pHnd n (lwsO (ws.map rowD))) (lwsO (ws.map rowD)).length = none := fst1_none.mpr fun j hj => by
      obtain ⟨l, a, b, t, e, h1, h2, h3, h4⟩ := e0 j (by omega)
      unfold pHnd
      rw [e]
      simp
      omega
    rw [e2, e3]
    rfl
/-- a wrong number of hands -/
structure CB (c : Cl) (d : D) : Prop where
  th : Th c d
  g1 : gb d 1 100 = false
  g2 : gb d 2 40 = false
theorem src_at (s : S) (src : Option (List Nat)) : SrcAt s src (srcD src) := by
  cases src with
  | none => rfl
  | some ss => exact ⟨rfl, none, sq_lst ..⟩
theorem src_h0 (s : S) (src : Option (List Nat)) : srcD src = .non ∨ dIs false s (srcD src) .non = some (.bl false) := by
  cases src with
  | none => exact .inl rfl
  | some ss => exact .inr rfl
/-- sources that are none -/
noncomputable def SB (c : Cl) (n : Nat) (i : Int) (d : D) : Prop := ∀ s : S, dIs false s d .non = some (.bl false) ∧ G_checked_sources c [.int n, d] s = .ex c.InvalidRows ["at"] [.int i] s
theorem sb_ans (hc : OkC c) {n : Nat} {i : Int} {d : D} (h : SB c n i d) (m y : D) (s : S) : G__law_answer c [m, .int n, y, d] s = .ok (.tup [.str "rows", .int i]) s := ans_rows hc (wr_src (h s).1 rfl (h s).2)
theorem refd_wp (hc : OkC c) {n : Nat} {src : Option (List Nat)} (hS : SrcOk n src) {xs : List D} (ok : v.Ok k) (hk : k + 50 < 2 ^ 60) (hr : ∀ o ∈ r, PurO o) {m : D} (h : ∀ v', SrcV.Ok v' (k + 50) → Q (.bl true) (v'.o :: r)) : @WR _ (G__law_refused c [.ref 0, m, .int n, .lst xs, srcD src] (v.o :: r)) Q E := by
  have p17 : ∀ s, dPow s (.int 10) (.int 17) = some (.int 100000000000000000) := fun s => pow_lit rfl rfl
  have aC := fun {nd sd y : D} {s : S} (h : CB c nd) (h0 : sd = .non ∨ dIs false s sd .non = some (.bl false)) => ans_cnt (c := c) (x := m) (y := nd) (z := y) (w := sd) (s := s) (wr_cnt h.th h.g1 h.g2 h0)
  have aC2 : ∀ {i : Int} {s : S}, gb (.int i) 2 40 = false → G__law_answer c [m, .int i, .lst xs, .lst [.int 0]] s = .ok (.tup [.str "count"]) s := fun hg => ans_cnt (wr_src rfl rfl (src_cnt (.int _) hg))
  have aR := fun {n : Nat} {i : Int} {d : D} (h : SB c n i d) (y : D) (s : S) => sb_ans hc h m y s
  have ne : ∀ s, dEqD true s (.tup [.str "count"]) (.tup [.str "count"]) = some (.bl false) := fun s => eq_self (n := 3) (by decide +kernel) (by decide)
  have sr : ∀ i s, sameN c 24 [.tup [.str "rows", .int i], .tup [.str "rows", .int i]] s = .ok (.bl true) s := fun i s => same_refl 24 _ (by
    have : PyData.strOk ("rows" : Str) = true := by decide +kernel
    show (decide (2 ≤ 1000000) && (PyData.strOk ("rows" : Str) && (true && true))) = true
    rw [this]
    rfl) s
  unfold G__law_refused
  rw [eDraw, eWide, eSm]
  generalize G__law_answer c = aG at *
  generalize sameN c 24 = sG at *
  simp_arith [p17]
  refine wide_wp ok (by omega) (by decide) fun a v1 a0 a1 ok1 => ?_
  simp_arith
  refine drawB_wp ok1 (by omega) (by decide) (by decide +kernel) fun b v2 b0 b1 ok2 => ?_
  simp_arith
  refine wo_pick (CB c) b0 (by simpa using b1) ?_ fun nd hnd => ?_
  · intro x hx
    simp only [List.mem_cons, List.not_mem_nil, or_false] at hx
    rcases hx with rfl | rfl | rfl | rfl | rfl | rfl | rfl | rfl
    · exact ⟨.int _, rfl, rfl⟩
    · exact ⟨.int _, rfl, rfl⟩
    · exact ⟨.int _, rfl, rfl⟩
    · exact ⟨.ni (ni_bl _), rfl, rfl⟩
    · exact ⟨.ni ni_non, rfl, rfl⟩
    · exact ⟨.ni (ni_str _), rfl, rfl⟩
    · exact ⟨.ni (ni_lst _), rfl, rfl⟩
    · refine ⟨.int _, ?_, ?_⟩
      · show (decide (1 ≤ 101 + a) && decide (101 + a ≤ 100)) = false
        rw [decide_eq_false (p := 101 + a ≤ 100) (by omega), Bool.and_false]
      · show (decide (2 ≤ 101 + a) && decide (101 + a ≤ 40)) = false
        rw [decide_eq_false (p := 101 + a ≤ 40) (by omega), Bool.and_false]
  have a1 := fun s => aC (y := .lst xs) hnd (src_h0 s src)
  have a2 := fun s => aC (s := s) (y := .non) (sd := .lst [nd]) hnd (.inr rfl)
  simp_arith [a1, a2, ne]
  refine drawB_wp ok2 (by omega) (by decide) (by decide +kernel) fun e v3 e0 e1 ok3 => ?_
  simp_arith
  refine wo_pick (fun d => ∃ i : Int, d = .int i ∧ gb (.int i) 2 40 = false) e0 (by simpa using e1) ?_ ?_
  · intro x hx
    simp only [List.mem_cons, List.not_mem_nil, or_false] at hx
    rcases hx with rfl | rfl | rfl <;> exact ⟨_, rfl, rfl⟩
  rintro _ ⟨i, rfl, hi⟩
  have a3 := fun s => aC2 (i := i) (s := s) hi
  obtain ⟨n0, n1, hS⟩ := hS
  cases src with
  | none =>
    simp_arith [a3, ne, show ∀ s, dIs false s (srcD none) .non = some (.bl true) from fun _ => rfl]
    exact h v3 (ok3.mono (by omega))
  | some ss =>
    obtain ⟨s2, s40, l1, l40, hx⟩ := hS ss rfl
    have lss : ∀ s, bLen s [srcD (some ss)] = some (.int ss.length) := fun s => by
      show some (D.int _) = _
      rw [List.length_map]
    simp_arith [a3, ne, show ∀ s, dIs false s (srcD (some ss)) .non = some (.bl false) from fun _ => rfl, lss]
    refine drawB_wp ok3 (by omega) (by omega) (lim_n (n := ss.length) (by omega)) fun q v4 q0 q1 ok4 => ?_
    obtain ⟨q, rfl⟩ := Int.eq_ofNat_of_zero_le q0
    have sl1 : ∀ s, dSl s (srcD (some ss)) none (some (q : Int)) = some (.lst ((ss.take q).map nI)) := fun s => by
      show some (D.lst (cutD (ss.map nI) none (some (q : Int)))) = _
      rw [cut_t, List.map_take]
    have sl2 : ∀ s, dSl s (srcD (some ss)) (some ((q : Int) + 1)) none = some (.lst ((ss.drop (q + 1)).map nI)) := fun s => by
      show some (D.lst (cutD (ss.map nI) (some ((q : Int) + 1)) none)) = _
      rw [cut_d', List.map_drop]
    simp_arith [sl1]
    refine drawB_wp ok4 (by omega) (by decide) (by decide +kernel) fun f v5 f0 f1 ok5 => ?_
    simp_arith
    refine wo_pick (fun d => Th c d ∧ gb d 0 (n - 1) = false) f0 (by simpa using f1) ?_ ?_
    · intro x hx
      simp only [List.mem_cons, List.not_mem_nil, or_false] at hx
      rcases hx with rfl | rfl | rfl | rfl | rfl
      · refine ⟨.int _, ?_⟩
        show (decide (0 ≤ (n : Int)) && decide ((n : Int) ≤ n - 1)) = false
        rw [decide_eq_false (p := (n : Int) ≤ n - 1) (by omega), Bool.and_false]
      · exact ⟨.int _, rfl⟩
      · exact ⟨.ni ni_non, rfl⟩
      · exact ⟨.ni (ni_bl _), rfl⟩
      · exact ⟨.ni (ni_str _), rfl⟩
    rintro bd ⟨hb1, hb2⟩
    have hsb : SB c n q (.lst ((ss.take q).map nI ++ [bd] ++ (ss.drop (q + 1)).map nI)) := fun s => ⟨rfl, by
      have := src_bad (c := c) (s := s) s2 s40 (A := ss.take q) (B := ss.drop (q + 1)) (fun x hx' => hx x (List.mem_of_mem_take hx')) hb1 hb2 (by rw [List.length_take, List.length_drop]; omega)
      rw [List.length_take, Nat.min_eq_left (by omega)] at this
      exact this⟩
    have q1' : ∀ s, dAdd s (.lst ((ss.take q).map nI)) (.lst [bd]) = some (.lst ((ss.take q).map nI ++ [bd])) := fun s => add_ll (by simp; omega)
    have q2' : ∀ s, dAdd s (.lst ((ss.take q).map nI ++ [bd])) (.lst ((ss.drop (q + 1)).map nI)) = some (.lst ((ss.take q).map nI ++ [bd] ++ (ss.drop (q + 1)).map nI)) := fun s => add_ll (by simp; omega)
    generalize (ss.take q).map nI ++ [bd] ++ (ss.drop (q + 1)).map nI = bl at *
    simp_arith [q1', sl2, q2']
    refine drawB_wp ok5 (by omega) (by decide) (by decide +kernel) fun g v6 g0 g1 ok6 => ?_
    simp_arith
    refine wo_pick (fun _ => True) g0 (by simpa using g1) (fun _ _ => trivial) fun y _ => ?_
    simp_arith [aR hsb, sr, w_dict0]
    have e41 : (41 : Int).toNat = 41 := rfl
    rw [rng1 (by omega) (by omega), w_some]
    obtain ⟨N, eN⟩ : ∃ N : Nat, N = (41 : Int).toNat := ⟨_, rfl⟩
    have hN : N = 41 := eN
    rw [← eN]
    refine lcp_all (List.range N) (fun i => D.int (0 + (i : Int))) (fun _ => D.int 0) rfl (fun acc => rfl) (by simp; omega) (pur_cons hr (pur_srcv v6)) (fun x _ => pur_int _) (fun x hx acc ha => by simp_arith [wipeD]) ?_
    have hZ : ((List.range N).map fun _ => D.int 0).length = 41 := by simp; omega
    generalize (List.range N).map (fun _ => D.int 0) = Z at *
    simp_arith
    refine drawB_wp ok6 (by omega) (by decide) (by decide +kernel) fun f v7 f0 f1 ok7 => ?_
    simp_arith
    refine wo_pick (SB c n (-1)) f0 (by simpa using f1) ?_ fun d hd => ?_
    · intro x hx
      simp only [List.mem_cons, List.not_mem_nil, or_false] at hx
      rcases hx with rfl | rfl | rfl | rfl | rfl | rfl | rfl
      · exact fun s => ⟨rfl, src_len s2 s40 (sq_lst s []) (.inl (by decide))⟩
      · exact fun s => ⟨rfl, src_len s2 s40 (sq_tup s []) (.inl (by decide))⟩
      · exact fun s => ⟨rfl, src_no s2 s40 fun _ => rfl⟩
      · exact fun s => ⟨rfl, src_no s2 s40 fun _ => rfl⟩
      · exact fun s => ⟨rfl, src_no s2 s40 fun _ => rfl⟩
      · exact fun s => ⟨rfl, src_len s2 s40 (sq_lst s Z) (.inr (by omega))⟩
      · exact fun s => ⟨rfl, src_no s2 s40 fun _ => rfl⟩
    simp_arith [aR hd, sr]
    exact h v7 (ok7.mono (by omega))
theorem row_dok (w : List Nat) : dOk 2 (rowD w) = true := by
  show (w.map nI).all (dOk 1) = true
  rw [List.all_eq_true]
  intro x hx
  obtain ⟨n, _, rfl⟩ := List.mem_map.mp hx
  rfl
theorem rows_dok (ws : List (List Nat)) : dOk 3 (.lst (ws.map rowD)) = true := by
  show (ws.map rowD).all (dOk 2) = true
  rw [List.all_eq_true]
  intro x hx
  obtain ⟨w, _, rfl⟩ := List.mem_map.mp hx
  exact row_dok w
theorem srcD_dok (src : Option (List Nat)) : dOk 3 (srcD src) = true := by
  cases src with
  | none => rfl
  | some ss =>
    show (ss.map nI).all (dOk 2) = true
    rw [List.all_eq_true]
    intro x hx
    obtain ⟨n, _, rfl⟩ := List.mem_map.mp hx
    rfl
theorem sheet_tok {M : Mc} {n : Nat} {src : Option (List Nat)} {ws : List (List Nat)} : TOk (sheetL (linesL (mcN M) n src ws)) := fun c hc => by
  rcases List.mem_append.mp hc with hc | hc
  · rcases joinL_mem hc with h | ⟨p, hp, h⟩
    · rw [List.mem_singleton.mp h]
      decide
    · unfold linesL at hp
      have hw : ∀ c ∈ wdL src, c < 1114112 := fun c hc => by
        unfold wdL at hc
        split at hc
        · revert c
          decide
        · revert c
          decide
      rcases List.mem_cons.mp hp with rfl | hp
      · exact rowL_tok (by decide) c h
      rcases List.mem_cons.mp hp with rfl | hp
      · exact rowL_tok (by decide) c h
      rcases List.mem_append.mp hp with hp | hp
      · obtain ⟨x, _, rfl⟩ := List.mem_map.mp hp
        exact rowL_tok (by decide) c h
      · obtain ⟨x, _, rfl⟩ := List.mem_map.mp hp
        exact rowL_tok hw c h
  · rw [List.mem_singleton.mp hc]
    decide
theorem sm_plan {w : String} (h : w = "form" ∨ w = "hand" ∨ w = "letter") {z : Int} : smOk 24 (.tup [.str "plan", .str w, .int z]) = true := by
  have h1 : PyData.strOk ("plan" : Str) = true := by decide +kernel
  have h2 : PyData.strOk (Str.ofString w) = true := by
    rcases h with rfl | rfl | rfl <;> decide +kernel
  show (decide (3 ≤ 1000000) && (PyData.strOk ("plan" : Str) && (PyData.strOk (Str.ofString w) && (true && true)))) = true
  rw [h1, h2]
  rfl
theorem ans_long (hc : OkC c) {n : Nat} {src : Option (List Nat)} (hS : SrcOk n src) {xs : List D} (hl : xs.length = 2001) {m : D} (s : S) : G__law_answer c [m, .int n, .lst xs, srcD src] s = .ok (.tup [.str "plan", .str "form", .int (-1)]) s := by
  obtain ⟨n0, n1, hS⟩ := hS
  have is1 : ∀ (w : String) (d : D) s, dIs true s (.tup [.str w, d]) .non = some (.bl true) := fun _ _ _ => rfl
  have is2 : ∀ (w : String) (d : D) s, dIs false s (.tup [.str w, d]) .non = some (.bl false) := fun _ _ _ => rfl
  cases src with
  | none =>
    have ef := frmR_long (c := c) (sq_lst s xs) 3 400 (by omega)
    refine ans_plan hc (wr_plan (.inl ⟨rfl, ⟨_, count_ok (by omega) (by omega) s⟩, ?_⟩))
    apply eq_ok
    unfold G_plan_fault_texts
    simp_arith [ef, is1]
  | some ss =>
    have ef := frmR_long (c := c) (sq_lst s xs) 4 2000 (by omega)
    have hso := srcs_ok (c := c) (hS ss rfl) (sq_lst s (ss.map nI))
    refine ans_plan hc (wr_plan (.inr ⟨ss.length, ss.map nI, List.length_map _, rfl, hso, ?_⟩))
    apply eq_ok
    unfold G_letters_plan_fault
    simp_arith [ef, is2]
theorem law_true (c : Cl) (hc : OkC c) (ns : List Int) (hl : ns.length ≤ 63) (hb : ∀ z ∈ ns, Builtin.Int.intBits z ≤ 1048576) : ∃ s', G_law c [.rdl (ns.map D.int)] [] = .ok (.bl true) s' := by
  suffices h : @WR _ (G_law c [.rdl (ns.map D.int)] []) ⟨fun d s' => d = .bl true⟩ ⟨nE⟩ by
    revert h
    generalize G_law c [.rdl (ns.map D.int)] [] = z
    intro h
    obtain ⟨a, s', h1, rfl⟩ := ex_ok h
    exact ⟨s', h1⟩
  have hCa : ∀ {v : SrcV} {k : Nat} {r : S} {Q : Cn (D → S → Prop)} {E : Cn (Addr → List Str → List D → S → Prop)} (ok : v.Ok k) (hk : k + 200000 < 2 ^ 59) (hr : ∀ o ∈ r, PurO o)
    (h : ∀ (M : Mc) (n : Nat) (src : Option (List Nat)) (ws : List (List Nat)) (v' : SrcV), CaseG M n src ws → v'.Ok (k + 1000) → Q (.tup [mcD M, .int n, srcD src, .lst (ws.map rowD)]) (v'.o :: r)), @WR _ (casTG [.ref 0] (v.o :: r)) Q E := fun ok hk hr h => casT_wp ok hk hr h
  have hMk := fun {M : Mc} (hM : M.Ok) s => mk_ok (c := c) hM s
  have hAn := fun {M : Mc} (hM : M.Ok) {n : Nat} {src : Option (List Nat)} (hS : SrcOk n src) {s : S} (hs : ∀ o ∈ s, PurO o) {sd : D} (hA : SrcAt s src sd) {xs : List D} {sq : D} {rr : Option (Nat × List D)} (hq : Sq s sq xs rr) (hr : ∀ x ∈ xs, Rowy c x) (hl : xs.length ≤ 400) => ans_any hc hM hS hs hA hq hr hl
  have hSh := fun {M : Mc} (hM : M.Ok) {n w : Nat} (hn : n ≤ 1000) {src : Option (List Nat)} (hs1 : ∀ ss, src = some ss → ss.length ≤ 40 ∧ ∀ x ∈ ss, x ≤ 1000) {ws : List (List Nat)} (hw : RowsOk w ws) (hw1 : 1 ≤ w) (hw4 : w ≤ 4) {s : S} (hs : ∀ o ∈ s, PurO o) => sheT_ok hM hn hs1 hw hw1 hw4 hs
  have hDu := fun {n : Nat} {src : Option (List Nat)} {xs : List D} {s : S} (hs : ∀ o ∈ s, PurO o) (hr : ∀ x ∈ xs, Rowy c x) (hl : xs.length ≤ 400) (hm : ltN src ≤ 1000) => rdue_ok (c := c) (n := n) (s := s) hs hr hl hm
  have hRf : ∀ {n : Nat} {src : Option (List Nat)} (hS : SrcOk n src) {xs : List D} {v : SrcV} {k : Nat} {r : S} {Q : Cn (D → S → Prop)} {E : Cn (Addr → List Str → List D → S → Prop)} (ok : v.Ok k) (hk : k + 50 < 2 ^ 60) (hr : ∀ o ∈ r, PurO o) {m : D} (h : ∀ v', SrcV.Ok v' (k + 50) → Q (.bl true) (v'.o :: r)), @WR _ (G__law_refused c [.ref 0, m, .int n, .lst xs, srcD src] (v.o :: r)) Q E := by
    intro n src hS xs v k r Q E ok hk hr m h
    exact refd_wp hc hS ok hk hr h
  have hSp : ∀ {w : Nat} (hw : w = 3 ∨ w = 4) {n : Nat} (hn : n ≤ 1000) {xs : List D} (hx : ∀ x ∈ xs, Odd c x) (hl : xs.length ≤ 3000) {v : SrcV} {k : Nat} {r : S} {Q : Cn (D → S → Prop)} {E : Cn (Addr → List Str → List D → S → Prop)} (ok : v.Ok k) (hk : k + 20 < 2 ^ 60) (hr : ∀ o ∈ r, PurO o)
    (h : ∀ ys v', (∀ y ∈ ys, Odd c y) → ys.length ≤ xs.length + 1 → SrcV.Ok v' (k + 10) → Q (.lst ys) (v'.o :: r)), @WR _ (spG c [.ref 0, .lst xs, .int w, .int n] (v.o :: r)) Q E := by
    intro w hw n hn xs hx hl v k r Q E ok hk hr h
    exact spo_wp hw hn hx hl ok hk hr h
  have hSr : ∀ {d : D}, smOk 24 d = true → ∀ s, sameN c 24 [d, d] s = .ok (.bl true) s := fun h s => same_refl 24 _ h s
  have hLg := fun {n : Nat} {src : Option (List Nat)} (hS : SrcOk n src) {xs : List D} (hl : xs.length = 2001) {m : D} (s : S) => ans_long hc hS hl (m := m) s
  have hWs := fun {d x y z w : D} {s : S} (e : G_write_sheet c [x, y, z, w] s = .ok d s) => ans_told e
  unfold G_law
  rw [eSm, eCase, eSheet, eSpo, eDraw]
  generalize casTG = CG at *
  generalize sheTG = SG at *
  generalize spG c = PG at *
  generalize sameN c 24 = MG at *
  generalize G__law_answer c = aG at *
  generalize G__law_rows_due c = dG at *
  generalize G__law_refused c = fG at *
  generalize G_write_sheet c = wG at *
  simp_arith [eSrc]
  refine src_wp hl hb fun v ok => ?_
  simp_arith
  refine hCa (r := []) ok (by omega) pur_nil fun M n src ws v1 hG ok1 => ?_
  obtain ⟨hM, n0, n1, hS, hw, lw⟩ := hG
  have m0 : ∀ s, dIx s (mcD M) (.int 0) = some (.int M.o) := fun s => it0 ..
  have m1 : ∀ s, dIx s (mcD M) (.int 1) = some (.int M.l) := fun s => it1 ..
  have m2 : ∀ s, dIx s (mcD M) (.int 2) = some (.int M.g) := fun s => it2 ..
  have lsG : ∀ s, bList s [.lst (ws.map rowD)] = some (.lst (ws.map rowD)) := fun _ => rfl
  simp_all_arith [m0, m1, m2, hMk hM, lsG]
  refine ws_cut (fun L s => L = [some (.rdl (ns.map D.int)), some (.ref 0), some (mcD M), some (.int n), some (srcD src), some (.lst (ws.map rowD)), some (M.d c), some (.lst (ws.map rowD)), some (srcD src), none, none, none, none, none, none, none, none] ∧ s = [v1.o]) ?_ ?_
  · cases src with
    | none =>
      simp_arith [show ∀ s, dIs true s (srcD none) .non = some (.bl false) from fun _ => rfl]
    | some ss =>
      simp_arith [show ∀ s, dIs true s (srcD (some ss)) .non = some (.bl true) from fun _ => rfl, show ∀ s, bList s [srcD (some ss)] = some (srcD (some ss)) from fun _ => rfl]
  rintro L s ⟨rfl, rfl⟩
  have pv : ∀ (v : SrcV), ∀ o ∈ [v.o], PurO o := fun v => pur_src1 v
  have hSO : SrcOk n src := ⟨n0, n1, hS⟩
  have hs1 : ∀ ss, src = some ss → ss.length ≤ 40 ∧ ∀ x ∈ ss, x ≤ 1000 := fun ss e => by
    obtain ⟨a1, a2, a3, a4, a5⟩ := hS ss e
    exact ⟨a4, fun x hx => by have := a5 x hx; omega⟩
  have hlt : SI.ltN src ≤ 1000 := by
    unfold SI.ltN
    cases src with
    | none => exact Nat.zero_le _
    | some ss =>
      have := (hs1 ss rfl).1
      show ss.length ≤ 1000
      omega
  have hw2 : 1 ≤ wdN src ∧ wdN src ≤ 4 := by
    unfold wdN
    split <;> decide
  have hRW := RowG.ok (n := n) (by omega) hlt hw (by omega)
  have fx := good_none hw
  have rwy : ∀ x ∈ ws.map rowD, Odd c x := fun x hx => by
    obtain ⟨w, hw', rfl⟩ := List.mem_map.mp hx
    refine rowD_odd ?_
    have h1 := hRW.w w hw'
    omega
  have hsh := hSh hM (n := n) (by omega) hs1 hRW hw2.1 hw2.2 (s := [v1.o]) (pv v1)
  have sm : ∀ T, TOk T → smOk 24 (.tup [.str "told", dS T]) = true := fun T hT => by
    have h1 : PyData.strOk (st T) = true := tok_str (x := st T) hT
    have h2 : PyData.strOk ("told" : Str) = true := by decide +kernel
    show (decide (2 ≤ 1000000) && (PyData.strOk ("told" : Str) && (PyData.strOk (st T) && true))) = true
    rw [h1, h2]
    rfl
  have hgo : ∀ {sd sq : D} (s : S), (∀ o ∈ s, PurO o) → SrcAt s src sd → (sq = .lst (ws.map rowD) ∨ sq = .tup (ws.map rowD)) → wG [M.d c, .int n, sq, sd] s = .ok (dS (sheetL (linesL (mcN M) n src ws))) s := fun {sd sq} s hs hA hq => by
    have hq' : ∃ rr, Sq s sq (ws.map rowD) rr := by
      rcases hq with rfl | rfl
      · exact ⟨_, sq_lst ..⟩
      · exact ⟨_, sq_tup ..⟩
    obtain ⟨rr, hq'⟩ := hq'
    rcases hAn hM hSO hs hA hq' (fun x hx => (rwy x hx).rw) (by rw [List.length_map]; omega) with ⟨w, i, e, _⟩ | ⟨_, ws', e1, _, e2⟩
    · rw [fx] at e
      cases e
    · have : ws' = ws := by
        have inj : ∀ (a b : List (List Nat)), a.map rowD = b.map rowD → a = b := fun a => by
          induction a with
          | nil => intro b h; cases b with | nil => rfl | cons y b => cases h
          | cons x a ih =>
            intro b h
            cases b with
            | nil => cases h
            | cons y b =>
              rw [List.map_cons, List.map_cons] at h
              injection h with h1 h2
              have h3 : x.map nI = y.map nI := D.tup.inj h1
              have h4 : ∀ (p q : List Nat), p.map nI = q.map nI → p = q := fun p => by
                induction p with
                | nil => intro q h; cases q with | nil => rfl | cons z q => cases h
                | cons u p ih =>
                  intro q h
                  cases q with
                  | nil => cases h
                  | cons z q =>
                    rw [List.map_cons, List.map_cons] at h
                    injection h with h5 h6
                    have h7 : (u : Int) = z := D.int.inj h5
                    rw [ih q h6, show u = z by omega]
              rw [h4 x y h3, ih b h2]
        exact inj _ _ e1.symm
      rw [this] at e2
      exact e2
  have g1 := hgo [v1.o] (pv v1) (src_at _ src) (.inl rfl)
  have a1 := hWs g1
  have eqR : ∀ s, dEqD true s (.lst (ws.map rowD)) (.lst (ws.map rowD)) = some (.bl false) := fun s => eq_self (rows_dok ws) (by decide)
  have eqS : ∀ s, dEqD true s (srcD src) (srcD src) = some (.bl false) := fun s => eq_self (srcD_dok src) (by decide)
  have smT := hSr (sm _ (sheet_tok (M := M) (n := n) (src := src) (ws := ws)))
  have eqT : ∀ s, dEqD true s (dS (sheetL (linesL (mcN M) n src ws))) (dS (sheetL (linesL (mcN M) n src ws))) = some (.bl false) := fun s => by
    have := eq_dS (a := sheetL (linesL (mcN M) n src ws)) (b := sheetL (linesL (mcN M) n src ws)) sheet_tok sheet_tok true s
    simp only [decide_true] at this
    exact this
  generalize hT : sheetL (linesL (mcN M) n src ws) = T at *
  have tix : ∀ s, dIx s (.tup [.str "told", dS T]) (.int 1) = some (dS T) := fun s => it1 ..
  have tup : ∀ s (xs : List D), bTuple s [.lst xs] = some (.tup xs) := fun _ _ => rfl
  have nI1 : ∀ s, dIs false s (srcD none) .non = some (.bl true) := fun _ => rfl
  have nI2 : ∀ s, dIs true s (srcD none) .non = some (.bl false) := fun _ => rfl
  have sI1 : ∀ ss s, dIs false s (srcD (some ss)) .non = some (.bl false) := fun _ _ => rfl
  have sI2 : ∀ ss s, dIs true s (srcD (some ss)) .non = some (.bl true) := fun _ _ => rfl
  simp_all_arith [hsh]
  refine ws_cut (fun L s => L = [some (.rdl (ns.map D.int)), some (.ref 0), some (mcD M), some (.int n), some (srcD src), some (.lst (ws.map rowD)), some (M.d c), some (.lst (ws.map rowD)), some (srcD src), some (.tup [.str "told", dS T]), none, none, none, none, none, none, none] ∧ s = [v1.o]) ?_ ?_
  · simp_arith [a1, smT, eqR, eqS]
  rintro L s ⟨rfl, rfl⟩
  refine ws_cut (fun L s => L = [some (.rdl (ns.map D.int)), some (.ref 0), some (mcD M), some (.int n), some (srcD src), some (.lst (ws.map rowD)), some (M.d c), some (.lst (ws.map rowD)), some (srcD src), some (.tup [.str "told", dS T]), none, none, none, none, none, none, none] ∧ s = [v1.o]) ?_ ?_
  · cases src with
    | none =>
      have g2 := hgo [v1.o] (pv v1) (sd := .non) (sq := .tup (ws.map rowD)) rfl (.inr rfl)
      simp_arith [nI1, tup, g2, tix, eqT]
    | some ss =>
      simp_arith [sI1]
  rintro L s ⟨rfl, rfl⟩
  refine ws_cut (fun L s => L = [some (.rdl (ns.map D.int)), some (.ref 0), some (mcD M), some (.int n), some (srcD src), some (.lst (ws.map rowD)), some (M.d c), some (.lst (ws.map rowD)), some (srcD src), some (.tup [.str "told", dS T]), none, none, none, none, none, none, none] ∧ s = [v1.o]) ?_ ?_
  · cases src with
    | none =>
      simp_arith [nI2]
    | some ss =>
      have g2 := hgo [v1.o] (pv v1) (sd := .tup (ss.map nI)) (sq := .tup (ws.map rowD)) ⟨rfl, none, sq_tup ..⟩ (.inr rfl)
      simp_arith [sI2, tup, show ∀ s, bTuple s [srcD (some ss)] = some (.tup (ss.map nI)) from fun _ => rfl, g2, tix, eqT]
  rintro L s ⟨rfl, rfl⟩
  refine ws_cut (fun L s => ∃ v : SrcV, L = [some (.rdl (ns.map D.int)), some (.ref 0), some (mcD M), some (.int n), some (srcD src), some (.lst (ws.map rowD)), some (M.d c), some (.lst (ws.map rowD)), some (srcD src), some (.tup [.str "told", dS T]), none, none, none, none, none, none, none] ∧ s = [v.o] ∧ v.Ok 2000) ?_ ?_
  · simp_arith
    refine hRf (r := []) hSO ok1 (by omega) pur_nil fun v2 ok2 => ?_
    simp_arith
    first | exact ⟨v2, rfl, ok2.mono (by omega)⟩ | exact ⟨v2, rfl, rfl, ok2.mono (by omega)⟩ | exact ok2.mono (by omega)
  rintro L s ⟨v, rfl, rfl, ok⟩
  have hwd : ∀ {B : Bs}, B.nx [some (.rdl (ns.map D.int)), some (.ref 0), some (mcD M), some (.int n), some (srcD src), some (.lst (ws.map rowD)), some (M.d c), some (.lst (ws.map rowD)), some (srcD src), some (.tup [.str "told", dS T]), some (.int (wdN src)), none, none, none, none, none, none] [v.o] → @WS (sAsg 10 (fOp dAdd (fC (.int 3)) (fCB bInt (fCons (fOp (dIs true) (fVar 4) (fC .non)) fNil))) [some (.rdl (ns.map D.int)), some (.ref 0), some (mcD M), some (.int n), some (srcD src), some (.lst (ws.map rowD)), some (M.d c), some (.lst (ws.map rowD)), some (srcD src), some (.tup [.str "told", dS T]), none, none, none, none, none, none, none] [v.o]) B := fun {B} q => by
    cases src with
    | none =>
      simp_arith [nI2, show ∀ s, bInt s [.bl false] = some (.int 0) from fun _ => rfl]
      exact q
    | some ss =>
      simp_arith [sI2, show ∀ s, bInt s [.bl true] = some (.int 1) from fun _ => rfl]
      exact q
  rw [w_seq]
  refine hwd ?_
  clear hwd
  have hwd34 : wdN src = 3 ∨ wdN src = 4 := by
    unfold wdN
    split
    · exact .inr rfl
    · exact .inl rfl
  generalize hwN : wdN src = wn at *
  simp_arith
  rw [rng1 (by omega) (by omega), w_some]
  obtain ⟨N4, e4⟩ : ∃ N, N = Int.toNat 4 := ⟨_, rfl⟩
  have hN4 : N4 = 4 := e4
  rw [← e4]
  refine ws_rng (fun i L s => ∃ (v : SrcV) (y9 y11 y12 y13 : Option D), L = [some (.rdl (ns.map D.int)), some (.ref 0), some (mcD M), some (.int n), some (srcD src), some (.lst (ws.map rowD)), some (M.d c), some (.lst (ws.map rowD)), some (srcD src), y9, some (.int wn), y11, y12, y13, none, none, none] ∧ s = [v.o] ∧ v.Ok (2000 + 100 * i)) ⟨v, _, _, _, _, rfl, rfl, ok⟩ ?_ ?_
  · rintro i L s hi ⟨v, y9, y11, y12, y13, rfl, rfl, ok⟩
    simp_arith [lsG]
    refine drawB_wp (r := []) ok (by omega) (by decide) (by decide +kernel) fun b v2 b0 b1 ok2 => ?_
    obtain ⟨b, rfl⟩ := Int.eq_ofNat_of_zero_le b0
    have eb : (1 : Int) + (b : Int) = ((b + 1 : Nat) : Int) := by omega
    simp_all_arith
    rw [eb, rng1 (by omega) (by omega), w_some, Int.toNat_natCast]
    refine ws_rng (fun j L s => ∃ (v : SrcV) (xs : List D) (y13 : Option D), L = [some (.rdl (ns.map D.int)), some (.ref 0), some (mcD M), some (.int n), some (srcD src), some (.lst (ws.map rowD)), some (M.d c), some (.lst (ws.map rowD)), some (srcD src), y9, some (.int wn), some (.int i), some (.lst xs), y13, none, none, none] ∧ s = [v.o] ∧ v.Ok (2000 + 100 * i + 1 + 10 * j) ∧ (∀ x ∈ xs, Odd c x) ∧ xs.length ≤ 30 + j) ⟨v2, ws.map rowD, _, rfl, rfl, ok2, rwy, by rw [List.length_map]; omega⟩ ?_ ?_
    · rintro j L s hj ⟨v, xs, y13, rfl, rfl, ok, hx, hxl⟩
      simp_arith
      refine hSp hwd34 (n := n) (by omega) hx (by omega) (r := []) ok (by omega) pur_nil fun ys v4 hy hyl ok4 => ?_
      simp_arith
      exact ⟨v4, ys, _, rfl, rfl, ok4.mono (by omega), hy, by omega⟩
    · rintro L s ⟨v, xs, y13, rfl, rfl, ok, hx, hxl⟩
      have hrw : ∀ x ∈ xs, Rowy c x := fun x h => (hx x h).rw
      have hdu := hDu (n := n) (src := src) (s := [v.o]) (pv v) hrw (by omega) hlt
      rcases hAn hM hSO (s := [v.o]) (pv v) (src_at _ src) (sq_lst _ xs) hrw (by omega) with ⟨w, z, e1, e2⟩ | ⟨e1, ws', rfl, hw', e2⟩
      · rw [e1] at hdu
        have hdu : dG [.lst xs, .int n, srcD src] [v.o] = .ok (.tup [.str "plan", .str w, .int z]) [v.o] := hdu
        have i1 : ∀ s, dIs false s (.tup [.str "plan", .str w, .int z]) .non = some (.bl false) := fun _ => rfl
        have hww : w = "form" ∨ w = "hand" ∨ w = "letter" := by
          unfold fX plnX lplX numF at e1
          split at e1 <;> split at e1 <;> (try split at e1) <;> simp at e1
          all_goals first
            | (obtain ⟨rfl, _⟩ := e1; simp)
            | (obtain ⟨_, _, rfl, _⟩ := e1; simp)
        have hsm := sm_plan hww (z := z)
        simp_arith [hdu, i1, e2, hSr hsm]
        exact ⟨v, _, _, _, _, rfl, rfl, ok.mono (by omega)⟩
      · rw [e1] at hdu
        have hdu : dG [.lst (ws'.map rowD), .int n, srcD src] [v.o] = .ok .non [v.o] := hdu
        have hsh' := hSh hM (n := n) (by omega) hs1 hw' (by rw [hwN]; omega) (by rw [hwN]; omega) (s := [v.o]) (pv v)
        have ha' := hWs e2
        have smT' := hSr (sm _ (sheet_tok (M := M) (n := n) (src := src) (ws := ws')))
        simp_arith [hdu, is_nn, hsh', ha', smT']
        exact ⟨v, _, _, _, _, rfl, rfl, ok.mono (by omega)⟩
  · rintro L s ⟨v, y9, y11, y12, y13, rfl, rfl, ok⟩
    simp_arith
    refine lcp_all [D.tup [.int 0, .int 1, .int 5], D.tup [.int 0, .int 0, .int 1, .int 5]] (fun d => d) (fun _ => D.tup [.str "plan", .str "form", .int (-1)]) rfl (fun acc => rfl) (by decide) (pv v) (fun x _ => pur_tup fun y hy => by
      simp only [List.mem_cons, List.not_mem_nil, or_false] at hy
      rcases hy with rfl | rfl | rfl <;> exact fun _ => rfl) (fun x hx acc hacc => ?_) ?_
    · have hp : Pur x := by
        simp only [List.mem_cons, List.not_mem_nil, or_false] at hx
        rcases hx with rfl | rfl <;> exact fun _ => rfl
      simp_arith [wipeD]
      rw [rng1 (by omega) (by omega), w_some]
      generalize eN : (2001 : Int).toNat = N
      have hN : N = 2001 := eN.symm
      refine lcp_all (List.range N) (fun i => D.int (0 + (i : Int))) (fun _ => x) rfl (fun acc => rfl) (by simp; omega) (pur_app (pv v) (purO_lst hacc)) (fun _ _ => hp) (fun x hx acc ha => by simp_arith [wipeD]) ?_
      have hZ : ((List.range N).map fun _ => x).length = 2001 := by simp; omega
      generalize (List.range N).map (fun _ => x) = Z at *
      have ha := fun s => hLg hSO hZ (m := M.d c) s
      simp_arith [ha]
    · have eqF : ∀ s, dEqD false s (.lst [D.tup [.str "plan", .str "form", .int (-1)], D.tup [.str "plan", .str "form", .int (-1)]]) (.lst [D.tup [.str "plan", .str "form", .int (-1)], D.tup [.str "plan", .str "form", .int (-1)]]) = some (.bl true) := fun s => eq_self (n := 4) (by decide +kernel) (by decide)
      simp only [List.map_cons, List.map_nil]
      simp_arith [eqF]
end Lw

/-! a comprehension inside a comprehension; == in an except suite -/
namespace SI
section
open PySem L2
variable {X : Cx} {W : WX} {a b e : Expr} {f g : F D} {pos : Pos}
theorem lk_relab (env : Env) (y : Str) : ∀ (l : List (Str × NameKind)), List.lookup y (l.map fun x => match x with
    | (n, k) => if (k == NameKind.free && env.scope.kind == ScopeKind.function && env.kindOf n == some NameKind.cell) = true then (n, NameKind.cell) else (n, k)) = (List.lookup y l).map fun k => if (k == NameKind.free && env.scope.kind == ScopeKind.function && env.kindOf y == some NameKind.cell) = true then NameKind.cell else k
  | [] => rfl
  | (n, k) :: l => by
    rw [List.map_cons]
    dsimp only
    by_cases e : y = n
    · subst e
      split
      · rename_i h
        rw [List.lookup_cons_self, List.lookup_cons_self, Option.map_some, if_pos h]
      · rename_i h
        rw [List.lookup_cons_self, List.lookup_cons_self, Option.map_some, if_neg h]
    · have e' : (y == n) = false := by simpa using e
      have ih := lk_relab env y l
      split
      · simp only [List.lookup_cons, e', ih]
      · simp only [List.lookup_cons, e', ih]
theorem blkOk_in {N : List Str} {sc scope : Scope} {own : List (Str × Nat)} {cl : List (Str × Addr)} {C : Addr} {env : Env} (h : blkC N sc scope own = true) : BlkOk N (compEnvC sc cl C env).scope scope own := by
  have k := blkOk_by h
  refine ⟨k.kind, k.uniq, k.ix, fun y hy e => ?_, k.own⟩
  have h1 := k.free y hy e
  show List.lookup y.1 (relabel sc env).names = _ ∨ List.lookup y.1 (relabel sc env).names = _
  unfold relabel
  dsimp only
  rw [lk_relab]
  rcases h1 with h1 | h1
  · rw [h1]
    left
    rfl
  · rw [h1]
    simp only [Option.map_some]
    split
    · exact .inl rfl
    · exact .inr rfl
end
end SI

namespace Lw
open PySem PySem.Spec PyProof.Rows L2 SI Pg
theorem sc_InvalidMachine___init__ : FnScope ["self", "part"] ["self", "part"] (defScope s_InvalidMachine___init__) := ⟨rfl, rfl, rfl, by decide +kernel, rfl, by decide +kernel, by decide +kernel⟩
theorem sc_InvalidPlan___init__ : FnScope ["self", "why", "at"] ["self", "why", "at"] (defScope s_InvalidPlan___init__) := ⟨rfl, rfl, rfl, by decide +kernel, rfl, by decide +kernel, by decide +kernel⟩
theorem sc_InvalidRows___init__ : FnScope ["self", "at"] ["self", "at"] (defScope s_InvalidRows___init__) := ⟨rfl, rfl, rfl, by decide +kernel, rfl, by decide +kernel, by decide +kernel⟩
theorem sc_is_integer : FnScope ["thing"] ["thing"] (defScope s_is_integer) := ⟨rfl, rfl, rfl, by decide +kernel, rfl, by decide +kernel, by decide +kernel⟩
theorem sc_between : FnScope ["thing", "low", "high"] ["thing", "low", "high"] (defScope s_between) := ⟨rfl, rfl, rfl, by decide +kernel, rfl, by decide +kernel, by decide +kernel⟩
theorem sc_checked_count : FnScope ["n", "low", "high"] ["n", "low", "high"] (defScope s_checked_count) := ⟨rfl, rfl, rfl, by decide +kernel, rfl, by decide +kernel, by decide +kernel⟩
theorem sc_form_fault_rows : FnScope ["thing", "width", "most", "at", "row", "number"] ["thing", "width", "most"] (defScope s_form_fault_rows) := ⟨rfl, rfl, rfl, by decide +kernel, rfl, by decide +kernel, by decide +kernel⟩
theorem sc_checked_sources : FnScope ["n", "sources", "at", "hand"] ["n", "sources"] (defScope s_checked_sources) := ⟨rfl, rfl, rfl, by decide +kernel, rfl, by decide +kernel, by decide +kernel⟩
theorem sc_number_fault : FnScope ["n", "many", "rows", "at", "row", "letter", "sender", "receiver", "start"] ["n", "many", "rows"] (defScope s_number_fault) := ⟨rfl, rfl, rfl, by decide +kernel, rfl, by decide +kernel, by decide +kernel⟩
theorem sc_Machine___init__ : FnScope ["self", "o", "l", "g"] ["self", "o", "l", "g"] (defScope s_Machine___init__) := ⟨rfl, rfl, rfl, by decide +kernel, rfl, by decide +kernel, by decide +kernel⟩
theorem sc_plan_fault_texts : FnScope ["n", "rows", "wrong", "at", "sender", "receiver", "start"] ["n", "rows"] (defScope s_plan_fault_texts) := ⟨rfl, rfl, rfl, by decide +kernel, rfl, by decide +kernel, by decide +kernel⟩
theorem sc_letters_plan_fault : FnScope ["n", "many", "rows", "wrong"] ["n", "many", "rows"] (defScope s_letters_plan_fault) := ⟨rfl, rfl, rfl, by decide +kernel, rfl, by decide +kernel, by decide +kernel⟩
theorem sc_write_sheet : FnScope ["machine", "n", "rows", "sources", "hands", "word", "wrong", "lines", "hand", "row", "number"] ["machine", "n", "rows", "sources"] (defScope s_write_sheet) := ⟨rfl, rfl, rfl, by decide +kernel, rfl, by decide +kernel, by decide +kernel⟩
theorem sc__law_source : FnScope ["_law_script", "_law_cell"] ["_law_script"] (defScope s__law_source) := ⟨rfl, rfl, rfl, by decide +kernel, rfl, by decide +kernel, by decide +kernel⟩
theorem sc__law_draw : FnScope ["_law_source_here", "_law_limit", "_law_cell", "_law_digit", "_law_one", "_law_two", "_law_three"] ["_law_source_here", "_law_limit"] (defScope s__law_draw) := ⟨rfl, rfl, rfl, by decide +kernel, rfl, by decide +kernel, by decide +kernel⟩
theorem sc__law_wide : FnScope ["_law_source_here", "_law_limit", "_law_high", "_law_middle", "_law_low"] ["_law_source_here", "_law_limit"] (defScope s__law_wide) := ⟨rfl, rfl, rfl, by decide +kernel, rfl, by decide +kernel, by decide +kernel⟩
theorem sc__law_numbers : FnScope ["_law_source_here", "_law_size", "_law_kind", "_law_o", "_law_l", "_law_g"] ["_law_source_here"] (defScope s__law_numbers) := ⟨rfl, rfl, rfl, by decide +kernel, rfl, by decide +kernel, by decide +kernel⟩
theorem sc__law_integer : FnScope ["_law_thing"] ["_law_thing"] (defScope s__law_integer) := ⟨rfl, rfl, rfl, by decide +kernel, rfl, by decide +kernel, by decide +kernel⟩
theorem sc__law_same : FnScope ["_law_told", "_law_due", "_law_at"] ["_law_told", "_law_due"] (defScope s__law_same) := ⟨rfl, rfl, rfl, by decide +kernel, rfl, by decide +kernel, by decide +kernel⟩
theorem sc__law_form : FnScope ["_law_thing", "_law_width", "_law_most", "_law_at", "_law_row", "_law_number"] ["_law_thing", "_law_width", "_law_most"] (defScope s__law_form) := ⟨rfl, rfl, rfl, by decide +kernel, rfl, by decide +kernel, by decide +kernel⟩
theorem sc__law_odd : FnScope ["_law_source_here", "_law_width", "_law_base", "_law_odd_here", "_law_k"] ["_law_source_here", "_law_width"] (defScope s__law_odd) := ⟨rfl, rfl, rfl, by decide +kernel, rfl, by decide +kernel, by decide +kernel⟩
theorem sc__law_changed : FnScope ["_law_source_here", "_law_row", "_law_n", "_law_width", "_law_part", "_law_value", "_law_values"] ["_law_source_here", "_law_row", "_law_n"] (defScope s__law_changed) := ⟨rfl, rfl, rfl, by decide +kernel, rfl, by decide +kernel, by decide +kernel⟩
theorem sc__law_spoilt : FnScope ["_law_source_here", "_law_rows_here", "_law_width", "_law_n", "_law_choice", "_law_at", "_law_row", "_law_plain", "_law_number"] ["_law_source_here", "_law_rows_here", "_law_width", "_law_n"] (defScope s__law_spoilt) := ⟨rfl, rfl, rfl, by decide +kernel, rfl, by decide +kernel, by decide +kernel⟩
theorem sc__law_rows : FnScope ["_law_source_here", "_law_n", "_law_many", "_law_letters", "_law_rows_here", "_law_k", "_law_sender", "_law_receiver", "_law_start"] ["_law_source_here", "_law_n", "_law_many", "_law_letters"] (defScope s__law_rows) := ⟨rfl, rfl, rfl, by decide +kernel, rfl, by decide +kernel, by decide +kernel⟩
theorem sc__law_sheet : FnScope ["_law_numbers_here", "_law_n", "_law_sources", "_law_rows_here", "_law_lines", "_law_word", "_law_number", "_law_hand", "_law_row"] ["_law_numbers_here", "_law_n", "_law_sources", "_law_rows_here"] (defScope s__law_sheet) := ⟨rfl, rfl, rfl, by decide +kernel, rfl, by decide +kernel, by decide +kernel⟩
theorem sc__law_case : FnScope ["_law_source_here", "_law_numbers_here", "_law_n", "_law_sources", "_law_many", "_law_letters", "_law_k"] ["_law_source_here"] (defScope s__law_case) := ⟨rfl, rfl, rfl, by decide +kernel, rfl, by decide +kernel, by decide +kernel⟩
theorem sc__law_answer : FnScope ["_law_machine", "_law_n", "_law_rows_here", "_law_sources", "_law_told", "e"] ["_law_machine", "_law_n", "_law_rows_here", "_law_sources"] (defScope s__law_answer) := ⟨rfl, rfl, rfl, by decide +kernel, rfl, by decide +kernel, by decide +kernel⟩
theorem sc__law_hands_due : FnScope ["_law_rows_here", "_law_n", "_law_least", "_law_at", "_law_sender", "_law_receiver"] ["_law_rows_here", "_law_n", "_law_least"] (defScope s__law_hands_due) := ⟨rfl, rfl, rfl, by decide +kernel, rfl, by decide +kernel, by decide +kernel⟩
theorem sc__law_rows_due : FnScope ["_law_rows_here", "_law_n", "_law_sources", "_law_wrong", "_law_at"] ["_law_rows_here", "_law_n", "_law_sources"] (defScope s__law_rows_due) := ⟨rfl, rfl, rfl, by decide +kernel, rfl, by decide +kernel, by decide +kernel⟩
theorem sc__law_refused : FnScope ["_law_source_here", "_law_machine", "_law_n", "_law_rows_here", "_law_sources", "_law_wrong", "_law_count", "_law_at", "_law_bent", "_law_odd_here", "_law_k"] ["_law_source_here", "_law_machine", "_law_n", "_law_rows_here", "_law_sources"] (defScope s__law_refused) := ⟨rfl, rfl, rfl, by decide +kernel, rfl, by decide +kernel, by decide +kernel⟩
theorem sc_law : FnScope ["_law_script", "_law_source_here", "_law_numbers_here", "_law_n", "_law_sources", "_law_rows_here", "_law_machine", "_law_given", "_law_hands", "_law_due", "_law_width", "_law_k", "_law_bent", "_law_turn", "_law_many", "_law_told", "_law_base"] ["_law_script"] (defScope s_law) := ⟨rfl, rfl, rfl, by decide +kernel, rfl, by decide +kernel, by decide +kernel⟩
theorem kw_len0 (α : Type) : ∀ (xs zs ds : List α), xs.length = 3 → zs.length = 1 → ds.length = 0 → (arr [.p 0, .p 1, .p 2, .k 0] xs zs ds).length = 4
  | [_, _, _], [_], [], _, _, _ => rfl
theorem kw_len1 (α : Type) : ∀ (xs zs ds : List α), xs.length = 3 → zs.length = 0 → ds.length = 1 → (arr [.p 0, .p 1, .p 2, .d 0] xs zs ds).length = 4
  | [_, _, _], [], [_], _, _, _ => rfl
set_option genInjectivity false in
structure Ad where
  a_InvalidMachine___init__ : Addr
  fd_InvalidMachine___init__ : FuncData
  a_InvalidPlan___init__ : Addr
  fd_InvalidPlan___init__ : FuncData
  a_InvalidRows___init__ : Addr
  fd_InvalidRows___init__ : FuncData
  a_is_integer : Addr
  fd_is_integer : FuncData
  a_between : Addr
  fd_between : FuncData
  a_checked_count : Addr
  fd_checked_count : FuncData
  a_form_fault_rows : Addr
  fd_form_fault_rows : FuncData
  a_checked_sources : Addr
  fd_checked_sources : FuncData
  a_number_fault : Addr
  fd_number_fault : FuncData
  a_Machine___init__ : Addr
  fd_Machine___init__ : FuncData
  a_plan_fault_texts : Addr
  fd_plan_fault_texts : FuncData
  a_letters_plan_fault : Addr
  fd_letters_plan_fault : FuncData
  a_write_sheet : Addr
  fd_write_sheet : FuncData
  a__law_source : Addr
  fd__law_source : FuncData
  a__law_draw : Addr
  fd__law_draw : FuncData
  a__law_wide : Addr
  fd__law_wide : FuncData
  a__law_numbers : Addr
  fd__law_numbers : FuncData
  a__law_integer : Addr
  fd__law_integer : FuncData
  a__law_same : Addr
  fd__law_same : FuncData
  a__law_form : Addr
  fd__law_form : FuncData
  a__law_odd : Addr
  fd__law_odd : FuncData
  a__law_changed : Addr
  fd__law_changed : FuncData
  a__law_spoilt : Addr
  fd__law_spoilt : FuncData
  a__law_rows : Addr
  fd__law_rows : FuncData
  a__law_sheet : Addr
  fd__law_sheet : FuncData
  a__law_case : Addr
  fd__law_case : FuncData
  a__law_answer : Addr
  fd__law_answer : FuncData
  a__law_hands_due : Addr
  fd__law_hands_due : FuncData
  a__law_rows_due : Addr
  fd__law_rows_due : FuncData
  a__law_refused : Addr
  fd__law_refused : FuncData
  a_law : Addr
  fd_law : FuncData
  t_GREATEST : Tok
  t_LAST_START : Tok
  t_MOST_HANDS_letters : Tok
  t_MOST_HANDS_texts : Tok
  t_MOST_LETTERS : Tok
  t_MOST_SENDS : Tok
  t_MOST_TELLS : Tok
structure Txt (K : PySem.W.Frag) (mg : Str → Option Value) (c : Cl) (z : Ad) : Prop where
  F_InvalidMachine___init__ : Fun K "__init__" "InvalidMachine.__init__" s_InvalidMachine___init__ z.a_InvalidMachine___init__ z.fd_InvalidMachine___init__
  b_InvalidMachine___init__ : Binds K z.fd_InvalidMachine___init__ ["self", "part"] []
  F_InvalidPlan___init__ : Fun K "__init__" "InvalidPlan.__init__" s_InvalidPlan___init__ z.a_InvalidPlan___init__ z.fd_InvalidPlan___init__
  b_InvalidPlan___init__ : Binds K z.fd_InvalidPlan___init__ ["self", "why", "at"] []
  F_InvalidRows___init__ : Fun K "__init__" "InvalidRows.__init__" s_InvalidRows___init__ z.a_InvalidRows___init__ z.fd_InvalidRows___init__
  b_InvalidRows___init__ : Binds K z.fd_InvalidRows___init__ ["self", "at"] []
  F_is_integer : Fun K "is_integer" "is_integer" s_is_integer z.a_is_integer z.fd_is_integer
  b_is_integer : Binds K z.fd_is_integer ["thing"] []
  g_is_integer : mg "is_integer" = some (.ref z.a_is_integer)
  F_between : Fun K "between" "between" s_between z.a_between z.fd_between
  b_between : Binds K z.fd_between ["thing", "low", "high"] []
  g_between : mg "between" = some (.ref z.a_between)
  F_checked_count : Fun K "checked_count" "checked_count" s_checked_count z.a_checked_count z.fd_checked_count
  b_checked_count : Binds K z.fd_checked_count ["n", "low", "high"] []
  g_checked_count : mg "checked_count" = some (.ref z.a_checked_count)
  F_form_fault_rows : Fun K "form_fault" "form_fault" s_form_fault_rows z.a_form_fault_rows z.fd_form_fault_rows
  b_form_fault_rows : Binds K z.fd_form_fault_rows ["thing", "width", "most"] []
  g_form_fault_rows : mg "form_fault" = some (.ref z.a_form_fault_rows)
  F_checked_sources : Fun K "checked_sources" "checked_sources" s_checked_sources z.a_checked_sources z.fd_checked_sources
  b_checked_sources : Binds K z.fd_checked_sources ["n", "sources"] []
  g_checked_sources : mg "checked_sources" = some (.ref z.a_checked_sources)
  F_number_fault : Fun K "number_fault" "number_fault" s_number_fault z.a_number_fault z.fd_number_fault
  b_number_fault : Binds K z.fd_number_fault ["n", "many", "rows"] []
  g_number_fault : mg "number_fault" = some (.ref z.a_number_fault)
  F_Machine___init__ : Fun K "__init__" "Machine.__init__" s_Machine___init__ z.a_Machine___init__ z.fd_Machine___init__
  b_Machine___init__ : Binds K z.fd_Machine___init__ ["self", "o", "l", "g"] []
  F_plan_fault_texts : Fun K "plan_fault" "plan_fault" s_plan_fault_texts z.a_plan_fault_texts z.fd_plan_fault_texts
  b_plan_fault_texts : Binds K z.fd_plan_fault_texts ["n", "rows"] []
  g_plan_fault_texts : mg "plan_fault" = some (.ref z.a_plan_fault_texts)
  F_letters_plan_fault : Fun K "letters_plan_fault" "letters_plan_fault" s_letters_plan_fault z.a_letters_plan_fault z.fd_letters_plan_fault
  b_letters_plan_fault : Binds K z.fd_letters_plan_fault ["n", "many", "rows"] []
  g_letters_plan_fault : mg "letters_plan_fault" = some (.ref z.a_letters_plan_fault)
  F_write_sheet : Fun K "write_sheet" "write_sheet" s_write_sheet z.a_write_sheet z.fd_write_sheet
  g_write_sheet : mg "write_sheet" = some (.ref z.a_write_sheet)
  F__law_source : Fun K "_law_source" "_law_source" s__law_source z.a__law_source z.fd__law_source
  b__law_source : Binds K z.fd__law_source ["_law_script"] []
  g__law_source : mg "_law_source" = some (.ref z.a__law_source)
  F__law_draw : Fun K "_law_draw" "_law_draw" s__law_draw z.a__law_draw z.fd__law_draw
  b__law_draw : Binds K z.fd__law_draw ["_law_source_here", "_law_limit"] []
  g__law_draw : mg "_law_draw" = some (.ref z.a__law_draw)
  F__law_wide : Fun K "_law_wide" "_law_wide" s__law_wide z.a__law_wide z.fd__law_wide
  b__law_wide : Binds K z.fd__law_wide ["_law_source_here", "_law_limit"] []
  g__law_wide : mg "_law_wide" = some (.ref z.a__law_wide)
  F__law_numbers : Fun K "_law_numbers" "_law_numbers" s__law_numbers z.a__law_numbers z.fd__law_numbers
  b__law_numbers : Binds K z.fd__law_numbers ["_law_source_here"] []
  g__law_numbers : mg "_law_numbers" = some (.ref z.a__law_numbers)
  F__law_integer : Fun K "_law_integer" "_law_integer" s__law_integer z.a__law_integer z.fd__law_integer
  b__law_integer : Binds K z.fd__law_integer ["_law_thing"] []
  g__law_integer : mg "_law_integer" = some (.ref z.a__law_integer)
  F__law_same : Fun K "_law_same" "_law_same" s__law_same z.a__law_same z.fd__law_same
  b__law_same : Binds K z.fd__law_same ["_law_told", "_law_due"] []
  g__law_same : mg "_law_same" = some (.ref z.a__law_same)
  F__law_form : Fun K "_law_form" "_law_form" s__law_form z.a__law_form z.fd__law_form
  b__law_form : Binds K z.fd__law_form ["_law_thing", "_law_width", "_law_most"] []
  g__law_form : mg "_law_form" = some (.ref z.a__law_form)
  F__law_odd : Fun K "_law_odd" "_law_odd" s__law_odd z.a__law_odd z.fd__law_odd
  b__law_odd : Binds K z.fd__law_odd ["_law_source_here", "_law_width"] []
  g__law_odd : mg "_law_odd" = some (.ref z.a__law_odd)
  F__law_changed : Fun K "_law_changed" "_law_changed" s__law_changed z.a__law_changed z.fd__law_changed
  b__law_changed : Binds K z.fd__law_changed ["_law_source_here", "_law_row", "_law_n"] []
  g__law_changed : mg "_law_changed" = some (.ref z.a__law_changed)
  F__law_spoilt : Fun K "_law_spoilt" "_law_spoilt" s__law_spoilt z.a__law_spoilt z.fd__law_spoilt
  b__law_spoilt : Binds K z.fd__law_spoilt ["_law_source_here", "_law_rows_here", "_law_width", "_law_n"] []
  g__law_spoilt : mg "_law_spoilt" = some (.ref z.a__law_spoilt)
  F__law_rows : Fun K "_law_rows" "_law_rows" s__law_rows z.a__law_rows z.fd__law_rows
  b__law_rows : Binds K z.fd__law_rows ["_law_source_here", "_law_n", "_law_many", "_law_letters"] []
  g__law_rows : mg "_law_rows" = some (.ref z.a__law_rows)
  F__law_sheet : Fun K "_law_sheet" "_law_sheet" s__law_sheet z.a__law_sheet z.fd__law_sheet
  b__law_sheet : Binds K z.fd__law_sheet ["_law_numbers_here", "_law_n", "_law_sources", "_law_rows_here"] []
  g__law_sheet : mg "_law_sheet" = some (.ref z.a__law_sheet)
  F__law_case : Fun K "_law_case" "_law_case" s__law_case z.a__law_case z.fd__law_case
  b__law_case : Binds K z.fd__law_case ["_law_source_here"] []
  g__law_case : mg "_law_case" = some (.ref z.a__law_case)
  F__law_answer : Fun K "_law_answer" "_law_answer" s__law_answer z.a__law_answer z.fd__law_answer
  b__law_answer : Binds K z.fd__law_answer ["_law_machine", "_law_n", "_law_rows_here", "_law_sources"] []
  g__law_answer : mg "_law_answer" = some (.ref z.a__law_answer)
  F__law_hands_due : Fun K "_law_hands_due" "_law_hands_due" s__law_hands_due z.a__law_hands_due z.fd__law_hands_due
  b__law_hands_due : Binds K z.fd__law_hands_due ["_law_rows_here", "_law_n", "_law_least"] []
  g__law_hands_due : mg "_law_hands_due" = some (.ref z.a__law_hands_due)
  F__law_rows_due : Fun K "_law_rows_due" "_law_rows_due" s__law_rows_due z.a__law_rows_due z.fd__law_rows_due
  b__law_rows_due : Binds K z.fd__law_rows_due ["_law_rows_here", "_law_n", "_law_sources"] []
  g__law_rows_due : mg "_law_rows_due" = some (.ref z.a__law_rows_due)
  F__law_refused : Fun K "_law_refused" "_law_refused" s__law_refused z.a__law_refused z.fd__law_refused
  b__law_refused : Binds K z.fd__law_refused ["_law_source_here", "_law_machine", "_law_n", "_law_rows_here", "_law_sources"] []
  g__law_refused : mg "_law_refused" = some (.ref z.a__law_refused)
  F_law : Fun K "law" "law" s_law z.a_law z.fd_law
  b_law : Binds K z.fd_law ["_law_script"] []
  g_law : mg "law" = some (.ref z.a_law)
  kb_0 : KB K z.fd_write_sheet ["machine", "n", "rows", "sources"] 3 ["sources"] [.p 0, .p 1, .p 2, .k 0] []
  kd_0 : DflR K [] []
  kb_1 : KB K z.fd_write_sheet ["machine", "n", "rows", "sources"] 3 [] [.p 0, .p 1, .p 2, .d 0] [V.non]
  kd_1 : DflR K [D.non] [V.non]
  n_all : mg "all" = none
  n_bool : mg "bool" = none
  n_enumerate : mg "enumerate" = none
  n_int : mg "int" = none
  n_isinstance : mg "isinstance" = none
  n_len : mg "len" = none
  n_list : mg "list" = none
  n_max : mg "max" = none
  n_range : mg "range" = none
  n_str : mg "str" = none
  n_tuple : mg "tuple" = none
  c_GREATEST : mg "GREATEST" = some (.int 1000000000 z.t_GREATEST)
  c_LAST_START : mg "LAST_START" = some (.int 1000000000000000 z.t_LAST_START)
  c_MOST_HANDS_letters : mg "MOST_HANDS_letters" = some (.int 40 z.t_MOST_HANDS_letters)
  c_MOST_HANDS_texts : mg "MOST_HANDS_texts" = some (.int 100 z.t_MOST_HANDS_texts)
  c_MOST_LETTERS : mg "MOST_LETTERS" = some (.int 40 z.t_MOST_LETTERS)
  c_MOST_SENDS : mg "MOST_SENDS" = some (.int 2000 z.t_MOST_SENDS)
  c_MOST_TELLS : mg "MOST_TELLS" = some (.int 400 z.t_MOST_TELLS)
  g_Machine : mg "Machine" = some (.ref c.Machine)
  mk_Machine : Mk K c.Machine z.a_Machine___init__
  it_Machine : InsTxt K c.Machine
  g_InvalidCount : mg "InvalidCount" = some (.ref c.InvalidCount)
  g_InvalidMachine : mg "InvalidMachine" = some (.ref c.InvalidMachine)
  g_InvalidPlan : mg "InvalidPlan" = some (.ref c.InvalidPlan)
  g_InvalidRows : mg "InvalidRows" = some (.ref c.InvalidRows)
  x0_InvalidCount : Ex0 K c.InvalidCount
  x_InvalidMachine : ExE K c.InvalidMachine
  xi_InvalidMachine : PySem.W.findIn K (.ref c.InvalidMachine) "__init__" = some (some (.ref z.a_InvalidMachine___init__))
  xt_InvalidMachine : PySem.W.typeIn K (.ref z.a_InvalidMachine___init__) = some (.type "function")
  xk_InvalidMachine_part : PySem.W.takerIn K c.InvalidMachine "part" = some none
  x_InvalidPlan : ExE K c.InvalidPlan
  xi_InvalidPlan : PySem.W.findIn K (.ref c.InvalidPlan) "__init__" = some (some (.ref z.a_InvalidPlan___init__))
  xt_InvalidPlan : PySem.W.typeIn K (.ref z.a_InvalidPlan___init__) = some (.type "function")
  xk_InvalidPlan_why : PySem.W.takerIn K c.InvalidPlan "why" = some none
  xk_InvalidPlan_at : PySem.W.takerIn K c.InvalidPlan "at" = some none
  x_InvalidRows : ExE K c.InvalidRows
  xi_InvalidRows : PySem.W.findIn K (.ref c.InvalidRows) "__init__" = some (some (.ref z.a_InvalidRows___init__))
  xt_InvalidRows : PySem.W.typeIn K (.ref z.a_InvalidRows___init__) = some (.type "function")
  xk_InvalidRows_at : PySem.W.takerIn K c.InvalidRows "at" = some none
  xs_InvalidCount : ∀ p ∈ xsel_InvalidCount c, PySem.W.exmOne K (.ref p.1) (.ref c.InvalidCount) = some p.2
  xs_InvalidPlan : ∀ p ∈ xsel_InvalidPlan c, PySem.W.exmOne K (.ref p.1) (.ref c.InvalidPlan) = some p.2
  xs_InvalidRows : ∀ p ∈ xsel_InvalidRows c, PySem.W.exmOne K (.ref p.1) (.ref c.InvalidRows) = some p.2
  xf_at : ∀ C ∈ xs_at c, XfC K C ∧ PySem.W.findIn K (.ref C) "at" = some none
  xf_why : ∀ C ∈ xs_why c, XfC K C ∧ PySem.W.findIn K (.ref C) "why" = some none
  its : ∀ C ∈ c.cs, InsTxt K C
  f_g : ∀ C ∈ [c.Machine], Cls K C ∧ NoAttr K C "g"
  f_gap : ∀ C ∈ [c.Machine], Cls K C ∧ NoAttr K C "gap"
  f_l : ∀ C ∈ [c.Machine], Cls K C ∧ NoAttr K C "l"
  f_letter : ∀ C ∈ [c.Machine], Cls K C ∧ NoAttr K C "letter"
  f_o : ∀ C ∈ [c.Machine], Cls K C ∧ NoAttr K C "o"
section
variable {P : Program} {w : World} {K : PySem.W.Frag} {mg : Str → Option Value} {base : Heap} {c : Cl} {z : Ad}
theorem ok_InvalidMachine___init__ (T : Txt K mg c z) : FnOk P w K mg base (L2.CX P w) 1 z.a_InvalidMachine___init__ z.fd_InvalidMachine___init__ ["self", "part"] (spX1 K "part") := by
  exact ok_x1 T.F_InvalidMachine___init__ sc_InvalidMachine___init__ fun _ _ _ _ _ _ => pss_one (ps_est (pe_var rfl (Or.inl rfl) (by decide) (by decide)) (pe_var rfl (Or.inl rfl) (by decide) (by decide)))
theorem ok_InvalidPlan___init__ (T : Txt K mg c z) : FnOk P w K mg base (L2.CX P w) 1 z.a_InvalidPlan___init__ z.fd_InvalidPlan___init__ ["self", "why", "at"] (spX2 K "why" "at") := by
  exact ok_x2 T.F_InvalidPlan___init__ sc_InvalidPlan___init__ fun _ _ _ _ _ _ => pss_cons (ps_est (pe_var rfl (Or.inl rfl) (by decide) (by decide)) (pe_var rfl (Or.inl rfl) (by decide) (by decide))) (pss_one (ps_est (pe_var rfl (Or.inl rfl) (by decide) (by decide)) (pe_var rfl (Or.inl rfl) (by decide) (by decide))))
theorem ok_InvalidRows___init__ (T : Txt K mg c z) : FnOk P w K mg base (L2.CX P w) 1 z.a_InvalidRows___init__ z.fd_InvalidRows___init__ ["self", "at"] (spX1 K "at") := by
  exact ok_x1 T.F_InvalidRows___init__ sc_InvalidRows___init__ fun _ _ _ _ _ _ => pss_one (ps_est (pe_var rfl (Or.inl rfl) (by decide) (by decide)) (pe_var rfl (Or.inl rfl) (by decide) (by decide)))
theorem ok_is_integer (T : Txt K mg c z) : FnOk P w K mg base (L2.CX P w) 1 z.a_is_integer z.fd_is_integer ["thing"] (spI K 1 (G_is_integer c)) := by
  exact ok_fn T.F_is_integer sc_is_integer fun cdv A outer s H E hr tk po =>
    (pSs_one (pS_ret (pE_and (pE_isi T.its T.n_isinstance (pA_cons (pE_var 0) (pA_cons (pE_ty T.n_int (by decide +kernel)) pA_nil))) (pE_one (pE_not (pE_isi T.its T.n_isinstance (pA_cons (pE_var 0) (pA_cons (pE_ty T.n_bool (by decide +kernel)) pA_nil))))))))
theorem ok_between (T : Txt K mg c z) : FnOk P w K mg base (L2.CX P w) 2 z.a_between z.fd_between ["thing", "low", "high"] (spI K 3 (G_between c)) := by
  exact ok_fn T.F_between sc_between fun cdv A outer s H E hr tk po =>
    (pSs_one (pS_ret (pE_and (pE_call (ok_is_integer T) (hr.mono (by decide)) T.g_is_integer T.F_is_integer.kp T.b_is_integer tk (pA_cons (pE_var 0) pA_nil)) (pE_one (pE_chainI op_le op_le dc_dLe dc_dLe (pE_var 1) (pE_var 0) (pE_var 2))))))
theorem ok_checked_count (T : Txt K mg c z) : FnOk P w K mg base (L2.CX P w) 3 z.a_checked_count z.fd_checked_count ["n", "low", "high"] (spI K 3 (G_checked_count c)) := by
  exact ok_fn T.F_checked_count sc_checked_count fun cdv A outer s H E hr tk po =>
    (pSs_cons (pS_if (pT_not (pT_val (pE_call (ok_between T) (hr.mono (by decide)) T.g_between T.F_between.kp T.b_between tk (pA_cons (pE_var 0) (pA_cons (pE_var 1) (pA_cons (pE_var 2) pA_nil)))))) (pSs_one (pS_raise0 rfl tk T.x0_InvalidCount T.g_InvalidCount)) pSs_nil)
      (pSs_one (pS_ret (pE_var 0))))
theorem ok_form_fault_rows (T : Txt K mg c z) : FnOk P w K mg base (L2.CX P w) 2 z.a_form_fault_rows z.fd_form_fault_rows ["thing", "width", "most"] (spI K 3 (G_form_fault_rows c)) := by
  exact ok_fn T.F_form_fault_rows sc_form_fault_rows fun cdv A outer s H E hr tk po =>
    (pSs_cons (pS_if (PW.pt (pW_or (pT_not (pT_val (pE_isiT T.its T.n_isinstance (pA_cons (pE_var 0) (pA_cons (pE_tup (pA_cons (pE_ty T.n_list (by decide +kernel)) (pA_cons (pE_ty T.n_tuple (by decide +kernel)) pA_nil))) pA_nil))))) (pW_or1 (pT_gt (pE_len T.n_len (pA_cons (pE_var 0) pA_nil)) (pE_var 2))))) (pSs_one (pS_ret (pE_tup (pA_cons pE_str (pA_cons (pE_neg pE_int) pA_nil))))) pSs_nil)
      (pSs_cons (pS_for po rfl (pI_enum T.n_enumerate (pA_cons (pE_var 0) pA_nil)) (pG_tup (pg_tup rfl (pGs_cons (pG_name (i := 3) sc_form_fault_rows.nd) (pGs_cons (pG_name (i := 4) sc_form_fault_rows.nd) pGs_nil (pgs_cons (pG_name (i := 4) sc_form_fault_rows.nd) pGs_nil)) (pgs_cons (pG_name (i := 3) sc_form_fault_rows.nd) (pGs_cons (pG_name (i := 4) sc_form_fault_rows.nd) pGs_nil (pgs_cons (pG_name (i := 4) sc_form_fault_rows.nd) pGs_nil))))) (gCn_len (gCn_len (fun _ _ _ h => gNl_len h)))) (pSs_cons (pS_if (PW.pt (pW_or (pT_not (pT_val (pE_isi T.its T.n_isinstance (pA_cons (pE_var 4) (pA_cons (pE_ty T.n_tuple (by decide +kernel)) pA_nil))))) (pW_or1 (pT_ne hr (pE_len T.n_len (pA_cons (pE_var 4) pA_nil)) (pE_var 1))))) (pSs_one (pS_ret (pE_tup (pA_cons pE_str (pA_cons (pE_var 3) pA_nil))))) pSs_nil)
      (pSs_cons (pS_for po rfl (pI_seq (pE_var 4)) (pG_name (i := 5) sc_form_fault_rows.nd) (pSs_one (pS_if (pT_not (pT_val (pE_call (ok_is_integer T) (hr.mono (by decide)) T.g_is_integer T.F_is_integer.kp T.b_is_integer tk (pA_cons (pE_var 5) pA_nil)))) (pSs_one (pS_ret (pE_tup (pA_cons pE_str (pA_cons (pE_var 3) pA_nil))))) pSs_nil)))
      (pSs_one (pS_if (PW.pt (pW_or (pT_lt (pE_sub2 (pE_var 4) (pE_neg pE_int)) pE_int) (pW_or1 (pT_gt (pE_sub2 (pE_var 4) (pE_neg pE_int)) (pE_gint T.c_LAST_START))))) (pSs_one (pS_ret (pE_tup (pA_cons pE_str (pA_cons (pE_var 3) pA_nil))))) pSs_nil)))))
      (pSs_one (pS_ret pE_non))))
theorem ok_checked_sources (T : Txt K mg c z) : FnOk P w K mg base (L2.CX P w) 4 z.a_checked_sources z.fd_checked_sources ["n", "sources"] (spI K 2 (G_checked_sources c)) := by
  exact ok_fn T.F_checked_sources sc_checked_sources fun cdv A outer s H E hr tk po =>
    (pSs_cons (pS_expr (pE_call (ok_checked_count T) (hr.mono (by decide)) T.g_checked_count T.F_checked_count.kp T.b_checked_count tk (pA_cons (pE_var 0) (pA_cons pE_int (pA_cons (pE_gint T.c_MOST_HANDS_letters) pA_nil)))))
      (pSs_cons (pS_if (PW.pt (pW_or (pT_not (pT_val (pE_isiT T.its T.n_isinstance (pA_cons (pE_var 1) (pA_cons (pE_tup (pA_cons (pE_ty T.n_list (by decide +kernel)) (pA_cons (pE_ty T.n_tuple (by decide +kernel)) pA_nil))) pA_nil))))) (pW_or1 (pT_not (pT_chainI op_le op_le dc_dLe dc_dLe pE_int (pE_len T.n_len (pA_cons (pE_var 1) pA_nil)) (pE_gint T.c_MOST_LETTERS)))))) (pSs_one (pS_raise1 rfl tk T.x_InvalidRows T.xk_InvalidRows_at T.xi_InvalidRows T.xt_InvalidRows (ok_InvalidRows___init__ T) (hr.mono (by decide)) T.b_InvalidRows___init__ T.g_InvalidRows (pA_cons (pE_neg pE_int) pA_nil))) pSs_nil)
      (pSs_cons (pS_for po rfl (pI_enum T.n_enumerate (pA_cons (pE_var 1) pA_nil)) (pG_tup (pg_tup rfl (pGs_cons (pG_name (i := 2) sc_checked_sources.nd) (pGs_cons (pG_name (i := 3) sc_checked_sources.nd) pGs_nil (pgs_cons (pG_name (i := 3) sc_checked_sources.nd) pGs_nil)) (pgs_cons (pG_name (i := 2) sc_checked_sources.nd) (pGs_cons (pG_name (i := 3) sc_checked_sources.nd) pGs_nil (pgs_cons (pG_name (i := 3) sc_checked_sources.nd) pGs_nil))))) (gCn_len (gCn_len (fun _ _ _ h => gNl_len h)))) (pSs_one (pS_if (pT_not (pT_val (pE_call (ok_between T) (hr.mono (by decide)) T.g_between T.F_between.kp T.b_between tk (pA_cons (pE_var 3) (pA_cons pE_int (pA_cons (pE_sub (pE_var 0) pE_int) pA_nil)))))) (pSs_one (pS_raise1 rfl tk T.x_InvalidRows T.xk_InvalidRows_at T.xi_InvalidRows T.xt_InvalidRows (ok_InvalidRows___init__ T) (hr.mono (by decide)) T.b_InvalidRows___init__ T.g_InvalidRows (pA_cons (pE_var 2) pA_nil))) pSs_nil)))
      (pSs_one (pS_ret (pE_list T.n_list (pA_cons (pE_var 1) pA_nil)))))))
theorem ok_number_fault (T : Txt K mg c z) : FnOk P w K mg base (L2.CX P w) 1 z.a_number_fault z.fd_number_fault ["n", "many", "rows"] (spI K 3 (G_number_fault c)) := by
  exact ok_fn T.F_number_fault sc_number_fault fun cdv A outer s H E hr tk po =>
    (pSs_cons (pS_for po rfl (pI_enum T.n_enumerate (pA_cons (pE_var 2) pA_nil)) (pG_tup (pg_tup rfl (pGs_cons (pG_name (i := 3) sc_number_fault.nd) (pGs_cons (pG_name (i := 4) sc_number_fault.nd) pGs_nil (pgs_cons (pG_name (i := 4) sc_number_fault.nd) pGs_nil)) (pgs_cons (pG_name (i := 3) sc_number_fault.nd) (pGs_cons (pG_name (i := 4) sc_number_fault.nd) pGs_nil (pgs_cons (pG_name (i := 4) sc_number_fault.nd) pGs_nil))))) (gCn_len (gCn_len (fun _ _ _ h => gNl_len h)))) (pSs_one (pS_if (pT_not (pT_chainI op_le op_lt dc_dLe dc_dLt pE_int (pE_sub2 (pE_var 4) pE_int) (pE_var 1))) (pSs_one (pS_ret (pE_tup (pA_cons pE_str (pA_cons (pE_var 3) pA_nil))))) pSs_nil)))
      (pSs_cons (pS_for po rfl (pI_enum T.n_enumerate (pA_cons (pE_var 2) pA_nil)) (pG_tup (pg_tup rfl (pGs_cons (pG_name (i := 3) sc_number_fault.nd) (pGs_cons (pG_tup (pg_tup rfl (pGs_cons (pG_name (i := 5) sc_number_fault.nd) (pGs_cons (pG_name (i := 6) sc_number_fault.nd) (pGs_cons (pG_name (i := 7) sc_number_fault.nd) (pGs_cons (pG_name (i := 8) sc_number_fault.nd) pGs_nil (pgs_cons (pG_name (i := 8) sc_number_fault.nd) pGs_nil)) (pgs_cons (pG_name (i := 7) sc_number_fault.nd) (pGs_cons (pG_name (i := 8) sc_number_fault.nd) pGs_nil (pgs_cons (pG_name (i := 8) sc_number_fault.nd) pGs_nil)))) (pgs_cons (pG_name (i := 6) sc_number_fault.nd) (pGs_cons (pG_name (i := 7) sc_number_fault.nd) (pGs_cons (pG_name (i := 8) sc_number_fault.nd) pGs_nil (pgs_cons (pG_name (i := 8) sc_number_fault.nd) pGs_nil)) (pgs_cons (pG_name (i := 7) sc_number_fault.nd) (pGs_cons (pG_name (i := 8) sc_number_fault.nd) pGs_nil (pgs_cons (pG_name (i := 8) sc_number_fault.nd) pGs_nil)))))) (pgs_cons (pG_name (i := 5) sc_number_fault.nd) (pGs_cons (pG_name (i := 6) sc_number_fault.nd) (pGs_cons (pG_name (i := 7) sc_number_fault.nd) (pGs_cons (pG_name (i := 8) sc_number_fault.nd) pGs_nil (pgs_cons (pG_name (i := 8) sc_number_fault.nd) pGs_nil)) (pgs_cons (pG_name (i := 7) sc_number_fault.nd) (pGs_cons (pG_name (i := 8) sc_number_fault.nd) pGs_nil (pgs_cons (pG_name (i := 8) sc_number_fault.nd) pGs_nil)))) (pgs_cons (pG_name (i := 6) sc_number_fault.nd) (pGs_cons (pG_name (i := 7) sc_number_fault.nd) (pGs_cons (pG_name (i := 8) sc_number_fault.nd) pGs_nil (pgs_cons (pG_name (i := 8) sc_number_fault.nd) pGs_nil)) (pgs_cons (pG_name (i := 7) sc_number_fault.nd) (pGs_cons (pG_name (i := 8) sc_number_fault.nd) pGs_nil (pgs_cons (pG_name (i := 8) sc_number_fault.nd) pGs_nil))))))))) (gCn_len (gCn_len (gCn_len (gCn_len (fun _ _ _ h => gNl_len h)))))) pGs_nil (pgs_cons (pG_tup (pg_tup rfl (pGs_cons (pG_name (i := 5) sc_number_fault.nd) (pGs_cons (pG_name (i := 6) sc_number_fault.nd) (pGs_cons (pG_name (i := 7) sc_number_fault.nd) (pGs_cons (pG_name (i := 8) sc_number_fault.nd) pGs_nil (pgs_cons (pG_name (i := 8) sc_number_fault.nd) pGs_nil)) (pgs_cons (pG_name (i := 7) sc_number_fault.nd) (pGs_cons (pG_name (i := 8) sc_number_fault.nd) pGs_nil (pgs_cons (pG_name (i := 8) sc_number_fault.nd) pGs_nil)))) (pgs_cons (pG_name (i := 6) sc_number_fault.nd) (pGs_cons (pG_name (i := 7) sc_number_fault.nd) (pGs_cons (pG_name (i := 8) sc_number_fault.nd) pGs_nil (pgs_cons (pG_name (i := 8) sc_number_fault.nd) pGs_nil)) (pgs_cons (pG_name (i := 7) sc_number_fault.nd) (pGs_cons (pG_name (i := 8) sc_number_fault.nd) pGs_nil (pgs_cons (pG_name (i := 8) sc_number_fault.nd) pGs_nil)))))) (pgs_cons (pG_name (i := 5) sc_number_fault.nd) (pGs_cons (pG_name (i := 6) sc_number_fault.nd) (pGs_cons (pG_name (i := 7) sc_number_fault.nd) (pGs_cons (pG_name (i := 8) sc_number_fault.nd) pGs_nil (pgs_cons (pG_name (i := 8) sc_number_fault.nd) pGs_nil)) (pgs_cons (pG_name (i := 7) sc_number_fault.nd) (pGs_cons (pG_name (i := 8) sc_number_fault.nd) pGs_nil (pgs_cons (pG_name (i := 8) sc_number_fault.nd) pGs_nil)))) (pgs_cons (pG_name (i := 6) sc_number_fault.nd) (pGs_cons (pG_name (i := 7) sc_number_fault.nd) (pGs_cons (pG_name (i := 8) sc_number_fault.nd) pGs_nil (pgs_cons (pG_name (i := 8) sc_number_fault.nd) pGs_nil)) (pgs_cons (pG_name (i := 7) sc_number_fault.nd) (pGs_cons (pG_name (i := 8) sc_number_fault.nd) pGs_nil (pgs_cons (pG_name (i := 8) sc_number_fault.nd) pGs_nil))))))))) (gCn_len (gCn_len (gCn_len (gCn_len (fun _ _ _ h => gNl_len h)))))) pGs_nil)) (pgs_cons (pG_name (i := 3) sc_number_fault.nd) (pGs_cons (pG_tup (pg_tup rfl (pGs_cons (pG_name (i := 5) sc_number_fault.nd) (pGs_cons (pG_name (i := 6) sc_number_fault.nd) (pGs_cons (pG_name (i := 7) sc_number_fault.nd) (pGs_cons (pG_name (i := 8) sc_number_fault.nd) pGs_nil (pgs_cons (pG_name (i := 8) sc_number_fault.nd) pGs_nil)) (pgs_cons (pG_name (i := 7) sc_number_fault.nd) (pGs_cons (pG_name (i := 8) sc_number_fault.nd) pGs_nil (pgs_cons (pG_name (i := 8) sc_number_fault.nd) pGs_nil)))) (pgs_cons (pG_name (i := 6) sc_number_fault.nd) (pGs_cons (pG_name (i := 7) sc_number_fault.nd) (pGs_cons (pG_name (i := 8) sc_number_fault.nd) pGs_nil (pgs_cons (pG_name (i := 8) sc_number_fault.nd) pGs_nil)) (pgs_cons (pG_name (i := 7) sc_number_fault.nd) (pGs_cons (pG_name (i := 8) sc_number_fault.nd) pGs_nil (pgs_cons (pG_name (i := 8) sc_number_fault.nd) pGs_nil)))))) (pgs_cons (pG_name (i := 5) sc_number_fault.nd) (pGs_cons (pG_name (i := 6) sc_number_fault.nd) (pGs_cons (pG_name (i := 7) sc_number_fault.nd) (pGs_cons (pG_name (i := 8) sc_number_fault.nd) pGs_nil (pgs_cons (pG_name (i := 8) sc_number_fault.nd) pGs_nil)) (pgs_cons (pG_name (i := 7) sc_number_fault.nd) (pGs_cons (pG_name (i := 8) sc_number_fault.nd) pGs_nil (pgs_cons (pG_name (i := 8) sc_number_fault.nd) pGs_nil)))) (pgs_cons (pG_name (i := 6) sc_number_fault.nd) (pGs_cons (pG_name (i := 7) sc_number_fault.nd) (pGs_cons (pG_name (i := 8) sc_number_fault.nd) pGs_nil (pgs_cons (pG_name (i := 8) sc_number_fault.nd) pGs_nil)) (pgs_cons (pG_name (i := 7) sc_number_fault.nd) (pGs_cons (pG_name (i := 8) sc_number_fault.nd) pGs_nil (pgs_cons (pG_name (i := 8) sc_number_fault.nd) pGs_nil))))))))) (gCn_len (gCn_len (gCn_len (gCn_len (fun _ _ _ h => gNl_len h)))))) pGs_nil (pgs_cons (pG_tup (pg_tup rfl (pGs_cons (pG_name (i := 5) sc_number_fault.nd) (pGs_cons (pG_name (i := 6) sc_number_fault.nd) (pGs_cons (pG_name (i := 7) sc_number_fault.nd) (pGs_cons (pG_name (i := 8) sc_number_fault.nd) pGs_nil (pgs_cons (pG_name (i := 8) sc_number_fault.nd) pGs_nil)) (pgs_cons (pG_name (i := 7) sc_number_fault.nd) (pGs_cons (pG_name (i := 8) sc_number_fault.nd) pGs_nil (pgs_cons (pG_name (i := 8) sc_number_fault.nd) pGs_nil)))) (pgs_cons (pG_name (i := 6) sc_number_fault.nd) (pGs_cons (pG_name (i := 7) sc_number_fault.nd) (pGs_cons (pG_name (i := 8) sc_number_fault.nd) pGs_nil (pgs_cons (pG_name (i := 8) sc_number_fault.nd) pGs_nil)) (pgs_cons (pG_name (i := 7) sc_number_fault.nd) (pGs_cons (pG_name (i := 8) sc_number_fault.nd) pGs_nil (pgs_cons (pG_name (i := 8) sc_number_fault.nd) pGs_nil)))))) (pgs_cons (pG_name (i := 5) sc_number_fault.nd) (pGs_cons (pG_name (i := 6) sc_number_fault.nd) (pGs_cons (pG_name (i := 7) sc_number_fault.nd) (pGs_cons (pG_name (i := 8) sc_number_fault.nd) pGs_nil (pgs_cons (pG_name (i := 8) sc_number_fault.nd) pGs_nil)) (pgs_cons (pG_name (i := 7) sc_number_fault.nd) (pGs_cons (pG_name (i := 8) sc_number_fault.nd) pGs_nil (pgs_cons (pG_name (i := 8) sc_number_fault.nd) pGs_nil)))) (pgs_cons (pG_name (i := 6) sc_number_fault.nd) (pGs_cons (pG_name (i := 7) sc_number_fault.nd) (pGs_cons (pG_name (i := 8) sc_number_fault.nd) pGs_nil (pgs_cons (pG_name (i := 8) sc_number_fault.nd) pGs_nil)) (pgs_cons (pG_name (i := 7) sc_number_fault.nd) (pGs_cons (pG_name (i := 8) sc_number_fault.nd) pGs_nil (pgs_cons (pG_name (i := 8) sc_number_fault.nd) pGs_nil))))))))) (gCn_len (gCn_len (gCn_len (gCn_len (fun _ _ _ h => gNl_len h)))))) pGs_nil))))) (gCn_len (gCn_len (fun _ _ _ h => gNl_len h)))) (pSs_one (pS_if (PW.pt (pW_or (pT_not (pT_chainI op_le op_lt dc_dLe dc_dLt pE_int (pE_var 6) (pE_var 0))) (pW_or (pT_not (pT_chainI op_le op_lt dc_dLe dc_dLt pE_int (pE_var 7) (pE_var 0))) (pW_or1 (pT_eq hr (pE_var 6) (pE_var 7)))))) (pSs_one (pS_ret (pE_tup (pA_cons pE_str (pA_cons (pE_var 3) pA_nil))))) pSs_nil)))
      (pSs_one (pS_ret pE_non))))
theorem ok_Machine___init__ (T : Txt K mg c z) : FnOk P w K mg base (L2.CX P w) 3 z.a_Machine___init__ z.fd_Machine___init__ ["self", "o", "l", "g"] (spI K 4 (G_Machine___init__ c)) := by
  exact ok_fn T.F_Machine___init__ sc_Machine___init__ fun cdv A outer s H E hr tk po =>
    (pSs_cons (pS_if (pT_not (pT_val (pE_call (ok_between T) (hr.mono (by decide)) T.g_between T.F_between.kp T.b_between tk (pA_cons (pE_var 1) (pA_cons pE_int (pA_cons (pE_gint T.c_GREATEST) pA_nil)))))) (pSs_one (pS_raise1 rfl tk T.x_InvalidMachine T.xk_InvalidMachine_part T.xi_InvalidMachine T.xt_InvalidMachine (ok_InvalidMachine___init__ T) (hr.mono (by decide)) T.b_InvalidMachine___init__ T.g_InvalidMachine (pA_cons pE_str pA_nil))) pSs_nil)
      (pSs_cons (pS_if (pT_not (pT_val (pE_call (ok_between T) (hr.mono (by decide)) T.g_between T.F_between.kp T.b_between tk (pA_cons (pE_var 2) (pA_cons pE_int (pA_cons (pE_gint T.c_GREATEST) pA_nil)))))) (pSs_one (pS_raise1 rfl tk T.x_InvalidMachine T.xk_InvalidMachine_part T.xi_InvalidMachine T.xt_InvalidMachine (ok_InvalidMachine___init__ T) (hr.mono (by decide)) T.b_InvalidMachine___init__ T.g_InvalidMachine (pA_cons pE_str pA_nil))) pSs_nil)
      (pSs_cons (pS_if (pT_not (pT_val (pE_call (ok_between T) (hr.mono (by decide)) T.g_between T.F_between.kp T.b_between tk (pA_cons (pE_var 3) (pA_cons pE_int (pA_cons (pE_gint T.c_GREATEST) pA_nil)))))) (pSs_one (pS_raise1 rfl tk T.x_InvalidMachine T.xk_InvalidMachine_part T.xi_InvalidMachine T.xt_InvalidMachine (ok_InvalidMachine___init__ T) (hr.mono (by decide)) T.b_InvalidMachine___init__ T.g_InvalidMachine (pA_cons pE_str pA_nil))) pSs_nil)
      (pSs_cons (pS_if (pT_eq hr (pE_add (pE_mul pE_int (pE_var 1)) (pE_var 2)) pE_int) (pSs_one (pS_raise1 rfl tk T.x_InvalidMachine T.xk_InvalidMachine_part T.xi_InvalidMachine T.xt_InvalidMachine (ok_InvalidMachine___init__ T) (hr.mono (by decide)) T.b_InvalidMachine___init__ T.g_InvalidMachine (pA_cons pE_str pA_nil))) pSs_nil)
      (pSs_cons (pS_fld T.f_o (pE_var 0) (pE_var 1))
      (pSs_cons (pS_fld T.f_l (pE_var 0) (pE_var 2))
      (pSs_cons (pS_fld T.f_g (pE_var 0) (pE_var 3))
      (pSs_cons (pS_fld T.f_letter (pE_var 0) (pE_add (pE_mul pE_int (pE_var 1)) (pE_var 2)))
      (pSs_one (pS_fld T.f_gap (pE_var 0) (pE_max rfl T.n_max (pA_cons (pE_var 1) (pA_cons (pE_var 3) pA_nil)))))))))))))
theorem ok_plan_fault_texts (T : Txt K mg c z) : FnOk P w K mg base (L2.CX P w) 3 z.a_plan_fault_texts z.fd_plan_fault_texts ["n", "rows"] (spI K 2 (G_plan_fault_texts c)) := by
  exact ok_fn T.F_plan_fault_texts sc_plan_fault_texts fun cdv A outer s H E hr tk po =>
    (pSs_cons (pS_set (i := 2) sc_plan_fault_texts.nd (pE_call (ok_form_fault_rows T) (hr.mono (by decide)) T.g_form_fault_rows T.F_form_fault_rows.kp T.b_form_fault_rows tk (pA_cons (pE_var 1) (pA_cons pE_int (pA_cons (pE_gint T.c_MOST_TELLS) pA_nil)))))
      (pSs_cons (pS_if (pT_isnot (pE_var 2) pE_non) (pSs_one (pS_ret (pE_var 2))) pSs_nil)
      (pSs_cons (pS_for po rfl (pI_enum T.n_enumerate (pA_cons (pE_var 1) pA_nil)) (pG_tup (pg_tup rfl (pGs_cons (pG_name (i := 3) sc_plan_fault_texts.nd) (pGs_cons (pG_tup (pg_tup rfl (pGs_cons (pG_name (i := 4) sc_plan_fault_texts.nd) (pGs_cons (pG_name (i := 5) sc_plan_fault_texts.nd) (pGs_cons (pG_name (i := 6) sc_plan_fault_texts.nd) pGs_nil (pgs_cons (pG_name (i := 6) sc_plan_fault_texts.nd) pGs_nil)) (pgs_cons (pG_name (i := 5) sc_plan_fault_texts.nd) (pGs_cons (pG_name (i := 6) sc_plan_fault_texts.nd) pGs_nil (pgs_cons (pG_name (i := 6) sc_plan_fault_texts.nd) pGs_nil)))) (pgs_cons (pG_name (i := 4) sc_plan_fault_texts.nd) (pGs_cons (pG_name (i := 5) sc_plan_fault_texts.nd) (pGs_cons (pG_name (i := 6) sc_plan_fault_texts.nd) pGs_nil (pgs_cons (pG_name (i := 6) sc_plan_fault_texts.nd) pGs_nil)) (pgs_cons (pG_name (i := 5) sc_plan_fault_texts.nd) (pGs_cons (pG_name (i := 6) sc_plan_fault_texts.nd) pGs_nil (pgs_cons (pG_name (i := 6) sc_plan_fault_texts.nd) pGs_nil))))))) (gCn_len (gCn_len (gCn_len (fun _ _ _ h => gNl_len h))))) pGs_nil (pgs_cons (pG_tup (pg_tup rfl (pGs_cons (pG_name (i := 4) sc_plan_fault_texts.nd) (pGs_cons (pG_name (i := 5) sc_plan_fault_texts.nd) (pGs_cons (pG_name (i := 6) sc_plan_fault_texts.nd) pGs_nil (pgs_cons (pG_name (i := 6) sc_plan_fault_texts.nd) pGs_nil)) (pgs_cons (pG_name (i := 5) sc_plan_fault_texts.nd) (pGs_cons (pG_name (i := 6) sc_plan_fault_texts.nd) pGs_nil (pgs_cons (pG_name (i := 6) sc_plan_fault_texts.nd) pGs_nil)))) (pgs_cons (pG_name (i := 4) sc_plan_fault_texts.nd) (pGs_cons (pG_name (i := 5) sc_plan_fault_texts.nd) (pGs_cons (pG_name (i := 6) sc_plan_fault_texts.nd) pGs_nil (pgs_cons (pG_name (i := 6) sc_plan_fault_texts.nd) pGs_nil)) (pgs_cons (pG_name (i := 5) sc_plan_fault_texts.nd) (pGs_cons (pG_name (i := 6) sc_plan_fault_texts.nd) pGs_nil (pgs_cons (pG_name (i := 6) sc_plan_fault_texts.nd) pGs_nil))))))) (gCn_len (gCn_len (gCn_len (fun _ _ _ h => gNl_len h))))) pGs_nil)) (pgs_cons (pG_name (i := 3) sc_plan_fault_texts.nd) (pGs_cons (pG_tup (pg_tup rfl (pGs_cons (pG_name (i := 4) sc_plan_fault_texts.nd) (pGs_cons (pG_name (i := 5) sc_plan_fault_texts.nd) (pGs_cons (pG_name (i := 6) sc_plan_fault_texts.nd) pGs_nil (pgs_cons (pG_name (i := 6) sc_plan_fault_texts.nd) pGs_nil)) (pgs_cons (pG_name (i := 5) sc_plan_fault_texts.nd) (pGs_cons (pG_name (i := 6) sc_plan_fault_texts.nd) pGs_nil (pgs_cons (pG_name (i := 6) sc_plan_fault_texts.nd) pGs_nil)))) (pgs_cons (pG_name (i := 4) sc_plan_fault_texts.nd) (pGs_cons (pG_name (i := 5) sc_plan_fault_texts.nd) (pGs_cons (pG_name (i := 6) sc_plan_fault_texts.nd) pGs_nil (pgs_cons (pG_name (i := 6) sc_plan_fault_texts.nd) pGs_nil)) (pgs_cons (pG_name (i := 5) sc_plan_fault_texts.nd) (pGs_cons (pG_name (i := 6) sc_plan_fault_texts.nd) pGs_nil (pgs_cons (pG_name (i := 6) sc_plan_fault_texts.nd) pGs_nil))))))) (gCn_len (gCn_len (gCn_len (fun _ _ _ h => gNl_len h))))) pGs_nil (pgs_cons (pG_tup (pg_tup rfl (pGs_cons (pG_name (i := 4) sc_plan_fault_texts.nd) (pGs_cons (pG_name (i := 5) sc_plan_fault_texts.nd) (pGs_cons (pG_name (i := 6) sc_plan_fault_texts.nd) pGs_nil (pgs_cons (pG_name (i := 6) sc_plan_fault_texts.nd) pGs_nil)) (pgs_cons (pG_name (i := 5) sc_plan_fault_texts.nd) (pGs_cons (pG_name (i := 6) sc_plan_fault_texts.nd) pGs_nil (pgs_cons (pG_name (i := 6) sc_plan_fault_texts.nd) pGs_nil)))) (pgs_cons (pG_name (i := 4) sc_plan_fault_texts.nd) (pGs_cons (pG_name (i := 5) sc_plan_fault_texts.nd) (pGs_cons (pG_name (i := 6) sc_plan_fault_texts.nd) pGs_nil (pgs_cons (pG_name (i := 6) sc_plan_fault_texts.nd) pGs_nil)) (pgs_cons (pG_name (i := 5) sc_plan_fault_texts.nd) (pGs_cons (pG_name (i := 6) sc_plan_fault_texts.nd) pGs_nil (pgs_cons (pG_name (i := 6) sc_plan_fault_texts.nd) pGs_nil))))))) (gCn_len (gCn_len (gCn_len (fun _ _ _ h => gNl_len h))))) pGs_nil))))) (gCn_len (gCn_len (fun _ _ _ h => gNl_len h)))) (pSs_one (pS_if (PW.pt (pW_or (pT_not (pT_chainI op_le op_lt dc_dLe dc_dLt pE_int (pE_var 4) (pE_var 0))) (pW_or (pT_not (pT_chainI op_lt op_lt dc_dLt dc_dLt pE_int (pE_var 5) (pE_var 0))) (pW_or1 (pT_eq hr (pE_var 4) (pE_var 5)))))) (pSs_one (pS_ret (pE_tup (pA_cons pE_str (pA_cons (pE_var 3) pA_nil))))) pSs_nil)))
      (pSs_one (pS_ret pE_non)))))
theorem ok_letters_plan_fault (T : Txt K mg c z) : FnOk P w K mg base (L2.CX P w) 3 z.a_letters_plan_fault z.fd_letters_plan_fault ["n", "many", "rows"] (spI K 3 (G_letters_plan_fault c)) := by
  exact ok_fn T.F_letters_plan_fault sc_letters_plan_fault fun cdv A outer s H E hr tk po =>
    (pSs_cons (pS_set (i := 3) sc_letters_plan_fault.nd (pE_call (ok_form_fault_rows T) (hr.mono (by decide)) T.g_form_fault_rows T.F_form_fault_rows.kp T.b_form_fault_rows tk (pA_cons (pE_var 2) (pA_cons pE_int (pA_cons (pE_gint T.c_MOST_SENDS) pA_nil)))))
      (pSs_cons (pS_if (pT_is (pE_var 3) pE_non) (pSs_one (pS_set (i := 3) sc_letters_plan_fault.nd (pE_call (ok_number_fault T) (hr.mono (by decide)) T.g_number_fault T.F_number_fault.kp T.b_number_fault tk (pA_cons (pE_var 0) (pA_cons (pE_var 1) (pA_cons (pE_var 2) pA_nil)))))) pSs_nil)
      (pSs_one (pS_ret (pE_var 3)))))
theorem ok_write_sheet (T : Txt K mg c z) : FnOk P w K mg base (L2.CX P w) 5 z.a_write_sheet z.fd_write_sheet ["machine", "n", "rows", "sources"] (spI K 4 (G_write_sheet c)) := by
  exact FnOk.imp (ok_fn T.F_write_sheet sc_write_sheet fun cdv A outer s H E hr tk po =>
    (pSs_cons (pS_set (i := 4) sc_write_sheet.nd (pE_lst pA_nil))
      (pSs_cons (pS_set (i := 5) sc_write_sheet.nd pE_str)
      (pSs_cons (pS_if (pT_is (pE_var 3) pE_non) (pSs_cons (pS_expr (pE_call (ok_checked_count T) (hr.mono (by decide)) T.g_checked_count T.F_checked_count.kp T.b_checked_count tk (pA_cons (pE_var 1) (pA_cons pE_int (pA_cons (pE_gint T.c_MOST_HANDS_texts) pA_nil)))))
      (pSs_one (pS_set (i := 6) sc_write_sheet.nd (pE_call (ok_plan_fault_texts T) (hr.mono (by decide)) T.g_plan_fault_texts T.F_plan_fault_texts.kp T.b_plan_fault_texts tk (pA_cons (pE_var 1) (pA_cons (pE_var 2) pA_nil)))))) (pSs_cons (pS_set (i := 4) sc_write_sheet.nd (pE_call (ok_checked_sources T) (hr.mono (by decide)) T.g_checked_sources T.F_checked_sources.kp T.b_checked_sources tk (pA_cons (pE_var 1) (pA_cons (pE_var 3) pA_nil))))
      (pSs_cons (pS_set (i := 5) sc_write_sheet.nd pE_str)
      (pSs_one (pS_set (i := 6) sc_write_sheet.nd (pE_call (ok_letters_plan_fault T) (hr.mono (by decide)) T.g_letters_plan_fault T.F_letters_plan_fault.kp T.b_letters_plan_fault tk (pA_cons (pE_var 1) (pA_cons (pE_len T.n_len (pA_cons (pE_var 4) pA_nil)) (pA_cons (pE_var 2) pA_nil)))))))))
      (pSs_cons (pS_if (pT_isnot (pE_var 6) pE_non) (pSs_one (pS_raise2 rfl tk T.x_InvalidPlan T.xk_InvalidPlan_why T.xk_InvalidPlan_at T.xi_InvalidPlan T.xt_InvalidPlan (ok_InvalidPlan___init__ T) (hr.mono (by decide)) T.b_InvalidPlan___init__ T.g_InvalidPlan (pA_cons (pE_sub2 (pE_var 6) pE_int) (pA_cons (pE_sub2 (pE_var 6) pE_int) pA_nil)))) pSs_nil)
      (pSs_cons (pS_set (i := 7) sc_write_sheet.nd (pE_lstT (pA_cons (pE_joined (pJ_cons pE_str (pJ_cons (pE_fmt (pE_fld T.f_o (pE_var 0))) (pJ_cons pE_str (pJ_cons (pE_fmt (pE_fld T.f_l (pE_var 0))) (pJ_cons pE_str (pJ_cons (pE_fmt (pE_fld T.f_g (pE_var 0))) pJ_nil))))))) (pA_cons (pE_joined (pJ_cons pE_str (pJ_cons (pE_fmt (pE_var 1)) pJ_nil))) pA_nil))))
      (pSs_cons (pS_for po rfl (pI_seq (pE_var 4)) (pG_name (i := 8) sc_write_sheet.nd) (pSs_one (pS_expr (pE_append (pE_var 7) (pA_cons (pE_joined (pJ_cons pE_str (pJ_cons (pE_fmt (pE_var 8)) pJ_nil))) pA_nil)))))
      (pSs_cons (pS_for po rfl (pI_seq (pE_var 2)) (pG_name (i := 9) sc_write_sheet.nd) (pSs_one (pS_expr (pE_append (pE_var 7) (pA_cons (pE_join pE_str (pE_lst (pA_cons (pE_var 5) (pA_star (pE_lc rfl sc_write_sheet.nd (pI_seq (pE_var 9)) (blkOk_by (N := ["machine", "n", "rows", "sources", "hands", "word", "wrong", "lines", "hand", "row", "number"]) (sc := defScope s_write_sheet) (own := [("number", 10)]) (by decide +kernel)) (kg_name (by decide)) mon_name (fun _ _ _ _ _ => (pg_name (i := 10) sc_write_sheet.nd rfl (by first | exact Or.inl rfl | exact Or.inr rfl))) (fun _ _ _ _ _ => pTs_nil) (fun _ _ _ _ _ => (pE_str1 T.n_str (pA_cons (pE_var 10) pA_nil)))) pA_nil)))) pA_nil)))))
      (pSs_one (pS_ret (pE_add (pE_join pE_str (pE_var 7)) pE_str))))))))))) spI_pure
theorem ok__law_source (T : Txt K mg c z) : FnOk P w K mg base (L2.CX P w) 1 z.a__law_source z.fd__law_source ["_law_script"] (spI K 1 (G__law_source c)) := by
  exact ok_fn T.F__law_source sc__law_source fun cdv A outer s H E hr tk po =>
    (pSs_one (pS_ret (pE_lstT (pA_cons (pE_lc rfl sc__law_source.nd (pI_seq (weak_sl (pE_var 0) pO_none (pO_some pE_int))) (blkOk_by (N := ["_law_script", "_law_cell"]) (sc := defScope s__law_source) (own := [("_law_cell", 1)]) (by decide +kernel)) (kg_name (by decide)) mon_name (fun _ _ _ _ _ => (pg_name (i := 1) sc__law_source.nd rfl (by first | exact Or.inl rfl | exact Or.inr rfl))) (fun _ _ _ _ _ => pTs_nil) (fun _ _ _ _ _ => (pE_int1 T.n_int (pA_cons (pE_var 1) pA_nil)))) (pA_cons pE_int (pA_cons pE_int (pA_cons pE_int (pA_cons pE_int pA_nil))))))))
theorem ok__law_draw (T : Txt K mg c z) : FnOk P w K mg base (L2.CX P w) 1 z.a__law_draw z.fd__law_draw ["_law_source_here", "_law_limit"] (spI K 2 (G__law_draw c)) := by
  exact ok_fn T.F__law_draw sc__law_draw fun cdv A outer s H E hr tk po =>
    (pSs_cons (pS_augSL (pE_var 0) pE_int pE_int)
      (pSs_cons (pS_if (PW.pt (pW_and (pT_eq hr (pE_sub2 (pE_var 0) pE_int) pE_int) (pW_and1 (pT_lt (pE_sub2 (pE_var 0) pE_int) (pE_len T.n_len (pA_cons (pE_sub2 (pE_var 0) pE_int) pA_nil)))))) (pSs_cons (pS_set (i := 2) sc__law_draw.nd (pE_sub2 (pE_sub2 (pE_var 0) pE_int) (pE_sub2 (pE_var 0) pE_int)))
      (pSs_cons (pS_augSL (pE_var 0) pE_int pE_int)
      (pSs_one (pS_if (pT_ge (pE_var 2) (pE_pow pE_int pE_int)) (pSs_one (pS_put putl_list (ps_asg (pE_var 2) (pg_sub (pE_var 0) pE_int set_list)))) (pSs_one (pS_put putl_list (ps_asg (pE_mod (pE_int1 T.n_int (pA_cons (pE_add (pE_add (pE_mul (pE_sub2 (pE_var 0) pE_int) pE_int) (pE_mul (pE_var 2) pE_int)) pE_int) pA_nil)) pE_int) (pg_sub (pE_var 0) pE_int set_list)))))))) pSs_nil)
      (pSs_cons (pS_if (pT_gt (pE_sub2 (pE_var 0) pE_int) pE_int) (pSs_cons (pS_set (i := 3) sc__law_draw.nd (pE_mod (pE_int1 T.n_int (pA_cons (pE_sub2 (pE_var 0) pE_int) pA_nil)) (pE_var 1)))
      (pSs_cons (pS_put putl_list (ps_asg (pE_div (pE_sub2 (pE_var 0) pE_int) (pE_var 1)) (pg_sub (pE_var 0) pE_int set_list)))
      (pSs_one (pS_ret (pE_var 3))))) pSs_nil)
      (pSs_cons (pS_set (i := 4) sc__law_draw.nd (pE_mod (pE_int1 T.n_int (pA_cons (pE_mul (pE_add (pE_add (pE_sub2 (pE_var 0) pE_int) (pE_mul pE_int (pE_sub2 (pE_var 0) pE_int))) pE_int) pE_int) pA_nil)) pE_int))
      (pSs_cons (pS_set (i := 5) sc__law_draw.nd (pE_mod (pE_int1 T.n_int (pA_cons (pE_mul (pE_var 4) (pE_add (pE_div (pE_var 4) pE_int) pE_int)) pA_nil)) pE_int))
      (pSs_cons (pS_set (i := 6) sc__law_draw.nd (pE_mod (pE_int1 T.n_int (pA_cons (pE_mul (pE_var 5) (pE_add (pE_div (pE_var 5) pE_int) pE_int)) pA_nil)) pE_int))
      (pSs_one (pS_ret (pE_mod (pE_int1 T.n_int (pA_cons (pE_div (pE_var 6) pE_int) pA_nil)) (pE_var 1))))))))))
theorem ok__law_wide (T : Txt K mg c z) : FnOk P w K mg base (L2.CX P w) 2 z.a__law_wide z.fd__law_wide ["_law_source_here", "_law_limit"] (spI K 2 (G__law_wide c)) := by
  exact ok_fn T.F__law_wide sc__law_wide fun cdv A outer s H E hr tk po =>
    (pSs_cons (pS_if (pT_le (pE_var 1) pE_int) (pSs_one (pS_ret (pE_call (ok__law_draw T) (hr.mono (by decide)) T.g__law_draw T.F__law_draw.kp T.b__law_draw tk (pA_cons (pE_var 0) (pA_cons (pE_var 1) pA_nil))))) pSs_nil)
      (pSs_cons (pS_set (i := 2) sc__law_wide.nd (pE_call (ok__law_draw T) (hr.mono (by decide)) T.g__law_draw T.F__law_draw.kp T.b__law_draw tk (pA_cons (pE_var 0) (pA_cons pE_int pA_nil))))
      (pSs_cons (pS_set (i := 3) sc__law_wide.nd (pE_call (ok__law_draw T) (hr.mono (by decide)) T.g__law_draw T.F__law_draw.kp T.b__law_draw tk (pA_cons (pE_var 0) (pA_cons pE_int pA_nil))))
      (pSs_cons (pS_set (i := 4) sc__law_wide.nd (pE_call (ok__law_draw T) (hr.mono (by decide)) T.g__law_draw T.F__law_draw.kp T.b__law_draw tk (pA_cons (pE_var 0) (pA_cons pE_int pA_nil))))
      (pSs_one (pS_ret (pE_mod (pE_int1 T.n_int (pA_cons (pE_add (pE_mul (pE_add (pE_mul (pE_var 2) pE_int) (pE_var 3)) pE_int) (pE_var 4)) pA_nil)) (pE_var 1))))))))
theorem ok__law_numbers (T : Txt K mg c z) : FnOk P w K mg base (L2.CX P w) 3 z.a__law_numbers z.fd__law_numbers ["_law_source_here"] (spI K 1 (G__law_numbers c)) := by
  exact ok_fn T.F__law_numbers sc__law_numbers fun cdv A outer s H E hr tk po =>
    (pSs_cons (pS_set (i := 1) sc__law_numbers.nd (pE_sub2 (pE_lst (pA_cons pE_int (pA_cons pE_int (pA_cons pE_int (pA_cons pE_int (pA_cons (pE_add (pE_pow pE_int pE_int) pE_int) pA_nil)))))) (pE_call (ok__law_draw T) (hr.mono (by decide)) T.g__law_draw T.F__law_draw.kp T.b__law_draw tk (pA_cons (pE_var 0) (pA_cons pE_int pA_nil)))))
      (pSs_cons (pS_set (i := 2) sc__law_numbers.nd (pE_call (ok__law_draw T) (hr.mono (by decide)) T.g__law_draw T.F__law_draw.kp T.b__law_draw tk (pA_cons (pE_var 0) (pA_cons pE_int pA_nil))))
      (pSs_cons (pS_set (i := 3) sc__law_numbers.nd (pE_call (ok__law_wide T) (hr.mono (by decide)) T.g__law_wide T.F__law_wide.kp T.b__law_wide tk (pA_cons (pE_var 0) (pA_cons (pE_var 1) pA_nil))))
      (pSs_cons (pS_set (i := 4) sc__law_numbers.nd (pE_call (ok__law_wide T) (hr.mono (by decide)) T.g__law_wide T.F__law_wide.kp T.b__law_wide tk (pA_cons (pE_var 0) (pA_cons (pE_var 1) pA_nil))))
      (pSs_cons (pS_set (i := 5) sc__law_numbers.nd (pE_add pE_int (pE_call (ok__law_wide T) (hr.mono (by decide)) T.g__law_wide T.F__law_wide.kp T.b__law_wide tk (pA_cons (pE_var 0) (pA_cons (pE_sub (pE_var 1) pE_int) pA_nil)))))
      (pSs_cons (pS_if (pT_eq hr (pE_var 2) pE_int) (pSs_one (pS_set (i := 3) sc__law_numbers.nd pE_int)) pSs_nil)
      (pSs_cons (pS_if (pT_eq hr (pE_var 2) pE_int) (pSs_one (pS_set (i := 4) sc__law_numbers.nd pE_int)) pSs_nil)
      (pSs_cons (pS_if (PW.pt (pW_and (pT_eq hr (pE_var 2) pE_int) (pW_and1 (pT_gt (pE_var 1) pE_int)))) (pSs_one (pS_set (i := 5) sc__law_numbers.nd (pE_add pE_int (pE_mod (pE_int1 T.n_int (pA_cons (pE_var 5) pA_nil)) pE_int)))) pSs_nil)
      (pSs_cons (pS_if (pT_eq hr (pE_add (pE_mul pE_int (pE_var 3)) (pE_var 4)) pE_int) (pSs_one (pS_set (i := 4) sc__law_numbers.nd pE_int)) pSs_nil)
      (pSs_one (pS_ret (pE_tup (pA_cons (pE_var 3) (pA_cons (pE_var 4) (pA_cons (pE_var 5) pA_nil)))))))))))))))
theorem ok__law_integer (T : Txt K mg c z) : FnOk P w K mg base (L2.CX P w) 1 z.a__law_integer z.fd__law_integer ["_law_thing"] (spI K 1 (G__law_integer c)) := by
  exact ok_fn T.F__law_integer sc__law_integer fun cdv A outer s H E hr tk po =>
    (pSs_one (pS_ret (pE_and (pE_isi T.its T.n_isinstance (pA_cons (pE_var 0) (pA_cons (pE_ty T.n_int (by decide +kernel)) pA_nil))) (pE_one (pE_not (pE_isi T.its T.n_isinstance (pA_cons (pE_var 0) (pA_cons (pE_ty T.n_bool (by decide +kernel)) pA_nil))))))))
theorem okn__law_same (T : Txt K mg c z) : ∀ n : Nat, FnOk P w K mg base (L2.CX P w) (2 + n) z.a__law_same z.fd__law_same ["_law_told", "_law_due"] (spI K 2 (Gn__law_same c n))
  | 0 => ok_fn T.F__law_same sc__law_same fun cdv A outer s H E hr tk po => pSs_bad
  | n + 1 => have ih := okn__law_same T n
    ok_fn T.F__law_same sc__law_same fun cdv A outer s H E hr tk po =>
    (pSs_cons (pS_if (pT_is (pE_var 1) pE_non) (pSs_one (pS_ret (pE_is (pE_var 0) pE_non))) pSs_nil)
      (pSs_cons (pS_if (pT_val (pE_isi T.its T.n_isinstance (pA_cons (pE_var 1) (pA_cons (pE_ty T.n_bool (by decide +kernel)) pA_nil)))) (pSs_one (pS_ret (pE_and (pE_isi T.its T.n_isinstance (pA_cons (pE_var 0) (pA_cons (pE_ty T.n_bool (by decide +kernel)) pA_nil))) (pE_one (pE_eq hr (pE_var 0) (pE_var 1)))))) pSs_nil)
      (pSs_cons (pS_if (pT_val (pE_isi T.its T.n_isinstance (pA_cons (pE_var 1) (pA_cons (pE_ty T.n_int (by decide +kernel)) pA_nil)))) (pSs_one (pS_ret (pE_and (pE_call (ok__law_integer T) (hr.mono (Nat.le_trans (by decide) (Nat.le_add_right _ n))) T.g__law_integer T.F__law_integer.kp T.b__law_integer tk (pA_cons (pE_var 0) pA_nil)) (pE_one (pE_eq hr (pE_var 0) (pE_var 1)))))) pSs_nil)
      (pSs_cons (pS_if (pT_val (pE_isi T.its T.n_isinstance (pA_cons (pE_var 1) (pA_cons (pE_ty T.n_str (by decide +kernel)) pA_nil)))) (pSs_one (pS_ret (pE_and (pE_isi T.its T.n_isinstance (pA_cons (pE_var 0) (pA_cons (pE_ty T.n_str (by decide +kernel)) pA_nil))) (pE_one (pE_eq hr (pE_var 0) (pE_var 1)))))) pSs_nil)
      (pSs_cons (pS_if (PW.pt (pW_and (pT_val (pE_isi T.its T.n_isinstance (pA_cons (pE_var 1) (pA_cons (pE_ty T.n_list (by decide +kernel)) pA_nil)))) (pW_and1 (pT_not (pT_val (pE_isi T.its T.n_isinstance (pA_cons (pE_var 0) (pA_cons (pE_ty T.n_list (by decide +kernel)) pA_nil)))))))) (pSs_one (pS_ret pE_bl)) pSs_nil)
      (pSs_cons (pS_if (PW.pt (pW_and (pT_val (pE_isi T.its T.n_isinstance (pA_cons (pE_var 1) (pA_cons (pE_ty T.n_tuple (by decide +kernel)) pA_nil)))) (pW_and1 (pT_not (pT_val (pE_isi T.its T.n_isinstance (pA_cons (pE_var 0) (pA_cons (pE_ty T.n_tuple (by decide +kernel)) pA_nil)))))))) (pSs_one (pS_ret pE_bl)) pSs_nil)
      (pSs_cons (pS_if (pT_ne hr (pE_len T.n_len (pA_cons (pE_var 0) pA_nil)) (pE_len T.n_len (pA_cons (pE_var 1) pA_nil))) (pSs_one (pS_ret pE_bl)) pSs_nil)
      (pSs_cons (pS_for po rfl (pI_rng1 T.n_range (pA_cons (pE_len T.n_len (pA_cons (pE_var 1) pA_nil)) pA_nil)) (pG_name (i := 2) sc__law_same.nd) (pSs_one (pS_if (pT_not (pT_val (pE_call ih (hr.mono (Nat.le_refl _)) T.g__law_same T.F__law_same.kp T.b__law_same tk (pA_cons (pE_sub2 (pE_var 0) (pE_var 2)) (pA_cons (pE_sub2 (pE_var 1) (pE_var 2)) pA_nil))))) (pSs_one (pS_ret pE_bl)) pSs_nil)))
      (pSs_one (pS_ret pE_bl))))))))))
theorem ok__law_same (T : Txt K mg c z) : FnOk P w K mg base (L2.CX P w) 26 z.a__law_same z.fd__law_same ["_law_told", "_law_due"] (spI K 2 (G__law_same c)) := okn__law_same T 24
theorem ok__law_form (T : Txt K mg c z) : FnOk P w K mg base (L2.CX P w) 2 z.a__law_form z.fd__law_form ["_law_thing", "_law_width", "_law_most"] (spI K 3 (G__law_form c)) := by
  exact ok_fn T.F__law_form sc__law_form fun cdv A outer s H E hr tk po =>
    (pSs_cons (pS_if (PW.pt (pW_or (pT_not (pT_val (pE_isiT T.its T.n_isinstance (pA_cons (pE_var 0) (pA_cons (pE_tup (pA_cons (pE_ty T.n_list (by decide +kernel)) (pA_cons (pE_ty T.n_tuple (by decide +kernel)) pA_nil))) pA_nil))))) (pW_or1 (pT_gt (pE_len T.n_len (pA_cons (pE_var 0) pA_nil)) (pE_var 2))))) (pSs_one (pS_ret (pE_tup (pA_cons pE_str (pA_cons (pE_neg pE_int) pA_nil))))) pSs_nil)
      (pSs_cons (pS_for po rfl (pI_rng1 T.n_range (pA_cons (pE_len T.n_len (pA_cons (pE_var 0) pA_nil)) pA_nil)) (pG_name (i := 3) sc__law_form.nd) (pSs_cons (pS_set (i := 4) sc__law_form.nd (pE_sub2 (pE_var 0) (pE_var 3)))
      (pSs_cons (pS_if (PW.pt (pW_or (pT_not (pT_val (pE_isi T.its T.n_isinstance (pA_cons (pE_var 4) (pA_cons (pE_ty T.n_tuple (by decide +kernel)) pA_nil))))) (pW_or1 (pT_ne hr (pE_len T.n_len (pA_cons (pE_var 4) pA_nil)) (pE_var 1))))) (pSs_one (pS_ret (pE_tup (pA_cons pE_str (pA_cons (pE_var 3) pA_nil))))) pSs_nil)
      (pSs_cons (pS_if (pT_not (pT_val (pE_all rfl T.n_all (pA_cons (pE_lc rfl sc__law_form.nd (pI_seq (pE_var 4)) (blkOk_by (N := ["_law_thing", "_law_width", "_law_most", "_law_at", "_law_row", "_law_number"]) (sc := defScope s__law_form) (own := [("_law_number", 5)]) (by decide +kernel)) (kg_name (by decide)) mon_name (fun _ _ _ _ _ => (pg_name (i := 5) sc__law_form.nd rfl (by first | exact Or.inl rfl | exact Or.inr rfl))) (fun _ _ _ _ _ => pTs_nil) (fun _ _ _ _ _ => (pE_call (ok__law_integer T) (hr.mono (by decide)) T.g__law_integer T.F__law_integer.kp T.b__law_integer tk0 (pA_cons (pE_var 5) pA_nil)))) pA_nil)))) (pSs_one (pS_ret (pE_tup (pA_cons pE_str (pA_cons (pE_var 3) pA_nil))))) pSs_nil)
      (pSs_one (pS_if (PW.pt (pW_or (pT_lt (pE_sub2 (pE_var 4) (pE_sub (pE_var 1) pE_int)) pE_int) (pW_or1 (pT_gt (pE_sub2 (pE_var 4) (pE_sub (pE_var 1) pE_int)) (pE_pow pE_int pE_int))))) (pSs_one (pS_ret (pE_tup (pA_cons pE_str (pA_cons (pE_var 3) pA_nil))))) pSs_nil))))))
      (pSs_one (pS_ret pE_non))))
theorem ok__law_odd (T : Txt K mg c z) : FnOk P w K mg base (L2.CX P w) 2 z.a__law_odd z.fd__law_odd ["_law_source_here", "_law_width"] (spI K 2 (G__law_odd c)) := by
  exact ok_fn T.F__law_odd sc__law_odd fun cdv A outer s H E hr tk po =>
    (pSs_cons (pS_set (i := 2) sc__law_odd.nd (pE_add (pE_tuple T.n_tuple (pA_cons (pE_lc rfl sc__law_odd.nd (pI_rng1 T.n_range (pA_cons (pE_sub (pE_var 1) pE_int) pA_nil)) (blkOk_by (N := ["_law_source_here", "_law_width", "_law_base", "_law_odd_here", "_law_k"]) (sc := defScope s__law_odd) (own := [("_law_k", 4)]) (by decide +kernel)) (kg_name (by decide)) mon_name (fun _ _ _ _ _ => (pg_name (i := 4) sc__law_odd.nd rfl (by first | exact Or.inl rfl | exact Or.inr rfl))) (fun _ _ _ _ _ => pTs_nil) (fun _ _ _ _ _ => pE_int)) pA_nil)) (pE_tup (pA_cons pE_int (pA_cons pE_int (pA_cons pE_int pA_nil))))))
      (pSs_cons (pS_set (i := 3) sc__law_odd.nd (pE_lst (pA_cons pE_non (pA_cons pE_int (pA_cons pE_str (pA_cons (pE_tup pA_nil) (pA_cons (pE_list T.n_list (pA_cons (pE_var 2) pA_nil)) (pA_cons (weak_sl (pE_var 2) pO_none (pO_some (pE_sub (pE_var 1) pE_int))) (pA_cons (pE_add (pE_var 2) (pE_tup (pA_cons pE_int pA_nil))) (pA_cons (pE_add (weak_sl (pE_var 2) pO_none (pO_some (pE_sub (pE_var 1) pE_int))) (pE_tup (pA_cons pE_non pA_nil))) pA_nil))))))))))
      (pSs_cons (pS_set (i := 3) sc__law_odd.nd (pE_add (pE_var 3) (pE_lst (pA_cons (pE_add (weak_sl (pE_var 2) pO_none (pO_some (pE_sub (pE_var 1) pE_int))) (pE_tup (pA_cons pE_bl pA_nil))) (pA_cons (pE_add (pE_tup (pA_cons pE_str pA_nil)) (weak_sl (pE_var 2) (pO_some pE_int) pO_none)) (pA_cons (pE_add (pE_tup (pA_cons pE_bl pA_nil)) (weak_sl (pE_var 2) (pO_some pE_int) pO_none)) (pA_cons (pE_add (weak_sl (pE_var 2) pO_none (pO_some (pE_sub (pE_var 1) pE_int))) (pE_tup (pA_cons (pE_neg pE_int) pA_nil))) pA_nil)))))))
      (pSs_cons (pS_set (i := 3) sc__law_odd.nd (pE_add (pE_var 3) (pE_lst (pA_cons (pE_add (weak_sl (pE_var 2) pO_none (pO_some (pE_sub (pE_var 1) pE_int))) (pE_tup (pA_cons (pE_add (pE_pow pE_int pE_int) pE_int) pA_nil))) (pA_cons (pE_tup (pA_cons (pE_var 2) pA_nil)) (pA_cons pE_dict0 (pA_cons (pE_add (weak_sl (pE_var 2) pO_none (pO_some (pE_sub (pE_var 1) pE_int))) (pE_tup (pA_cons (pE_tup (pA_cons pE_int pA_nil)) pA_nil))) pA_nil)))))))
      (pSs_one (pS_ret (pE_sub2 (pE_var 3) (pE_call (ok__law_draw T) (hr.mono (by decide)) T.g__law_draw T.F__law_draw.kp T.b__law_draw tk (pA_cons (pE_var 0) (pA_cons (pE_len T.n_len (pA_cons (pE_var 3) pA_nil)) pA_nil))))))))))
theorem ok__law_changed (T : Txt K mg c z) : FnOk P w K mg base (L2.CX P w) 2 z.a__law_changed z.fd__law_changed ["_law_source_here", "_law_row", "_law_n"] (spI K 3 (G__law_changed c)) := by
  exact ok_fn T.F__law_changed sc__law_changed fun cdv A outer s H E hr tk po =>
    (pSs_cons (pS_set (i := 3) sc__law_changed.nd (pE_len T.n_len (pA_cons (pE_var 1) pA_nil)))
      (pSs_cons (pS_set (i := 4) sc__law_changed.nd (pE_sub2 (pE_lst (pA_cons (pE_sub (pE_var 3) pE_int) (pA_cons (pE_sub (pE_var 3) pE_int) (pA_cons (pE_call (ok__law_draw T) (hr.mono (by decide)) T.g__law_draw T.F__law_draw.kp T.b__law_draw tk (pA_cons (pE_var 0) (pA_cons (pE_var 3) pA_nil))) pA_nil)))) (pE_call (ok__law_draw T) (hr.mono (by decide)) T.g__law_draw T.F__law_draw.kp T.b__law_draw tk (pA_cons (pE_var 0) (pA_cons pE_int pA_nil)))))
      (pSs_cons (pS_set (i := 5) sc__law_changed.nd (pE_sub2 (pE_var 1) (pE_var 4)))
      (pSs_cons (pS_set (i := 6) sc__law_changed.nd (pE_lst (pA_cons (pE_add (pE_var 5) pE_int) (pA_cons (pE_sub (pE_var 5) pE_int) (pA_cons (pE_add (pE_var 5) pE_int) (pA_cons (pE_sub (pE_var 5) pE_int) (pA_cons pE_int (pA_cons (pE_var 2) (pA_cons (pE_neg pE_int) (pA_cons (pE_sub (pE_var 2) pE_int) (pA_cons (pE_call (ok__law_draw T) (hr.mono (by decide)) T.g__law_draw T.F__law_draw.kp T.b__law_draw tk (pA_cons (pE_var 0) (pA_cons (pE_add (pE_var 2) pE_int) pA_nil))) pA_nil)))))))))))
      (pSs_cons (pS_set (i := 6) sc__law_changed.nd (pE_add (pE_var 6) (pE_lst (pA_cons (pE_pow pE_int pE_int) (pA_cons (pE_add (pE_pow pE_int pE_int) pE_int) (pA_cons (pE_add (pE_var 5) pE_int) (pA_cons (pE_max rfl T.n_max (pA_cons pE_int (pA_cons (pE_sub (pE_var 5) pE_int) pA_nil))) (pA_cons pE_bl (pA_cons (pE_pow pE_int pE_int) pA_nil)))))))))
      (pSs_one (pS_ret (pE_add (pE_add (weak_sl (pE_var 1) pO_none (pO_some (pE_var 4))) (pE_tup (pA_cons (pE_sub2 (pE_var 6) (pE_call (ok__law_draw T) (hr.mono (by decide)) T.g__law_draw T.F__law_draw.kp T.b__law_draw tk (pA_cons (pE_var 0) (pA_cons (pE_len T.n_len (pA_cons (pE_var 6) pA_nil)) pA_nil)))) pA_nil))) (weak_sl (pE_var 1) (pO_some (pE_add (pE_var 4) pE_int)) pO_none)))))))))
theorem ok__law_spoilt (T : Txt K mg c z) : FnOk P w K mg base (L2.CX P w) 3 z.a__law_spoilt z.fd__law_spoilt ["_law_source_here", "_law_rows_here", "_law_width", "_law_n"] (spI K 4 (G__law_spoilt c)) := by
  exact FnOk.imp (ok_fn T.F__law_spoilt sc__law_spoilt fun cdv A outer s H E hr tk po =>
    (pSs_cons (pS_set (i := 4) sc__law_spoilt.nd (pE_call (ok__law_draw T) (hr.mono (by decide)) T.g__law_draw T.F__law_draw.kp T.b__law_draw tk (pA_cons (pE_var 0) (pA_cons pE_int pA_nil))))
      (pSs_cons (pS_set (i := 1) sc__law_spoilt.nd (pE_listT T.n_list (pA_cons (pE_var 1) pA_nil)))
      (pSs_cons (pS_if (PW.pt (pW_or (pT_eq hr (pE_var 4) pE_int) (pW_or1 (pT_eq hr (pE_len T.n_len (pA_cons (pE_var 1) pA_nil)) pE_int)))) (pSs_cons (pS_expr (pE_insert (pE_var 1) (pA_cons (pE_call (ok__law_draw T) (hr.mono (by decide)) T.g__law_draw T.F__law_draw.kp T.b__law_draw tk (pA_cons (pE_var 0) (pA_cons (pE_add (pE_len T.n_len (pA_cons (pE_var 1) pA_nil)) pE_int) pA_nil))) (pA_cons (pE_call (ok__law_odd T) (hr.mono (by decide)) T.g__law_odd T.F__law_odd.kp T.b__law_odd tk (pA_cons (pE_var 0) (pA_cons (pE_var 2) pA_nil))) pA_nil))))
      (pSs_one (pS_ret (pE_var 1)))) pSs_nil)
      (pSs_cons (pS_set (i := 5) sc__law_spoilt.nd (pE_call (ok__law_draw T) (hr.mono (by decide)) T.g__law_draw T.F__law_draw.kp T.b__law_draw tk (pA_cons (pE_var 0) (pA_cons (pE_len T.n_len (pA_cons (pE_var 1) pA_nil)) pA_nil))))
      (pSs_cons (pS_set (i := 6) sc__law_spoilt.nd (pE_sub2 (pE_var 1) (pE_var 5)))
      (pSs_cons (pS_set (i := 7) sc__law_spoilt.nd (pE_and (pE_isi T.its T.n_isinstance (pA_cons (pE_var 6) (pA_cons (pE_ty T.n_tuple (by decide +kernel)) pA_nil))) (pE_and (pE_eq hr (pE_len T.n_len (pA_cons (pE_var 6) pA_nil)) (pE_var 2)) (pE_one (pE_all rfl T.n_all (pA_cons (pE_lc rfl sc__law_spoilt.nd (pI_seq (pE_var 6)) (blkOk_by (N := ["_law_source_here", "_law_rows_here", "_law_width", "_law_n", "_law_choice", "_law_at", "_law_row", "_law_plain", "_law_number"]) (sc := defScope s__law_spoilt) (own := [("_law_number", 8)]) (by decide +kernel)) (kg_name (by decide)) mon_name (fun _ _ _ _ _ => (pg_name (i := 8) sc__law_spoilt.nd rfl (by first | exact Or.inl rfl | exact Or.inr rfl))) (fun _ _ _ _ _ => pTs_nil) (fun _ _ _ _ _ => (pE_call (ok__law_integer T) (hr.mono (by decide)) T.g__law_integer T.F__law_integer.kp T.b__law_integer tk0 (pA_cons (pE_var 8) pA_nil)))) pA_nil))))))
      (pSs_cons (pS_if (pT_eq hr (pE_var 4) pE_int) (pSs_one (pS_expr (pE_popAt (pE_var 1) (pA_cons (pE_var 5) pA_nil)))) (pSs_one (pS_if (pT_eq hr (pE_var 4) pE_int) (pSs_one (pS_expr (pE_insert (pE_var 1) (pA_cons (pE_call (ok__law_draw T) (hr.mono (by decide)) T.g__law_draw T.F__law_draw.kp T.b__law_draw tk (pA_cons (pE_var 0) (pA_cons (pE_add (pE_len T.n_len (pA_cons (pE_var 1) pA_nil)) pE_int) pA_nil))) (pA_cons (pE_var 6) pA_nil))))) (pSs_one (pS_if (PW.pt (pW_and (pT_eq hr (pE_var 4) pE_int) (pW_and1 (pT_val (pE_var 7))))) (pSs_one (pS_put putl_list (ps_asg (pE_add (weak_sl (pE_var 6) pO_none (pO_some (pE_sub (pE_var 2) pE_int))) (pE_tup (pA_cons (pE_sub2 (pE_var 6) (pE_sub (pE_var 2) pE_int)) (pA_cons (pE_sub2 (pE_var 6) (pE_sub (pE_var 2) pE_int)) (pA_cons (pE_sub2 (pE_var 6) (pE_sub (pE_var 2) pE_int)) pA_nil))))) (pg_sub (pE_var 1) (pE_var 5) set_list)))) (pSs_one (pS_if (pT_val (pE_var 7)) (pSs_one (pS_put putl_list (ps_asg (pE_call (ok__law_changed T) (hr.mono (by decide)) T.g__law_changed T.F__law_changed.kp T.b__law_changed tk (pA_cons (pE_var 0) (pA_cons (pE_var 6) (pA_cons (pE_var 3) pA_nil)))) (pg_sub (pE_var 1) (pE_var 5) set_list)))) (pSs_one (pS_put putl_list (ps_asg (pE_call (ok__law_odd T) (hr.mono (by decide)) T.g__law_odd T.F__law_odd.kp T.b__law_odd tk (pA_cons (pE_var 0) (pA_cons (pE_var 2) pA_nil))) (pg_sub (pE_var 1) (pE_var 5) set_list)))))))))))
      (pSs_one (pS_ret (pE_var 1))))))))))) spI_cut
theorem ok__law_rows (T : Txt K mg c z) : FnOk P w K mg base (L2.CX P w) 3 z.a__law_rows z.fd__law_rows ["_law_source_here", "_law_n", "_law_many", "_law_letters"] (spI K 4 (G__law_rows c)) := by
  exact FnOk.imp (ok_fn T.F__law_rows sc__law_rows fun cdv A outer s H E hr tk po =>
    (pSs_cons (pS_set (i := 4) sc__law_rows.nd (pE_lstT pA_nil))
      (pSs_cons (pS_for po rfl (pI_rng1 T.n_range (pA_cons (pE_var 2) pA_nil)) (pG_name (i := 5) sc__law_rows.nd) (pSs_cons (pS_set (i := 6) sc__law_rows.nd (pE_call (ok__law_draw T) (hr.mono (by decide)) T.g__law_draw T.F__law_draw.kp T.b__law_draw tk (pA_cons (pE_var 0) (pA_cons (pE_var 1) pA_nil))))
      (pSs_cons (pS_set (i := 7) sc__law_rows.nd (pE_call (ok__law_draw T) (hr.mono (by decide)) T.g__law_draw T.F__law_draw.kp T.b__law_draw tk (pA_cons (pE_var 0) (pA_cons (pE_var 1) pA_nil))))
      (pSs_cons (pS_if (PW.pt (pW_and (pT_eq hr (pE_var 7) pE_int) (pW_and1 (pT_eq hr (pE_var 3) pE_int)))) (pSs_one (pS_set (i := 7) sc__law_rows.nd (pE_sub (pE_var 1) pE_int))) pSs_nil)
      (pSs_cons (pS_if (PW.pt (pW_and (pT_eq hr (pE_var 7) (pE_var 6)) (pW_and1 (pT_gt (pE_var 6) pE_int)))) (pSs_one (pS_set (i := 6) sc__law_rows.nd (pE_sub (pE_var 6) pE_int))) (pSs_one (pS_if (pT_eq hr (pE_var 7) (pE_var 6)) (pSs_one (pS_set (i := 7) sc__law_rows.nd (pE_sub (pE_var 1) pE_int))) pSs_nil)))
      (pSs_cons (pS_set (i := 8) sc__law_rows.nd (pE_sub2 (pE_lst (pA_cons (pE_call (ok__law_draw T) (hr.mono (by decide)) T.g__law_draw T.F__law_draw.kp T.b__law_draw tk (pA_cons (pE_var 0) (pA_cons pE_int pA_nil))) (pA_cons (pE_call (ok__law_wide T) (hr.mono (by decide)) T.g__law_wide T.F__law_wide.kp T.b__law_wide tk (pA_cons (pE_var 0) (pA_cons (pE_add (pE_pow pE_int pE_int) pE_int) pA_nil))) (pA_cons (pE_pow pE_int pE_int) (pA_cons pE_int pA_nil))))) (pE_call (ok__law_draw T) (hr.mono (by decide)) T.g__law_draw T.F__law_draw.kp T.b__law_draw tk (pA_cons (pE_var 0) (pA_cons pE_int pA_nil)))))
      (pSs_one (pS_if (pT_eq hr (pE_var 3) pE_int) (pSs_one (pS_expr (pE_append (pE_var 4) (pA_cons (pE_tup (pA_cons (pE_var 6) (pA_cons (pE_var 7) (pA_cons (pE_var 8) pA_nil)))) pA_nil)))) (pSs_one (pS_expr (pE_append (pE_var 4) (pA_cons (pE_tup (pA_cons (pE_call (ok__law_draw T) (hr.mono (by decide)) T.g__law_draw T.F__law_draw.kp T.b__law_draw tk (pA_cons (pE_var 0) (pA_cons (pE_var 3) pA_nil))) (pA_cons (pE_var 6) (pA_cons (pE_var 7) (pA_cons (pE_var 8) pA_nil))))) pA_nil))))))))))))
      (pSs_one (pS_ret (pE_var 4)))))) spI_cut
theorem ok__law_sheet (T : Txt K mg c z) : FnOk P w K mg base (L2.CX P w) 1 z.a__law_sheet z.fd__law_sheet ["_law_numbers_here", "_law_n", "_law_sources", "_law_rows_here"] (spI K 4 (G__law_sheet c)) := by
  exact ok_fn T.F__law_sheet sc__law_sheet fun cdv A outer s H E hr tk po =>
    (pSs_cons (pS_set (i := 4) sc__law_sheet.nd (pE_lst (pA_cons (pE_add pE_str (pE_join pE_str (pE_lc rfl sc__law_sheet.nd (pI_seq (pE_var 0)) (blkOk_by (N := ["_law_numbers_here", "_law_n", "_law_sources", "_law_rows_here", "_law_lines", "_law_word", "_law_number", "_law_hand", "_law_row"]) (sc := defScope s__law_sheet) (own := [("_law_number", 6)]) (by decide +kernel)) (kg_name (by decide)) mon_name (fun _ _ _ _ _ => (pg_name (i := 6) sc__law_sheet.nd rfl (by first | exact Or.inl rfl | exact Or.inr rfl))) (fun _ _ _ _ _ => pTs_nil) (fun _ _ _ _ _ => (pE_str1 T.n_str (pA_cons (pE_var 6) pA_nil)))))) (pA_cons (pE_add pE_str (pE_str1 T.n_str (pA_cons (pE_var 1) pA_nil))) pA_nil))))
      (pSs_cons (pS_set (i := 5) sc__law_sheet.nd pE_str)
      (pSs_cons (pS_if (pT_isnot (pE_var 2) pE_non) (pSs_cons (pS_set (i := 4) sc__law_sheet.nd (pE_add (pE_var 4) (pE_lc rfl sc__law_sheet.nd (pI_seq (pE_var 2)) (blkOk_by (N := ["_law_numbers_here", "_law_n", "_law_sources", "_law_rows_here", "_law_lines", "_law_word", "_law_number", "_law_hand", "_law_row"]) (sc := defScope s__law_sheet) (own := [("_law_hand", 7)]) (by decide +kernel)) (kg_name (by decide)) mon_name (fun _ _ _ _ _ => (pg_name (i := 7) sc__law_sheet.nd rfl (by first | exact Or.inl rfl | exact Or.inr rfl))) (fun _ _ _ _ _ => pTs_nil) (fun _ _ _ _ _ => (pE_add pE_str (pE_str1 T.n_str (pA_cons (pE_var 7) pA_nil)))))))
      (pSs_one (pS_set (i := 5) sc__law_sheet.nd pE_str))) pSs_nil)
      (pSs_cons (pS_set (i := 4) sc__law_sheet.nd (pE_add (pE_var 4) (pE_lc rfl sc__law_sheet.nd (pI_seq (pE_var 3)) (blkOk_by (N := ["_law_numbers_here", "_law_n", "_law_sources", "_law_rows_here", "_law_lines", "_law_word", "_law_number", "_law_hand", "_law_row"]) (sc := defScope s__law_sheet) (own := [("_law_row", 8)]) (by decide +kernel)) (kg_name (by decide)) mon_name (fun _ _ _ _ _ => (pg_name (i := 8) sc__law_sheet.nd rfl (by first | exact Or.inl rfl | exact Or.inr rfl))) (fun _ _ _ _ _ => pTs_nil) (fun _ _ _ _ _ => (pE_add (pE_var 5) (pE_join pE_str (pE_lc rfl sc__law_sheet.nd (pI_seq (pE_var 8)) (blkOk_in (N := ["_law_numbers_here", "_law_n", "_law_sources", "_law_rows_here", "_law_lines", "_law_word", "_law_number", "_law_hand", "_law_row"]) (own := [("_law_number", 6)]) (by decide +kernel)) (kg_name (by decide)) mon_name (fun _ _ _ _ _ => (pg_name (i := 6) sc__law_sheet.nd rfl (by first | exact Or.inl rfl | exact Or.inr rfl))) (fun _ _ _ _ _ => pTs_nil) (fun _ _ _ _ _ => (pE_str1 T.n_str (pA_cons (pE_var 6) pA_nil))))))))))
      (pSs_one (pS_ret (pE_add (pE_join pE_str (pE_var 4)) pE_str)))))))
theorem ok__law_case (T : Txt K mg c z) : FnOk P w K mg base (L2.CX P w) 4 z.a__law_case z.fd__law_case ["_law_source_here"] (spI K 1 (G__law_case c)) := by
  exact ok_fn T.F__law_case sc__law_case fun cdv A outer s H E hr tk po =>
    (pSs_cons (pS_set (i := 1) sc__law_case.nd (pE_call (ok__law_numbers T) (hr.mono (by decide)) T.g__law_numbers T.F__law_numbers.kp T.b__law_numbers tk (pA_cons (pE_var 0) pA_nil)))
      (pSs_cons (pS_set (i := 2) sc__law_case.nd (pE_sub2 (pE_lst (pA_cons pE_int (pA_cons pE_int (pA_cons pE_int (pA_cons pE_int (pA_cons pE_int (pA_cons pE_int pA_nil))))))) (pE_call (ok__law_draw T) (hr.mono (by decide)) T.g__law_draw T.F__law_draw.kp T.b__law_draw tk (pA_cons (pE_var 0) (pA_cons pE_int pA_nil)))))
      (pSs_cons (pS_set (i := 3) sc__law_case.nd pE_non)
      (pSs_cons (pS_if (PW.pt (pW_and (pT_gt (pE_var 2) pE_int) (pW_and (pT_lt (pE_var 2) pE_int) (pW_and1 (pT_eq hr (pE_call (ok__law_draw T) (hr.mono (by decide)) T.g__law_draw T.F__law_draw.kp T.b__law_draw tk (pA_cons (pE_var 0) (pA_cons pE_int pA_nil))) pE_int))))) (pSs_one (pS_setLc (i := 3) rfl sc__law_case.nd (sw_true rfl rfl rfl (by decide +kernel)) (pI_rng1 T.n_range (pA_cons (pE_sub2 (pE_lst (pA_cons pE_int (pA_cons pE_int (pA_cons pE_int (pA_cons pE_int pA_nil))))) (pE_call (ok__law_draw T) (hr.mono (by decide)) T.g__law_draw T.F__law_draw.kp T.b__law_draw tk (pA_cons (pE_var 0) (pA_cons pE_int pA_nil)))) pA_nil)) (blkOk_by (N := ["_law_source_here", "_law_numbers_here", "_law_n", "_law_sources", "_law_many", "_law_letters", "_law_k"]) (sc := defScope s__law_case) (own := [("_law_k", 6)]) (by decide +kernel)) (kg_name (by decide)) mon_name (fun _ _ _ _ _ => (pg_name (i := 6) sc__law_case.nd rfl (by first | exact Or.inl rfl | exact Or.inr rfl))) (fun _ _ _ _ _ => pTs_nil) (fun _ _ _ _ _ => (pE_call (ok__law_draw T) (hr.mono (by decide)) T.g__law_draw T.F__law_draw.kp T.b__law_draw tk0 (pA_cons (pE_var 0) (pA_cons (pE_var 2) pA_nil)))))) pSs_nil)
      (pSs_cons (pS_set (i := 4) sc__law_case.nd (pE_sub2 (pE_lst (pA_cons pE_int (pA_cons pE_int (pA_cons pE_int (pA_cons pE_int (pA_cons pE_int (pA_cons pE_int pA_nil))))))) (pE_call (ok__law_draw T) (hr.mono (by decide)) T.g__law_draw T.F__law_draw.kp T.b__law_draw tk (pA_cons (pE_var 0) (pA_cons pE_int pA_nil)))))
      (pSs_cons (pS_if (pT_eq hr (pE_var 2) pE_int) (pSs_one (pS_set (i := 4) sc__law_case.nd pE_int)) pSs_nil)
      (pSs_cons (pS_set (i := 5) sc__law_case.nd pE_int)
      (pSs_cons (pS_if (pT_isnot (pE_var 3) pE_non) (pSs_one (pS_set (i := 5) sc__law_case.nd (pE_len T.n_len (pA_cons (pE_var 3) pA_nil)))) pSs_nil)
      (pSs_one (pS_ret (pE_tup (pA_cons (pE_var 1) (pA_cons (pE_var 2) (pA_cons (pE_var 3) (pA_cons (pE_call (ok__law_rows T) (hr.mono (by decide)) T.g__law_rows T.F__law_rows.kp T.b__law_rows tk (pA_cons (pE_var 0) (pA_cons (pE_var 2) (pA_cons (pE_var 4) (pA_cons (pE_var 5) pA_nil))))) pA_nil)))))))))))))))
theorem ok__law_answer (T : Txt K mg c z) : FnOk P w K mg base (L2.CX P w) 6 z.a__law_answer z.fd__law_answer ["_law_machine", "_law_n", "_law_rows_here", "_law_sources"] (spI K 4 (G__law_answer c)) := by
  exact ok_fn T.F__law_answer sc__law_answer fun cdv A outer s H E hr tk po =>
    (pSs_cons (pS_tryM rfl rfl tk (fun _ _ _ tk po => (pSs_one (pS_set (i := 4) sc__law_answer.nd (pE_callK (kw_len0) T.kd_0 (ok_write_sheet T) (hr.mono (by decide)) T.g_write_sheet T.F_write_sheet.kp T.kb_0 tk (pA_cons (pE_var 0) (pA_cons (pE_var 1) (pA_cons (pE_var 2) pA_nil))) (pK_cons (pE_var 3) pK_nil))))) (.cons T.g_InvalidCount T.xs_InvalidCount (fun a0 oe0 C0 d0 pn0 hz hf => (pSs_one (pS_ret (pE_tup (pA_cons pE_str pA_nil))))) (.consAs (i := 5) sc__law_answer.nd T.g_InvalidRows T.xs_InvalidRows (fun a0 oe0 C0 d0 pn0 hz hf => (pSs_one (pS_ret (pE_tup (pA_cons pE_str (pA_cons (pE_xf T.xf_at hz hf (pE_var 5)) pA_nil)))))) (.consAs (i := 5) sc__law_answer.nd T.g_InvalidPlan T.xs_InvalidPlan (fun a0 oe0 C0 d0 pn0 hz hf => (pSs_one (pS_ret (pE_tup (pA_cons pE_str (pA_cons (pE_xf T.xf_why hz hf (pE_var 5)) (pA_cons (pE_xf T.xf_at hz hf (pE_var 5)) pA_nil))))))) .nil))))
      (pSs_one (pS_ret (pE_tup (pA_cons pE_str (pA_cons (pE_var 4) pA_nil))))))
theorem ok__law_hands_due (T : Txt K mg c z) : FnOk P w K mg base (L2.CX P w) 1 z.a__law_hands_due z.fd__law_hands_due ["_law_rows_here", "_law_n", "_law_least"] (spI K 3 (G__law_hands_due c)) := by
  exact ok_fn T.F__law_hands_due sc__law_hands_due fun cdv A outer s H E hr tk po =>
    (pSs_cons (pS_for po rfl (pI_rng1 T.n_range (pA_cons (pE_len T.n_len (pA_cons (pE_var 0) pA_nil)) pA_nil)) (pG_name (i := 3) sc__law_hands_due.nd) (pSs_cons (pS_asg (weak_sl (pE_sub2 (pE_var 0) (pE_var 3)) (pO_some (pE_neg pE_int)) (pO_some (pE_neg pE_int))) (pG_tup (pg_tup rfl (pGs_cons (pG_name (i := 4) sc__law_hands_due.nd) (pGs_cons (pG_name (i := 5) sc__law_hands_due.nd) pGs_nil (pgs_cons (pG_name (i := 5) sc__law_hands_due.nd) pGs_nil)) (pgs_cons (pG_name (i := 4) sc__law_hands_due.nd) (pGs_cons (pG_name (i := 5) sc__law_hands_due.nd) pGs_nil (pgs_cons (pG_name (i := 5) sc__law_hands_due.nd) pGs_nil))))) (gCn_len (gCn_len (fun _ _ _ h => gNl_len h)))) (ps_asg (weak_sl (pE_sub2 (pE_var 0) (pE_var 3)) (pO_some (pE_neg pE_int)) (pO_some (pE_neg pE_int))) (pG_tup (pg_tup rfl (pGs_cons (pG_name (i := 4) sc__law_hands_due.nd) (pGs_cons (pG_name (i := 5) sc__law_hands_due.nd) pGs_nil (pgs_cons (pG_name (i := 5) sc__law_hands_due.nd) pGs_nil)) (pgs_cons (pG_name (i := 4) sc__law_hands_due.nd) (pGs_cons (pG_name (i := 5) sc__law_hands_due.nd) pGs_nil (pgs_cons (pG_name (i := 5) sc__law_hands_due.nd) pGs_nil))))) (gCn_len (gCn_len (fun _ _ _ h => gNl_len h))))))
      (pSs_one (pS_if (PW.pt (pW_or (pT_lt (pE_var 4) pE_int) (pW_or (pT_ge (pE_var 4) (pE_var 1)) (pW_or (pT_lt (pE_var 5) (pE_var 2)) (pW_or (pT_ge (pE_var 5) (pE_var 1)) (pW_or1 (pT_eq hr (pE_var 4) (pE_var 5)))))))) (pSs_one (pS_ret (pE_tup (pA_cons pE_str (pA_cons pE_str (pA_cons (pE_var 3) pA_nil)))))) pSs_nil))))
      (pSs_one (pS_ret pE_non)))
theorem ok__law_rows_due (T : Txt K mg c z) : FnOk P w K mg base (L2.CX P w) 3 z.a__law_rows_due z.fd__law_rows_due ["_law_rows_here", "_law_n", "_law_sources"] (spI K 3 (G__law_rows_due c)) := by
  exact ok_fn T.F__law_rows_due sc__law_rows_due fun cdv A outer s H E hr tk po =>
    (pSs_cons (pS_if (pT_is (pE_var 2) pE_non) (pSs_one (pS_set (i := 3) sc__law_rows_due.nd (pE_call (ok__law_form T) (hr.mono (by decide)) T.g__law_form T.F__law_form.kp T.b__law_form tk (pA_cons (pE_var 0) (pA_cons pE_int (pA_cons pE_int pA_nil)))))) (pSs_one (pS_set (i := 3) sc__law_rows_due.nd (pE_call (ok__law_form T) (hr.mono (by decide)) T.g__law_form T.F__law_form.kp T.b__law_form tk (pA_cons (pE_var 0) (pA_cons pE_int (pA_cons pE_int pA_nil)))))))
      (pSs_cons (pS_if (pT_isnot (pE_var 3) pE_non) (pSs_one (pS_ret (pE_tup (pA_cons pE_str (pA_cons (pE_sub2 (pE_var 3) pE_int) (pA_cons (pE_sub2 (pE_var 3) pE_int) pA_nil)))))) pSs_nil)
      (pSs_cons (pS_if (pT_is (pE_var 2) pE_non) (pSs_one (pS_ret (pE_call (ok__law_hands_due T) (hr.mono (by decide)) T.g__law_hands_due T.F__law_hands_due.kp T.b__law_hands_due tk (pA_cons (pE_var 0) (pA_cons (pE_var 1) (pA_cons pE_int pA_nil)))))) pSs_nil)
      (pSs_cons (pS_for po rfl (pI_rng1 T.n_range (pA_cons (pE_len T.n_len (pA_cons (pE_var 0) pA_nil)) pA_nil)) (pG_name (i := 4) sc__law_rows_due.nd) (pSs_one (pS_if (PW.pt (pW_or (pT_lt (pE_sub2 (pE_sub2 (pE_var 0) (pE_var 4)) pE_int) pE_int) (pW_or1 (pT_ge (pE_sub2 (pE_sub2 (pE_var 0) (pE_var 4)) pE_int) (pE_len T.n_len (pA_cons (pE_var 2) pA_nil)))))) (pSs_one (pS_ret (pE_tup (pA_cons pE_str (pA_cons pE_str (pA_cons (pE_var 4) pA_nil)))))) pSs_nil)))
      (pSs_one (pS_ret (pE_call (ok__law_hands_due T) (hr.mono (by decide)) T.g__law_hands_due T.F__law_hands_due.kp T.b__law_hands_due tk (pA_cons (pE_var 0) (pA_cons (pE_var 1) (pA_cons pE_int pA_nil))))))))))
theorem ok__law_refused (T : Txt K mg c z) : FnOk P w K mg base (L2.CX P w) 27 z.a__law_refused z.fd__law_refused ["_law_source_here", "_law_machine", "_law_n", "_law_rows_here", "_law_sources"] (spI K 5 (G__law_refused c)) := by
  exact ok_fn T.F__law_refused sc__law_refused fun cdv A outer s H E hr tk po =>
    (pSs_cons (pS_set (i := 5) sc__law_refused.nd (pE_lst (pA_cons pE_int (pA_cons pE_int (pA_cons (pE_neg pE_int) (pA_cons pE_bl (pA_cons pE_non (pA_cons pE_str (pA_cons (pE_lst (pA_cons pE_int pA_nil)) (pA_cons (pE_add pE_int (pE_call (ok__law_wide T) (hr.mono (by decide)) T.g__law_wide T.F__law_wide.kp T.b__law_wide tk (pA_cons (pE_var 0) (pA_cons (pE_pow pE_int pE_int) pA_nil)))) pA_nil))))))))))
      (pSs_cons (pS_set (i := 6) sc__law_refused.nd (pE_sub2 (pE_var 5) (pE_call (ok__law_draw T) (hr.mono (by decide)) T.g__law_draw T.F__law_draw.kp T.b__law_draw tk (pA_cons (pE_var 0) (pA_cons (pE_len T.n_len (pA_cons (pE_var 5) pA_nil)) pA_nil)))))
      (pSs_cons (pS_if (PW.pt (pW_or (pT_ne hr (pE_call (ok__law_answer T) (hr.mono (by decide)) T.g__law_answer T.F__law_answer.kp T.b__law_answer tk (pA_cons (pE_var 1) (pA_cons (pE_var 6) (pA_cons (pE_var 3) (pA_cons (pE_var 4) pA_nil))))) (pE_tup (pA_cons pE_str pA_nil))) (pW_or1 (pT_ne hr (pE_call (ok__law_answer T) (hr.mono (by decide)) T.g__law_answer T.F__law_answer.kp T.b__law_answer tk (pA_cons (pE_var 1) (pA_cons (pE_var 6) (pA_cons pE_non (pA_cons (pE_lst (pA_cons (pE_var 6) pA_nil)) pA_nil))))) (pE_tup (pA_cons pE_str pA_nil)))))) (pSs_one (pS_ret pE_bl)) pSs_nil)
      (pSs_cons (pS_if (pT_ne hr (pE_call (ok__law_answer T) (hr.mono (by decide)) T.g__law_answer T.F__law_answer.kp T.b__law_answer tk (pA_cons (pE_var 1) (pA_cons (pE_sub2 (pE_lst (pA_cons pE_int (pA_cons pE_int (pA_cons pE_int pA_nil)))) (pE_call (ok__law_draw T) (hr.mono (by decide)) T.g__law_draw T.F__law_draw.kp T.b__law_draw tk (pA_cons (pE_var 0) (pA_cons pE_int pA_nil)))) (pA_cons (pE_var 3) (pA_cons (pE_lst (pA_cons pE_int pA_nil)) pA_nil))))) (pE_tup (pA_cons pE_str pA_nil))) (pSs_one (pS_ret pE_bl)) pSs_nil)
      (pSs_cons (pS_if (pT_is (pE_var 4) pE_non) (pSs_one (pS_ret pE_bl)) pSs_nil)
      (pSs_cons (pS_set (i := 7) sc__law_refused.nd (pE_call (ok__law_draw T) (hr.mono (by decide)) T.g__law_draw T.F__law_draw.kp T.b__law_draw tk (pA_cons (pE_var 0) (pA_cons (pE_len T.n_len (pA_cons (pE_var 4) pA_nil)) pA_nil))))
      (pSs_cons (pS_set (i := 8) sc__law_refused.nd (pE_add (pE_add (weak_sl (pE_var 4) pO_none (pO_some (pE_var 7))) (pE_lst (pA_cons (pE_sub2 (pE_lst (pA_cons (pE_var 2) (pA_cons (pE_neg pE_int) (pA_cons pE_non (pA_cons pE_bl (pA_cons pE_str pA_nil)))))) (pE_call (ok__law_draw T) (hr.mono (by decide)) T.g__law_draw T.F__law_draw.kp T.b__law_draw tk (pA_cons (pE_var 0) (pA_cons pE_int pA_nil)))) pA_nil))) (weak_sl (pE_var 4) (pO_some (pE_add (pE_var 7) pE_int)) pO_none)))
      (pSs_cons (pS_if (pT_not (pT_val (pE_call (ok__law_same T) (hr.mono (by decide)) T.g__law_same T.F__law_same.kp T.b__law_same tk (pA_cons (pE_call (ok__law_answer T) (hr.mono (by decide)) T.g__law_answer T.F__law_answer.kp T.b__law_answer tk (pA_cons (pE_var 1) (pA_cons (pE_var 2) (pA_cons (pE_sub2 (pE_lst (pA_cons (pE_var 3) (pA_cons pE_non pA_nil))) (pE_call (ok__law_draw T) (hr.mono (by decide)) T.g__law_draw T.F__law_draw.kp T.b__law_draw tk (pA_cons (pE_var 0) (pA_cons pE_int pA_nil)))) (pA_cons (pE_var 8) pA_nil))))) (pA_cons (pE_tup (pA_cons pE_str (pA_cons (pE_var 7) pA_nil))) pA_nil))))) (pSs_one (pS_ret pE_bl)) pSs_nil)
      (pSs_cons (pS_set (i := 9) sc__law_refused.nd (pE_lst (pA_cons (pE_lst pA_nil) (pA_cons (pE_tup pA_nil) (pA_cons pE_int (pA_cons pE_str (pA_cons pE_dict0 (pA_cons (pE_lc rfl sc__law_refused.nd (pI_rng1 T.n_range (pA_cons pE_int pA_nil)) (blkOk_by (N := ["_law_source_here", "_law_machine", "_law_n", "_law_rows_here", "_law_sources", "_law_wrong", "_law_count", "_law_at", "_law_bent", "_law_odd_here", "_law_k"]) (sc := defScope s__law_refused) (own := [("_law_k", 10)]) (by decide +kernel)) (kg_name (by decide)) mon_name (fun _ _ _ _ _ => (pg_name (i := 10) sc__law_refused.nd rfl (by first | exact Or.inl rfl | exact Or.inr rfl))) (fun _ _ _ _ _ => pTs_nil) (fun _ _ _ _ _ => pE_int)) (pA_cons pE_bl pA_nil)))))))))
      (pSs_one (pS_ret (pE_call (ok__law_same T) (hr.mono (by decide)) T.g__law_same T.F__law_same.kp T.b__law_same tk (pA_cons (pE_call (ok__law_answer T) (hr.mono (by decide)) T.g__law_answer T.F__law_answer.kp T.b__law_answer tk (pA_cons (pE_var 1) (pA_cons (pE_var 2) (pA_cons (pE_var 3) (pA_cons (pE_sub2 (pE_var 9) (pE_call (ok__law_draw T) (hr.mono (by decide)) T.g__law_draw T.F__law_draw.kp T.b__law_draw tk (pA_cons (pE_var 0) (pA_cons pE_int pA_nil)))) pA_nil))))) (pA_cons (pE_tup (pA_cons pE_str (pA_cons (pE_neg pE_int) pA_nil))) pA_nil))))))))))))))
theorem ok_law (T : Txt K mg c z) : FnOk P w K mg base (L2.CX P w) 28 z.a_law z.fd_law ["_law_script"] (spI K 1 (G_law c)) := by
  exact ok_fn T.F_law sc_law fun cdv A outer s H E hr tk po =>
    (pSs_cons (pS_set (i := 1) sc_law.nd (pE_call (ok__law_source T) (hr.mono (by decide)) T.g__law_source T.F__law_source.kp T.b__law_source tk (pA_cons (pE_var 0) pA_nil)))
      (pSs_cons (pS_asg (pE_call (ok__law_case T) (hr.mono (by decide)) T.g__law_case T.F__law_case.kp T.b__law_case tk (pA_cons (pE_var 1) pA_nil)) (pG_tup (pg_tup rfl (pGs_cons (pG_name (i := 2) sc_law.nd) (pGs_cons (pG_name (i := 3) sc_law.nd) (pGs_cons (pG_name (i := 4) sc_law.nd) (pGs_cons (pG_name (i := 5) sc_law.nd) pGs_nil (pgs_cons (pG_name (i := 5) sc_law.nd) pGs_nil)) (pgs_cons (pG_name (i := 4) sc_law.nd) (pGs_cons (pG_name (i := 5) sc_law.nd) pGs_nil (pgs_cons (pG_name (i := 5) sc_law.nd) pGs_nil)))) (pgs_cons (pG_name (i := 3) sc_law.nd) (pGs_cons (pG_name (i := 4) sc_law.nd) (pGs_cons (pG_name (i := 5) sc_law.nd) pGs_nil (pgs_cons (pG_name (i := 5) sc_law.nd) pGs_nil)) (pgs_cons (pG_name (i := 4) sc_law.nd) (pGs_cons (pG_name (i := 5) sc_law.nd) pGs_nil (pgs_cons (pG_name (i := 5) sc_law.nd) pGs_nil)))))) (pgs_cons (pG_name (i := 2) sc_law.nd) (pGs_cons (pG_name (i := 3) sc_law.nd) (pGs_cons (pG_name (i := 4) sc_law.nd) (pGs_cons (pG_name (i := 5) sc_law.nd) pGs_nil (pgs_cons (pG_name (i := 5) sc_law.nd) pGs_nil)) (pgs_cons (pG_name (i := 4) sc_law.nd) (pGs_cons (pG_name (i := 5) sc_law.nd) pGs_nil (pgs_cons (pG_name (i := 5) sc_law.nd) pGs_nil)))) (pgs_cons (pG_name (i := 3) sc_law.nd) (pGs_cons (pG_name (i := 4) sc_law.nd) (pGs_cons (pG_name (i := 5) sc_law.nd) pGs_nil (pgs_cons (pG_name (i := 5) sc_law.nd) pGs_nil)) (pgs_cons (pG_name (i := 4) sc_law.nd) (pGs_cons (pG_name (i := 5) sc_law.nd) pGs_nil (pgs_cons (pG_name (i := 5) sc_law.nd) pGs_nil))))))))) (gCn_len (gCn_len (gCn_len (gCn_len (fun _ _ _ h => gNl_len h)))))) (ps_asg (pE_call (ok__law_case T) (hr.mono (by decide)) T.g__law_case T.F__law_case.kp T.b__law_case tk (pA_cons (pE_var 1) pA_nil)) (pG_tup (pg_tup rfl (pGs_cons (pG_name (i := 2) sc_law.nd) (pGs_cons (pG_name (i := 3) sc_law.nd) (pGs_cons (pG_name (i := 4) sc_law.nd) (pGs_cons (pG_name (i := 5) sc_law.nd) pGs_nil (pgs_cons (pG_name (i := 5) sc_law.nd) pGs_nil)) (pgs_cons (pG_name (i := 4) sc_law.nd) (pGs_cons (pG_name (i := 5) sc_law.nd) pGs_nil (pgs_cons (pG_name (i := 5) sc_law.nd) pGs_nil)))) (pgs_cons (pG_name (i := 3) sc_law.nd) (pGs_cons (pG_name (i := 4) sc_law.nd) (pGs_cons (pG_name (i := 5) sc_law.nd) pGs_nil (pgs_cons (pG_name (i := 5) sc_law.nd) pGs_nil)) (pgs_cons (pG_name (i := 4) sc_law.nd) (pGs_cons (pG_name (i := 5) sc_law.nd) pGs_nil (pgs_cons (pG_name (i := 5) sc_law.nd) pGs_nil)))))) (pgs_cons (pG_name (i := 2) sc_law.nd) (pGs_cons (pG_name (i := 3) sc_law.nd) (pGs_cons (pG_name (i := 4) sc_law.nd) (pGs_cons (pG_name (i := 5) sc_law.nd) pGs_nil (pgs_cons (pG_name (i := 5) sc_law.nd) pGs_nil)) (pgs_cons (pG_name (i := 4) sc_law.nd) (pGs_cons (pG_name (i := 5) sc_law.nd) pGs_nil (pgs_cons (pG_name (i := 5) sc_law.nd) pGs_nil)))) (pgs_cons (pG_name (i := 3) sc_law.nd) (pGs_cons (pG_name (i := 4) sc_law.nd) (pGs_cons (pG_name (i := 5) sc_law.nd) pGs_nil (pgs_cons (pG_name (i := 5) sc_law.nd) pGs_nil)) (pgs_cons (pG_name (i := 4) sc_law.nd) (pGs_cons (pG_name (i := 5) sc_law.nd) pGs_nil (pgs_cons (pG_name (i := 5) sc_law.nd) pGs_nil))))))))) (gCn_len (gCn_len (gCn_len (gCn_len (fun _ _ _ h => gNl_len h))))))))
      (pSs_cons (pS_set (i := 6) sc_law.nd (pE_make T.mk_Machine (ok_Machine___init__ T) (hr.mono (by decide)) T.g_Machine T.b_Machine___init__ tk (pA_cons (pE_sub2 (pE_var 2) pE_int) (pA_cons (pE_sub2 (pE_var 2) pE_int) (pA_cons (pE_sub2 (pE_var 2) pE_int) pA_nil)))))
      (pSs_cons (pS_set (i := 7) sc_law.nd (pE_list T.n_list (pA_cons (pE_var 5) pA_nil)))
      (pSs_cons (pS_set (i := 8) sc_law.nd (pE_var 4))
      (pSs_cons (pS_if (pT_isnot (pE_var 4) pE_non) (pSs_one (pS_set (i := 8) sc_law.nd (pE_list T.n_list (pA_cons (pE_var 4) pA_nil)))) pSs_nil)
      (pSs_cons (pS_set (i := 9) sc_law.nd (pE_tup (pA_cons pE_str (pA_cons (pE_call (ok__law_sheet T) (hr.mono (by decide)) T.g__law_sheet T.F__law_sheet.kp T.b__law_sheet tk (pA_cons (pE_var 2) (pA_cons (pE_var 3) (pA_cons (pE_var 4) (pA_cons (pE_var 5) pA_nil))))) pA_nil))))
      (pSs_cons (pS_if (PW.pt (pW_or (pT_not (pT_val (pE_call (ok__law_same T) (hr.mono (by decide)) T.g__law_same T.F__law_same.kp T.b__law_same tk (pA_cons (pE_call (ok__law_answer T) (hr.mono (by decide)) T.g__law_answer T.F__law_answer.kp T.b__law_answer tk (pA_cons (pE_var 6) (pA_cons (pE_var 3) (pA_cons (pE_var 7) (pA_cons (pE_var 8) pA_nil))))) (pA_cons (pE_var 9) pA_nil))))) (pW_or (pT_ne hr (pE_var 7) (pE_var 5)) (pW_or1 (pT_ne hr (pE_var 8) (pE_var 4)))))) (pSs_one (pS_ret pE_bl)) pSs_nil)
      (pSs_cons (pS_if (PW.pt (pW_and (pT_is (pE_var 4) pE_non) (pW_and1 (pT_ne hr (pE_callK (ks := []) (kw_len1) T.kd_1 (ok_write_sheet T) (hr.mono (by decide)) T.g_write_sheet T.F_write_sheet.kp T.kb_1 tk (pA_cons (pE_var 6) (pA_cons (pE_var 3) (pA_cons (pE_tuple T.n_tuple (pA_cons (pE_var 5) pA_nil)) pA_nil))) pK_nil) (pE_sub2 (pE_var 9) pE_int))))) (pSs_one (pS_ret pE_bl)) pSs_nil)
      (pSs_cons (pS_if (PW.pt (pW_and (pT_isnot (pE_var 4) pE_non) (pW_and1 (pT_ne hr (pE_callK (kw_len0) T.kd_0 (ok_write_sheet T) (hr.mono (by decide)) T.g_write_sheet T.F_write_sheet.kp T.kb_0 tk (pA_cons (pE_var 6) (pA_cons (pE_var 3) (pA_cons (pE_tuple T.n_tuple (pA_cons (pE_var 5) pA_nil)) pA_nil))) (pK_cons (pE_tuple T.n_tuple (pA_cons (pE_var 4) pA_nil)) pK_nil)) (pE_sub2 (pE_var 9) pE_int))))) (pSs_one (pS_ret pE_bl)) pSs_nil)
      (pSs_cons (pS_if (pT_not (pT_val (pE_call (ok__law_refused T) (hr.mono (by decide)) T.g__law_refused T.F__law_refused.kp T.b__law_refused tk (pA_cons (pE_var 1) (pA_cons (pE_var 6) (pA_cons (pE_var 3) (pA_cons (pE_var 5) (pA_cons (pE_var 4) pA_nil)))))))) (pSs_one (pS_ret pE_bl)) pSs_nil)
      (pSs_cons (pS_set (i := 10) sc_law.nd (pE_add pE_int (pE_int1 T.n_int (pA_cons (pE_isnot (pE_var 4) pE_non) pA_nil))))
      (pSs_cons (pS_for po rfl (pI_rng1 T.n_range (pA_cons pE_int pA_nil)) (pG_name (i := 11) sc_law.nd) (pSs_cons (pS_set (i := 12) sc_law.nd (pE_list T.n_list (pA_cons (pE_var 5) pA_nil)))
      (pSs_cons (pS_for po rfl (pI_rng1 T.n_range (pA_cons (pE_add pE_int (pE_call (ok__law_draw T) (hr.mono (by decide)) T.g__law_draw T.F__law_draw.kp T.b__law_draw tk (pA_cons (pE_var 1) (pA_cons pE_int pA_nil)))) pA_nil)) (pG_name (i := 13) sc_law.nd) (pSs_one (pS_set (i := 12) sc_law.nd (pE_call (ok__law_spoilt T) (hr.mono (by decide)) T.g__law_spoilt T.F__law_spoilt.kp T.b__law_spoilt tk (pA_cons (pE_var 1) (pA_cons (pE_var 12) (pA_cons (pE_var 10) (pA_cons (pE_var 3) pA_nil))))))))
      (pSs_cons (pS_set (i := 9) sc_law.nd (pE_call (ok__law_rows_due T) (hr.mono (by decide)) T.g__law_rows_due T.F__law_rows_due.kp T.b__law_rows_due tk (pA_cons (pE_var 12) (pA_cons (pE_var 3) (pA_cons (pE_var 4) pA_nil)))))
      (pSs_cons (pS_if (pT_is (pE_var 9) pE_non) (pSs_one (pS_set (i := 9) sc_law.nd (pE_tup (pA_cons pE_str (pA_cons (pE_call (ok__law_sheet T) (hr.mono (by decide)) T.g__law_sheet T.F__law_sheet.kp T.b__law_sheet tk (pA_cons (pE_var 2) (pA_cons (pE_var 3) (pA_cons (pE_var 4) (pA_cons (pE_var 12) pA_nil))))) pA_nil))))) pSs_nil)
      (pSs_one (pS_if (pT_not (pT_val (pE_call (ok__law_same T) (hr.mono (by decide)) T.g__law_same T.F__law_same.kp T.b__law_same tk (pA_cons (pE_call (ok__law_answer T) (hr.mono (by decide)) T.g__law_answer T.F__law_answer.kp T.b__law_answer tk (pA_cons (pE_var 6) (pA_cons (pE_var 3) (pA_cons (pE_var 12) (pA_cons (pE_var 4) pA_nil))))) (pA_cons (pE_var 9) pA_nil))))) (pSs_one (pS_ret pE_bl)) pSs_nil)))))))
      (pSs_cons (pS_set (i := 14) sc_law.nd (pE_lst (pA_cons (pE_tup (pA_cons pE_str (pA_cons pE_str (pA_cons (pE_neg pE_int) pA_nil)))) (pA_cons (pE_tup (pA_cons pE_str (pA_cons pE_str (pA_cons (pE_neg pE_int) pA_nil)))) pA_nil))))
      (pSs_cons (pS_setLc (i := 15) rfl sc_law.nd (sw_true rfl rfl rfl (by decide +kernel)) (pI_seq (pE_lst (pA_cons (pE_tup (pA_cons pE_int (pA_cons pE_int (pA_cons pE_int pA_nil)))) (pA_cons (pE_tup (pA_cons pE_int (pA_cons pE_int (pA_cons pE_int (pA_cons pE_int pA_nil))))) pA_nil)))) (blkOk_by (N := ["_law_script", "_law_source_here", "_law_numbers_here", "_law_n", "_law_sources", "_law_rows_here", "_law_machine", "_law_given", "_law_hands", "_law_due", "_law_width", "_law_k", "_law_bent", "_law_turn", "_law_many", "_law_told", "_law_base"]) (sc := defScope s_law) (own := [("_law_base", 16)]) (by decide +kernel)) (kg_name (by decide)) mon_name (fun _ _ _ _ _ => (pg_name (i := 16) sc_law.nd rfl (by first | exact Or.inl rfl | exact Or.inr rfl))) (fun _ _ _ _ _ => pTs_nil) (fun _ _ _ _ _ => (pE_call (ok__law_answer T) (hr.mono (by decide)) T.g__law_answer T.F__law_answer.kp T.b__law_answer tk0 (pA_cons (pE_var 6) (pA_cons (pE_var 3) (pA_cons (pE_lc rfl sc_law.nd (pI_rng1 T.n_range (pA_cons pE_int pA_nil)) (blkOk_in (N := ["_law_script", "_law_source_here", "_law_numbers_here", "_law_n", "_law_sources", "_law_rows_here", "_law_machine", "_law_given", "_law_hands", "_law_due", "_law_width", "_law_k", "_law_bent", "_law_turn", "_law_many", "_law_told", "_law_base"]) (own := [("_law_k", 11)]) (by decide +kernel)) (kg_name (by decide)) mon_name (fun _ _ _ _ _ => (pg_name (i := 11) sc_law.nd rfl (by first | exact Or.inl rfl | exact Or.inr rfl))) (fun _ _ _ _ _ => pTs_nil) (fun _ _ _ _ _ => (pE_var 16))) (pA_cons (pE_var 4) pA_nil)))))))
      (pSs_one (pS_ret (pE_eq hr (pE_var 15) (pE_var 14)))))))))))))))))))
end

noncomputable def spLaw (K : PySem.W.Frag) : Sp := fun vs H Q E => ∀ c : Cl, OkC c → spI K 1 (G_law c) vs H Q E
theorem cx_none {P : Program} {w : World} {outer : List Env} {H : Hp} {s : Shared} {e : Value} {s' : Shared} (h : L2.CX P w outer H s (fun _ _ _ => False) e s') : False := by
  obtain ⟨_, _, _, _, _, _, _, _, _, _, _, _, z⟩ := h
  exact z
theorem law_start {K : PySem.W.Frag} {H : Hp} {a : Addr} {ns : List Int} {ts : List Addr} (hT : tabsIn K ts = true) (hP : ∀ P ∈ ts, H P = some (.tbl #[]) ∧ ¬ Live [] P) (hl : ns.length ≤ 63) (hb : ∀ z ∈ ns, Builtin.Int.intBits z ≤ 1048576) (hS : SqL K H a (ns.map V.int)) : spLaw K [.ref a] H (fun v _ => v = .bl true) fun _ _ _ => False := by
  intro c hc
  obtain ⟨s', e⟩ := law_true c hc ns hl hb
  refine ⟨[], [], [.rdl (ns.map D.int)], ⟨tabK_start hT hP, rfl, fun i j a h => (by simp at h), fun a l => (by cases l), fun n o h => (by simp at h)⟩, .cons ?_ .nil, rfl, ?_⟩
  · simp only [RelD]
    refine ⟨a, ns.map V.int, rfl, ?_, RelDs.ints ns⟩
    rcases hS with h | h
    · exact .inr ⟨h, fun z => by cases z⟩
    · exact .inl h
  · rw [e]
    exact fun mu' H' v _ _ r => rel_bl.mp r
@[elab_as_elim] theorem l2c1 {α : Type} {P : List α → Prop} (us : List α) (hl : us.length = 1) (h : ∀ a0, P [a0]) : P us := match us, hl with | [a0], _ => h a0
@[elab_as_elim] theorem l2c2 {α : Type} {P : List α → Prop} (us : List α) (hl : us.length = 2) (h : ∀ a0 a1, P [a0, a1]) : P us := match us, hl with | [a0, a1], _ => h a0 a1
@[elab_as_elim] theorem l2c3 {α : Type} {P : List α → Prop} (us : List α) (hl : us.length = 3) (h : ∀ a0 a1 a2, P [a0, a1, a2]) : P us := match us, hl with | [a0, a1, a2], _ => h a0 a1 a2
@[elab_as_elim] theorem l2c4 {α : Type} {P : List α → Prop} (us : List α) (hl : us.length = 4) (h : ∀ a0 a1 a2 a3, P [a0, a1, a2, a3]) : P us := match us, hl with | [a0, a1, a2, a3], _ => h a0 a1 a2 a3
@[elab_as_elim] theorem l2c5 {α : Type} {P : List α → Prop} (us : List α) (hl : us.length = 5) (h : ∀ a0 a1 a2 a3 a4, P [a0, a1, a2, a3, a4]) : P us := match us, hl with | [a0, a1, a2, a3, a4], _ => h a0 a1 a2 a3 a4
@[elab_as_elim] theorem l2c6 {α : Type} {P : List α → Prop} (us : List α) (hl : us.length = 6) (h : ∀ a0 a1 a2 a3 a4 a5, P [a0, a1, a2, a3, a4, a5]) : P us := match us, hl with | [a0, a1, a2, a3, a4, a5], _ => h a0 a1 a2 a3 a4 a5
@[elab_as_elim] theorem l2c7 {α : Type} {P : List α → Prop} (us : List α) (hl : us.length = 7) (h : ∀ a0 a1 a2 a3 a4 a5 a6, P [a0, a1, a2, a3, a4, a5, a6]) : P us := match us, hl with | [a0, a1, a2, a3, a4, a5, a6], _ => h a0 a1 a2 a3 a4 a5 a6
@[elab_as_elim] theorem l2c8 {α : Type} {P : List α → Prop} (us : List α) (hl : us.length = 8) (h : ∀ a0 a1 a2 a3 a4 a5 a6 a7, P [a0, a1, a2, a3, a4, a5, a6, a7]) : P us := match us, hl with | [a0, a1, a2, a3, a4, a5, a6, a7], _ => h a0 a1 a2 a3 a4 a5 a6 a7
@[elab_as_elim] theorem l2c9 {α : Type} {P : List α → Prop} (us : List α) (hl : us.length = 9) (h : ∀ a0 a1 a2 a3 a4 a5 a6 a7 a8, P [a0, a1, a2, a3, a4, a5, a6, a7, a8]) : P us := match us, hl with | [a0, a1, a2, a3, a4, a5, a6, a7, a8], _ => h a0 a1 a2 a3 a4 a5 a6 a7 a8
@[elab_as_elim] theorem l2c10 {α : Type} {P : List α → Prop} (us : List α) (hl : us.length = 10) (h : ∀ a0 a1 a2 a3 a4 a5 a6 a7 a8 a9, P [a0, a1, a2, a3, a4, a5, a6, a7, a8, a9]) : P us := match us, hl with | [a0, a1, a2, a3, a4, a5, a6, a7, a8, a9], _ => h a0 a1 a2 a3 a4 a5 a6 a7 a8 a9
@[elab_as_elim] theorem l2c11 {α : Type} {P : List α → Prop} (us : List α) (hl : us.length = 11) (h : ∀ a0 a1 a2 a3 a4 a5 a6 a7 a8 a9 a10, P [a0, a1, a2, a3, a4, a5, a6, a7, a8, a9, a10]) : P us := match us, hl with | [a0, a1, a2, a3, a4, a5, a6, a7, a8, a9, a10], _ => h a0 a1 a2 a3 a4 a5 a6 a7 a8 a9 a10
@[elab_as_elim] theorem l2c12 {α : Type} {P : List α → Prop} (us : List α) (hl : us.length = 12) (h : ∀ a0 a1 a2 a3 a4 a5 a6 a7 a8 a9 a10 a11, P [a0, a1, a2, a3, a4, a5, a6, a7, a8, a9, a10, a11]) : P us := match us, hl with | [a0, a1, a2, a3, a4, a5, a6, a7, a8, a9, a10, a11], _ => h a0 a1 a2 a3 a4 a5 a6 a7 a8 a9 a10 a11
theorem all_mk {l : PySem.W.OpenLaw} {w : World} {K : PySem.W.Frag} {h : Heap} {mg : Str → Option Value} {fa : Addr} (X : K.In h) (G : h.Ns mainGlobals mg) (hfa : mg "law" = some (.ref fa))
    {f0 : Addr} {od0 an0 : Option Addr} {sl0 : Array (Option Value)} {oc0 kV0 dc0 pm0 cd0 ct0 : Value}
    {f1 : Addr} {od1 an1 : Option Addr} {sl1 : Array (Option Value)} {oc1 kV1 dc1 pm1 cd1 ct1 : Value}
    {f2 : Addr} {od2 an2 : Option Addr} {sl2 : Array (Option Value)} {oc2 kV2 dc2 pm2 cd2 ct2 : Value}
    {f3 : Addr} {od3 an3 : Option Addr} {sl3 : Array (Option Value)} {oc3 kV3 dc3 pm3 cd3 ct3 : Value}
    {f4 : Addr} {od4 an4 : Option Addr} {sl4 : Array (Option Value)} {oc4 kV4 dc4 pm4 cd4 ct4 : Value}
    {f5 : Addr} {od5 an5 : Option Addr} {sl5 : Array (Option Value)} {oc5 kV5 dc5 pm5 cd5 ct5 : Value}
    {f6 : Addr} {od6 an6 : Option Addr} {sl6 : Array (Option Value)} {oc6 kV6 dc6 pm6 cd6 ct6 : Value}
    {f7 : Addr} {od7 an7 : Option Addr} {sl7 : Array (Option Value)} {oc7 kV7 dc7 pm7 cd7 ct7 : Value}
    {f8 : Addr} {od8 an8 : Option Addr} {sl8 : Array (Option Value)} {oc8 kV8 dc8 pm8 cd8 ct8 : Value}
    {f9 : Addr} {od9 an9 : Option Addr} {sl9 : Array (Option Value)} {oc9 kV9 dc9 pm9 cd9 ct9 : Value}
    {f10 : Addr} {od10 an10 : Option Addr} {sl10 : Array (Option Value)} {oc10 kV10 dc10 pm10 cd10 ct10 : Value}
    {f11 : Addr} {od11 an11 : Option Addr} {sl11 : Array (Option Value)} {oc11 kV11 dc11 pm11 cd11 ct11 : Value}
    {f12 : Addr} {od12 an12 : Option Addr} {sl12 : Array (Option Value)} {oc12  dc12 pm12 cd12 ct12 : Value}
    {f13 : Addr} {od13 an13 : Option Addr} {sl13 : Array (Option Value)} {oc13 kV13 dc13 pm13 cd13 ct13 : Value}
    {f14 : Addr} {od14 an14 : Option Addr} {sl14 : Array (Option Value)} {oc14 kV14 dc14 pm14 cd14 ct14 : Value}
    {f15 : Addr} {od15 an15 : Option Addr} {sl15 : Array (Option Value)} {oc15 kV15 dc15 pm15 cd15 ct15 : Value}
    {f16 : Addr} {od16 an16 : Option Addr} {sl16 : Array (Option Value)} {oc16 kV16 dc16 pm16 cd16 ct16 : Value}
    {f17 : Addr} {od17 an17 : Option Addr} {sl17 : Array (Option Value)} {oc17 kV17 dc17 pm17 cd17 ct17 : Value}
    {f18 : Addr} {od18 an18 : Option Addr} {sl18 : Array (Option Value)} {oc18 kV18 dc18 pm18 cd18 ct18 : Value}
    {f19 : Addr} {od19 an19 : Option Addr} {sl19 : Array (Option Value)} {oc19 kV19 dc19 pm19 cd19 ct19 : Value}
    {f20 : Addr} {od20 an20 : Option Addr} {sl20 : Array (Option Value)} {oc20 kV20 dc20 pm20 cd20 ct20 : Value}
    {f21 : Addr} {od21 an21 : Option Addr} {sl21 : Array (Option Value)} {oc21 kV21 dc21 pm21 cd21 ct21 : Value}
    {f22 : Addr} {od22 an22 : Option Addr} {sl22 : Array (Option Value)} {oc22 kV22 dc22 pm22 cd22 ct22 : Value}
    {f23 : Addr} {od23 an23 : Option Addr} {sl23 : Array (Option Value)} {oc23 kV23 dc23 pm23 cd23 ct23 : Value}
    {f24 : Addr} {od24 an24 : Option Addr} {sl24 : Array (Option Value)} {oc24 kV24 dc24 pm24 cd24 ct24 : Value}
    {f25 : Addr} {od25 an25 : Option Addr} {sl25 : Array (Option Value)} {oc25 kV25 dc25 pm25 cd25 ct25 : Value}
    {f26 : Addr} {od26 an26 : Option Addr} {sl26 : Array (Option Value)} {oc26 kV26 dc26 pm26 cd26 ct26 : Value}
    {f27 : Addr} {od27 an27 : Option Addr} {sl27 : Array (Option Value)} {oc27 kV27 dc27 pm27 cd27 ct27 : Value}
    {f28 : Addr} {od28 an28 : Option Addr} {sl28 : Array (Option Value)} {oc28 kV28 dc28 pm28 cd28 ct28 : Value}
    {f29 : Addr} {od29 an29 : Option Addr} {sl29 : Array (Option Value)} {oc29 kV29 dc29 pm29 cd29 ct29 : Value}
    {f30 : Addr} {od30 an30 : Option Addr} {sl30 : Array (Option Value)} {oc30 kV30 dc30 pm30 cd30 ct30 : Value}
    {CMachine : Addr}
    {CInvalidCount : Addr}
    {CInvalidMachine : Addr}
    {CInvalidPlan : Addr}
    {CInvalidRows : Addr}
    {CTellError : Addr}
    {tk_GREATEST : Tok}
    {tk_LAST_START : Tok}
    {tk_MOST_HANDS_letters : Tok}
    {tk_MOST_HANDS_texts : Tok}
    {tk_MOST_LETTERS : Tok}
    {tk_MOST_SENDS : Tok}
    {tk_MOST_TELLS : Tok}
    {kd12 : Addr}
    (gMachine : PySem.W.nsIn K mainGlobals "Machine" = some (some (.ref CMachine)))
    (gInvalidCount : PySem.W.nsIn K mainGlobals "InvalidCount" = some (some (.ref CInvalidCount)))
    (gInvalidMachine : PySem.W.nsIn K mainGlobals "InvalidMachine" = some (some (.ref CInvalidMachine)))
    (gInvalidPlan : PySem.W.nsIn K mainGlobals "InvalidPlan" = some (some (.ref CInvalidPlan)))
    (gInvalidRows : PySem.W.nsIn K mainGlobals "InvalidRows" = some (some (.ref CInvalidRows)))
    (gTellError : PySem.W.nsIn K mainGlobals "TellError" = some (some (.ref CTellError)))
    (a0 : PySem.W.findIn K (.ref CInvalidMachine) "__init__" = some (some (.ref f0)))
    (l0 : K.lookup f0 = some ⟨oc0, od0, .func (PySem.W.fnOf "__init__" "InvalidMachine.__init__" (defArgs s_InvalidMachine___init__) (defBody s_InvalidMachine___init__) (defScope s_InvalidMachine___init__) .none kV0 dc0 pm0 an0 cd0 ct0), sl0⟩)
    (c0 : PySem.W.codeIn K cd0 "InvalidMachine.__init__" = true)
    (k0 : PySem.W.keepIn K (.ref f0) = true)
    (a1 : PySem.W.findIn K (.ref CInvalidPlan) "__init__" = some (some (.ref f1)))
    (l1 : K.lookup f1 = some ⟨oc1, od1, .func (PySem.W.fnOf "__init__" "InvalidPlan.__init__" (defArgs s_InvalidPlan___init__) (defBody s_InvalidPlan___init__) (defScope s_InvalidPlan___init__) .none kV1 dc1 pm1 an1 cd1 ct1), sl1⟩)
    (c1 : PySem.W.codeIn K cd1 "InvalidPlan.__init__" = true)
    (k1 : PySem.W.keepIn K (.ref f1) = true)
    (a2 : PySem.W.findIn K (.ref CInvalidRows) "__init__" = some (some (.ref f2)))
    (l2 : K.lookup f2 = some ⟨oc2, od2, .func (PySem.W.fnOf "__init__" "InvalidRows.__init__" (defArgs s_InvalidRows___init__) (defBody s_InvalidRows___init__) (defScope s_InvalidRows___init__) .none kV2 dc2 pm2 an2 cd2 ct2), sl2⟩)
    (c2 : PySem.W.codeIn K cd2 "InvalidRows.__init__" = true)
    (k2 : PySem.W.keepIn K (.ref f2) = true)
    (a3 : PySem.W.nsIn K mainGlobals "is_integer" = some (some (.ref f3)))
    (l3 : K.lookup f3 = some ⟨oc3, od3, .func (PySem.W.fnOf "is_integer" "is_integer" (defArgs s_is_integer) (defBody s_is_integer) (defScope s_is_integer) .none kV3 dc3 pm3 an3 cd3 ct3), sl3⟩)
    (c3 : PySem.W.codeIn K cd3 "is_integer" = true)
    (k3 : PySem.W.keepIn K (.ref f3) = true)
    (a4 : PySem.W.nsIn K mainGlobals "between" = some (some (.ref f4)))
    (l4 : K.lookup f4 = some ⟨oc4, od4, .func (PySem.W.fnOf "between" "between" (defArgs s_between) (defBody s_between) (defScope s_between) .none kV4 dc4 pm4 an4 cd4 ct4), sl4⟩)
    (c4 : PySem.W.codeIn K cd4 "between" = true)
    (k4 : PySem.W.keepIn K (.ref f4) = true)
    (a5 : PySem.W.nsIn K mainGlobals "checked_count" = some (some (.ref f5)))
    (l5 : K.lookup f5 = some ⟨oc5, od5, .func (PySem.W.fnOf "checked_count" "checked_count" (defArgs s_checked_count) (defBody s_checked_count) (defScope s_checked_count) .none kV5 dc5 pm5 an5 cd5 ct5), sl5⟩)
    (c5 : PySem.W.codeIn K cd5 "checked_count" = true)
    (k5 : PySem.W.keepIn K (.ref f5) = true)
    (a6 : PySem.W.nsIn K mainGlobals "form_fault" = some (some (.ref f6)))
    (l6 : K.lookup f6 = some ⟨oc6, od6, .func (PySem.W.fnOf "form_fault" "form_fault" (defArgs s_form_fault_rows) (defBody s_form_fault_rows) (defScope s_form_fault_rows) .none kV6 dc6 pm6 an6 cd6 ct6), sl6⟩)
    (c6 : PySem.W.codeIn K cd6 "form_fault" = true)
    (k6 : PySem.W.keepIn K (.ref f6) = true)
    (a7 : PySem.W.nsIn K mainGlobals "checked_sources" = some (some (.ref f7)))
    (l7 : K.lookup f7 = some ⟨oc7, od7, .func (PySem.W.fnOf "checked_sources" "checked_sources" (defArgs s_checked_sources) (defBody s_checked_sources) (defScope s_checked_sources) .none kV7 dc7 pm7 an7 cd7 ct7), sl7⟩)
    (c7 : PySem.W.codeIn K cd7 "checked_sources" = true)
    (k7 : PySem.W.keepIn K (.ref f7) = true)
    (a8 : PySem.W.nsIn K mainGlobals "number_fault" = some (some (.ref f8)))
    (l8 : K.lookup f8 = some ⟨oc8, od8, .func (PySem.W.fnOf "number_fault" "number_fault" (defArgs s_number_fault) (defBody s_number_fault) (defScope s_number_fault) .none kV8 dc8 pm8 an8 cd8 ct8), sl8⟩)
    (c8 : PySem.W.codeIn K cd8 "number_fault" = true)
    (k8 : PySem.W.keepIn K (.ref f8) = true)
    (a9 : PySem.W.findIn K (.ref CMachine) "__init__" = some (some (.ref f9)))
    (l9 : K.lookup f9 = some ⟨oc9, od9, .func (PySem.W.fnOf "__init__" "Machine.__init__" (defArgs s_Machine___init__) (defBody s_Machine___init__) (defScope s_Machine___init__) .none kV9 dc9 pm9 an9 cd9 ct9), sl9⟩)
    (c9 : PySem.W.codeIn K cd9 "Machine.__init__" = true)
    (k9 : PySem.W.keepIn K (.ref f9) = true)
    (a10 : PySem.W.nsIn K mainGlobals "plan_fault" = some (some (.ref f10)))
    (l10 : K.lookup f10 = some ⟨oc10, od10, .func (PySem.W.fnOf "plan_fault" "plan_fault" (defArgs s_plan_fault_texts) (defBody s_plan_fault_texts) (defScope s_plan_fault_texts) .none kV10 dc10 pm10 an10 cd10 ct10), sl10⟩)
    (c10 : PySem.W.codeIn K cd10 "plan_fault" = true)
    (k10 : PySem.W.keepIn K (.ref f10) = true)
    (a11 : PySem.W.nsIn K mainGlobals "letters_plan_fault" = some (some (.ref f11)))
    (l11 : K.lookup f11 = some ⟨oc11, od11, .func (PySem.W.fnOf "letters_plan_fault" "letters_plan_fault" (defArgs s_letters_plan_fault) (defBody s_letters_plan_fault) (defScope s_letters_plan_fault) .none kV11 dc11 pm11 an11 cd11 ct11), sl11⟩)
    (c11 : PySem.W.codeIn K cd11 "letters_plan_fault" = true)
    (k11 : PySem.W.keepIn K (.ref f11) = true)
    (a12 : PySem.W.nsIn K mainGlobals "write_sheet" = some (some (.ref f12)))
    (l12 : K.lookup f12 = some ⟨oc12, od12, .func (PySem.W.fnOf "write_sheet" "write_sheet" (defArgs s_write_sheet) (defBody s_write_sheet) (defScope s_write_sheet) .none (.ref kd12) dc12 pm12 an12 cd12 ct12), sl12⟩)
    (kx12_sources : PySem.W.nsIn K kd12 "sources" = some (some .none))
    (c12 : PySem.W.codeIn K cd12 "write_sheet" = true)
    (k12 : PySem.W.keepIn K (.ref f12) = true)
    (a13 : PySem.W.nsIn K mainGlobals "_law_source" = some (some (.ref f13)))
    (l13 : K.lookup f13 = some ⟨oc13, od13, .func (PySem.W.fnOf "_law_source" "_law_source" (defArgs s__law_source) (defBody s__law_source) (defScope s__law_source) .none kV13 dc13 pm13 an13 cd13 ct13), sl13⟩)
    (c13 : PySem.W.codeIn K cd13 "_law_source" = true)
    (k13 : PySem.W.keepIn K (.ref f13) = true)
    (a14 : PySem.W.nsIn K mainGlobals "_law_draw" = some (some (.ref f14)))
    (l14 : K.lookup f14 = some ⟨oc14, od14, .func (PySem.W.fnOf "_law_draw" "_law_draw" (defArgs s__law_draw) (defBody s__law_draw) (defScope s__law_draw) .none kV14 dc14 pm14 an14 cd14 ct14), sl14⟩)
    (c14 : PySem.W.codeIn K cd14 "_law_draw" = true)
    (k14 : PySem.W.keepIn K (.ref f14) = true)
    (a15 : PySem.W.nsIn K mainGlobals "_law_wide" = some (some (.ref f15)))
    (l15 : K.lookup f15 = some ⟨oc15, od15, .func (PySem.W.fnOf "_law_wide" "_law_wide" (defArgs s__law_wide) (defBody s__law_wide) (defScope s__law_wide) .none kV15 dc15 pm15 an15 cd15 ct15), sl15⟩)
    (c15 : PySem.W.codeIn K cd15 "_law_wide" = true)
    (k15 : PySem.W.keepIn K (.ref f15) = true)
    (a16 : PySem.W.nsIn K mainGlobals "_law_numbers" = some (some (.ref f16)))
    (l16 : K.lookup f16 = some ⟨oc16, od16, .func (PySem.W.fnOf "_law_numbers" "_law_numbers" (defArgs s__law_numbers) (defBody s__law_numbers) (defScope s__law_numbers) .none kV16 dc16 pm16 an16 cd16 ct16), sl16⟩)
    (c16 : PySem.W.codeIn K cd16 "_law_numbers" = true)
    (k16 : PySem.W.keepIn K (.ref f16) = true)
    (a17 : PySem.W.nsIn K mainGlobals "_law_integer" = some (some (.ref f17)))
    (l17 : K.lookup f17 = some ⟨oc17, od17, .func (PySem.W.fnOf "_law_integer" "_law_integer" (defArgs s__law_integer) (defBody s__law_integer) (defScope s__law_integer) .none kV17 dc17 pm17 an17 cd17 ct17), sl17⟩)
    (c17 : PySem.W.codeIn K cd17 "_law_integer" = true)
    (k17 : PySem.W.keepIn K (.ref f17) = true)
    (a18 : PySem.W.nsIn K mainGlobals "_law_same" = some (some (.ref f18)))
    (l18 : K.lookup f18 = some ⟨oc18, od18, .func (PySem.W.fnOf "_law_same" "_law_same" (defArgs s__law_same) (defBody s__law_same) (defScope s__law_same) .none kV18 dc18 pm18 an18 cd18 ct18), sl18⟩)
    (c18 : PySem.W.codeIn K cd18 "_law_same" = true)
    (k18 : PySem.W.keepIn K (.ref f18) = true)
    (a19 : PySem.W.nsIn K mainGlobals "_law_form" = some (some (.ref f19)))
    (l19 : K.lookup f19 = some ⟨oc19, od19, .func (PySem.W.fnOf "_law_form" "_law_form" (defArgs s__law_form) (defBody s__law_form) (defScope s__law_form) .none kV19 dc19 pm19 an19 cd19 ct19), sl19⟩)
    (c19 : PySem.W.codeIn K cd19 "_law_form" = true)
    (k19 : PySem.W.keepIn K (.ref f19) = true)
    (a20 : PySem.W.nsIn K mainGlobals "_law_odd" = some (some (.ref f20)))
    (l20 : K.lookup f20 = some ⟨oc20, od20, .func (PySem.W.fnOf "_law_odd" "_law_odd" (defArgs s__law_odd) (defBody s__law_odd) (defScope s__law_odd) .none kV20 dc20 pm20 an20 cd20 ct20), sl20⟩)
    (c20 : PySem.W.codeIn K cd20 "_law_odd" = true)
    (k20 : PySem.W.keepIn K (.ref f20) = true)
    (a21 : PySem.W.nsIn K mainGlobals "_law_changed" = some (some (.ref f21)))
    (l21 : K.lookup f21 = some ⟨oc21, od21, .func (PySem.W.fnOf "_law_changed" "_law_changed" (defArgs s__law_changed) (defBody s__law_changed) (defScope s__law_changed) .none kV21 dc21 pm21 an21 cd21 ct21), sl21⟩)
    (c21 : PySem.W.codeIn K cd21 "_law_changed" = true)
    (k21 : PySem.W.keepIn K (.ref f21) = true)
    (a22 : PySem.W.nsIn K mainGlobals "_law_spoilt" = some (some (.ref f22)))
    (l22 : K.lookup f22 = some ⟨oc22, od22, .func (PySem.W.fnOf "_law_spoilt" "_law_spoilt" (defArgs s__law_spoilt) (defBody s__law_spoilt) (defScope s__law_spoilt) .none kV22 dc22 pm22 an22 cd22 ct22), sl22⟩)
    (c22 : PySem.W.codeIn K cd22 "_law_spoilt" = true)
    (k22 : PySem.W.keepIn K (.ref f22) = true)
    (a23 : PySem.W.nsIn K mainGlobals "_law_rows" = some (some (.ref f23)))
    (l23 : K.lookup f23 = some ⟨oc23, od23, .func (PySem.W.fnOf "_law_rows" "_law_rows" (defArgs s__law_rows) (defBody s__law_rows) (defScope s__law_rows) .none kV23 dc23 pm23 an23 cd23 ct23), sl23⟩)
    (c23 : PySem.W.codeIn K cd23 "_law_rows" = true)
    (k23 : PySem.W.keepIn K (.ref f23) = true)
    (a24 : PySem.W.nsIn K mainGlobals "_law_sheet" = some (some (.ref f24)))
    (l24 : K.lookup f24 = some ⟨oc24, od24, .func (PySem.W.fnOf "_law_sheet" "_law_sheet" (defArgs s__law_sheet) (defBody s__law_sheet) (defScope s__law_sheet) .none kV24 dc24 pm24 an24 cd24 ct24), sl24⟩)
    (c24 : PySem.W.codeIn K cd24 "_law_sheet" = true)
    (k24 : PySem.W.keepIn K (.ref f24) = true)
    (a25 : PySem.W.nsIn K mainGlobals "_law_case" = some (some (.ref f25)))
    (l25 : K.lookup f25 = some ⟨oc25, od25, .func (PySem.W.fnOf "_law_case" "_law_case" (defArgs s__law_case) (defBody s__law_case) (defScope s__law_case) .none kV25 dc25 pm25 an25 cd25 ct25), sl25⟩)
    (c25 : PySem.W.codeIn K cd25 "_law_case" = true)
    (k25 : PySem.W.keepIn K (.ref f25) = true)
    (a26 : PySem.W.nsIn K mainGlobals "_law_answer" = some (some (.ref f26)))
    (l26 : K.lookup f26 = some ⟨oc26, od26, .func (PySem.W.fnOf "_law_answer" "_law_answer" (defArgs s__law_answer) (defBody s__law_answer) (defScope s__law_answer) .none kV26 dc26 pm26 an26 cd26 ct26), sl26⟩)
    (c26 : PySem.W.codeIn K cd26 "_law_answer" = true)
    (k26 : PySem.W.keepIn K (.ref f26) = true)
    (a27 : PySem.W.nsIn K mainGlobals "_law_hands_due" = some (some (.ref f27)))
    (l27 : K.lookup f27 = some ⟨oc27, od27, .func (PySem.W.fnOf "_law_hands_due" "_law_hands_due" (defArgs s__law_hands_due) (defBody s__law_hands_due) (defScope s__law_hands_due) .none kV27 dc27 pm27 an27 cd27 ct27), sl27⟩)
    (c27 : PySem.W.codeIn K cd27 "_law_hands_due" = true)
    (k27 : PySem.W.keepIn K (.ref f27) = true)
    (a28 : PySem.W.nsIn K mainGlobals "_law_rows_due" = some (some (.ref f28)))
    (l28 : K.lookup f28 = some ⟨oc28, od28, .func (PySem.W.fnOf "_law_rows_due" "_law_rows_due" (defArgs s__law_rows_due) (defBody s__law_rows_due) (defScope s__law_rows_due) .none kV28 dc28 pm28 an28 cd28 ct28), sl28⟩)
    (c28 : PySem.W.codeIn K cd28 "_law_rows_due" = true)
    (k28 : PySem.W.keepIn K (.ref f28) = true)
    (a29 : PySem.W.nsIn K mainGlobals "_law_refused" = some (some (.ref f29)))
    (l29 : K.lookup f29 = some ⟨oc29, od29, .func (PySem.W.fnOf "_law_refused" "_law_refused" (defArgs s__law_refused) (defBody s__law_refused) (defScope s__law_refused) .none kV29 dc29 pm29 an29 cd29 ct29), sl29⟩)
    (c29 : PySem.W.codeIn K cd29 "_law_refused" = true)
    (k29 : PySem.W.keepIn K (.ref f29) = true)
    (a30 : PySem.W.nsIn K mainGlobals "law" = some (some (.ref f30)))
    (l30 : K.lookup f30 = some ⟨oc30, od30, .func (PySem.W.fnOf "law" "law" (defArgs s_law) (defBody s_law) (defScope s_law) .none kV30 dc30 pm30 an30 cd30 ct30), sl30⟩)
    (c30 : PySem.W.codeIn K cd30 "law" = true)
    (k30 : PySem.W.keepIn K (.ref f30) = true)
    (n_all : PySem.W.nsIn K mainGlobals "all" = some none)
    (n_bool : PySem.W.nsIn K mainGlobals "bool" = some none)
    (n_enumerate : PySem.W.nsIn K mainGlobals "enumerate" = some none)
    (n_int : PySem.W.nsIn K mainGlobals "int" = some none)
    (n_isinstance : PySem.W.nsIn K mainGlobals "isinstance" = some none)
    (n_len : PySem.W.nsIn K mainGlobals "len" = some none)
    (n_list : PySem.W.nsIn K mainGlobals "list" = some none)
    (n_max : PySem.W.nsIn K mainGlobals "max" = some none)
    (n_range : PySem.W.nsIn K mainGlobals "range" = some none)
    (n_str : PySem.W.nsIn K mainGlobals "str" = some none)
    (n_tuple : PySem.W.nsIn K mainGlobals "tuple" = some none)
    (cc_GREATEST : PySem.W.nsIn K mainGlobals "GREATEST" = some (some (.int 1000000000 tk_GREATEST)))
    (cc_LAST_START : PySem.W.nsIn K mainGlobals "LAST_START" = some (some (.int 1000000000000000 tk_LAST_START)))
    (cc_MOST_HANDS_letters : PySem.W.nsIn K mainGlobals "MOST_HANDS_letters" = some (some (.int 40 tk_MOST_HANDS_letters)))
    (cc_MOST_HANDS_texts : PySem.W.nsIn K mainGlobals "MOST_HANDS_texts" = some (some (.int 100 tk_MOST_HANDS_texts)))
    (cc_MOST_LETTERS : PySem.W.nsIn K mainGlobals "MOST_LETTERS" = some (some (.int 40 tk_MOST_LETTERS)))
    (cc_MOST_SENDS : PySem.W.nsIn K mainGlobals "MOST_SENDS" = some (some (.int 2000 tk_MOST_SENDS)))
    (cc_MOST_TELLS : PySem.W.nsIn K mainGlobals "MOST_TELLS" = some (some (.int 400 tk_MOST_TELLS)))
    (mmMachine : PySem.W.makesIn K CMachine = true)
    (fnMachine : PySem.W.isFn K (.ref f9) = true)
    (kpMachine : PySem.W.keepIn K (.ref CMachine) = true)
    (pgMachine : PySem.W.plainGet K CMachine Str.empty = true)
    (hdMachine : PySem.W.hasDictIn K CMachine = true)
    (poMachine : PySem.W.plainOver K CMachine = true)
    (saMachine : PySem.W.findIn K (.ref CMachine) "__setattr__" = some (some (.builtin "object.__setattr__")))
    (haMachine : PySem.W.findIn K (.ref CMachine) "__class__" = some (some (.builtin "object.__class__")))
    (hnMachine : PySem.W.specialIn K (.builtin "object.__class__") "__get__" = some (some (.builtin "getset_descriptor.__get__")))
    (htMachine : PySem.W.takesIn K (.builtin "object.__class__") = some true)
    (hmMachine : PySem.W.mroIn K CMachine (.type "object") = some true)
    (nyMachine : nyB K CMachine = true)
    (ynMachine : ynB K CMachine = true)
    (nfMachine : nfB K CMachine = true)
    (na_Machine_g : PySem.W.findIn K (.ref CMachine) "g" = some none)
    (na_Machine_gap : PySem.W.findIn K (.ref CMachine) "gap" = some none)
    (na_Machine_l : PySem.W.findIn K (.ref CMachine) "l" = some none)
    (na_Machine_letter : PySem.W.findIn K (.ref CMachine) "letter" = some none)
    (na_Machine_o : PySem.W.findIn K (.ref CMachine) "o" = some none)
    (nxdInvalidCount : PySem.W.hasDictIn K CInvalidCount = true)
    (nxuInvalidCount : PySem.W.subIn K (.ref CInvalidCount) (.type "BaseException") = some true)
    (nxtInvalidCount : PySem.W.typeIn K (.ref CInvalidCount) = some (.type "type"))
    (nxkInvalidCount : PySem.W.keepIn K (.ref CInvalidCount) = true)
    (nxeInvalidCount : PySem.W.excIn K CInvalidCount exTail "Exception.__new__" = true)
    (nxdInvalidMachine : PySem.W.hasDictIn K CInvalidMachine = true)
    (nxuInvalidMachine : PySem.W.subIn K (.ref CInvalidMachine) (.type "BaseException") = some true)
    (nxtInvalidMachine : PySem.W.typeIn K (.ref CInvalidMachine) = some (.type "type"))
    (nxkInvalidMachine : PySem.W.keepIn K (.ref CInvalidMachine) = true)
    (nxiInvalidMachine : PySem.W.excInitIn K CInvalidMachine exTail "Exception.__new__" = true)
    (nxoInvalidMachine : PySem.W.excOver K CInvalidMachine exTail = true)
    (nxaInvalidMachine : PySem.W.findIn K (.ref CInvalidMachine) "__setattr__" = some (some (.builtin "object.__setattr__")))
    (nxyInvalidMachine : PySem.W.typeIn K (.ref f0) = some (.type "function"))
    (nxz_InvalidMachine_part : PySem.W.takerIn K CInvalidMachine "part" = some none)
    (nxdInvalidPlan : PySem.W.hasDictIn K CInvalidPlan = true)
    (nxuInvalidPlan : PySem.W.subIn K (.ref CInvalidPlan) (.type "BaseException") = some true)
    (nxtInvalidPlan : PySem.W.typeIn K (.ref CInvalidPlan) = some (.type "type"))
    (nxkInvalidPlan : PySem.W.keepIn K (.ref CInvalidPlan) = true)
    (nxiInvalidPlan : PySem.W.excInitIn K CInvalidPlan exTail "Exception.__new__" = true)
    (nxoInvalidPlan : PySem.W.excOver K CInvalidPlan exTail = true)
    (nxaInvalidPlan : PySem.W.findIn K (.ref CInvalidPlan) "__setattr__" = some (some (.builtin "object.__setattr__")))
    (nxyInvalidPlan : PySem.W.typeIn K (.ref f1) = some (.type "function"))
    (nxz_InvalidPlan_why : PySem.W.takerIn K CInvalidPlan "why" = some none)
    (nxz_InvalidPlan_at : PySem.W.takerIn K CInvalidPlan "at" = some none)
    (nxdInvalidRows : PySem.W.hasDictIn K CInvalidRows = true)
    (nxuInvalidRows : PySem.W.subIn K (.ref CInvalidRows) (.type "BaseException") = some true)
    (nxtInvalidRows : PySem.W.typeIn K (.ref CInvalidRows) = some (.type "type"))
    (nxkInvalidRows : PySem.W.keepIn K (.ref CInvalidRows) = true)
    (nxiInvalidRows : PySem.W.excInitIn K CInvalidRows exTail "Exception.__new__" = true)
    (nxoInvalidRows : PySem.W.excOver K CInvalidRows exTail = true)
    (nxaInvalidRows : PySem.W.findIn K (.ref CInvalidRows) "__setattr__" = some (some (.builtin "object.__setattr__")))
    (nxyInvalidRows : PySem.W.typeIn K (.ref f2) = some (.type "function"))
    (nxz_InvalidRows_at : PySem.W.takerIn K CInvalidRows "at" = some none)
    (nxq_InvalidCount_InvalidCount : PySem.W.exmOne K (.ref CInvalidCount) (.ref CInvalidCount) = some true)
    (nxq_InvalidMachine_InvalidCount : PySem.W.exmOne K (.ref CInvalidMachine) (.ref CInvalidCount) = some false)
    (nxq_InvalidPlan_InvalidCount : PySem.W.exmOne K (.ref CInvalidPlan) (.ref CInvalidCount) = some false)
    (nxq_InvalidRows_InvalidCount : PySem.W.exmOne K (.ref CInvalidRows) (.ref CInvalidCount) = some false)
    (nxq_InvalidCount_InvalidPlan : PySem.W.exmOne K (.ref CInvalidCount) (.ref CInvalidPlan) = some false)
    (nxq_InvalidMachine_InvalidPlan : PySem.W.exmOne K (.ref CInvalidMachine) (.ref CInvalidPlan) = some false)
    (nxq_InvalidPlan_InvalidPlan : PySem.W.exmOne K (.ref CInvalidPlan) (.ref CInvalidPlan) = some true)
    (nxq_InvalidRows_InvalidPlan : PySem.W.exmOne K (.ref CInvalidRows) (.ref CInvalidPlan) = some false)
    (nxq_InvalidCount_InvalidRows : PySem.W.exmOne K (.ref CInvalidCount) (.ref CInvalidRows) = some false)
    (nxq_InvalidMachine_InvalidRows : PySem.W.exmOne K (.ref CInvalidMachine) (.ref CInvalidRows) = some false)
    (nxq_InvalidPlan_InvalidRows : PySem.W.exmOne K (.ref CInvalidPlan) (.ref CInvalidRows) = some false)
    (nxq_InvalidRows_InvalidRows : PySem.W.exmOne K (.ref CInvalidRows) (.ref CInvalidRows) = some true)
    (nxwInvalidPlan : xfB K CInvalidPlan = true)
    (nxwInvalidRows : xfB K CInvalidRows = true)
    (nxv_InvalidPlan_at : PySem.W.findIn K (.ref CInvalidPlan) "at" = some none)
    (nxv_InvalidRows_at : PySem.W.findIn K (.ref CInvalidRows) "at" = some none)
    (nxv_InvalidPlan_why : PySem.W.findIn K (.ref CInvalidPlan) "why" = some none) :
    ∃ fd : FuncData, (∀ (s : Shared) (v : Value), BindsTo s fd ⟨[v], []⟩ [("_law_script", v)]) ∧ ∀ base : Heap, K.In base → base.Ns mainGlobals mg → FnOk l.prog w K mg base (L2.CX l.prog w) 28 fa fd ["_law_script"] (spLaw K) := by
  have e := hfa.symm.trans (PySem.W.mg_of X G a30)
  cases e
  have F0 := fun_mk (st := s_InvalidMachine___init__) l0 c0 k0
  have b0 := F0.binds (ps := ["self", "part"]) fun _ _ _ _ _ _ us hl => l2c2 us hl fun _ _ => rfl
  have F1 := fun_mk (st := s_InvalidPlan___init__) l1 c1 k1
  have b1 := F1.binds (ps := ["self", "why", "at"]) fun _ _ _ _ _ _ us hl => l2c3 us hl fun _ _ _ => rfl
  have F2 := fun_mk (st := s_InvalidRows___init__) l2 c2 k2
  have b2 := F2.binds (ps := ["self", "at"]) fun _ _ _ _ _ _ us hl => l2c2 us hl fun _ _ => rfl
  have F3 := fun_mk (st := s_is_integer) l3 c3 k3
  have b3 := F3.binds (ps := ["thing"]) fun _ _ _ _ _ _ us hl => l2c1 us hl fun _ => rfl
  have F4 := fun_mk (st := s_between) l4 c4 k4
  have b4 := F4.binds (ps := ["thing", "low", "high"]) fun _ _ _ _ _ _ us hl => l2c3 us hl fun _ _ _ => rfl
  have F5 := fun_mk (st := s_checked_count) l5 c5 k5
  have b5 := F5.binds (ps := ["n", "low", "high"]) fun _ _ _ _ _ _ us hl => l2c3 us hl fun _ _ _ => rfl
  have F6 := fun_mk (st := s_form_fault_rows) l6 c6 k6
  have b6 := F6.binds (ps := ["thing", "width", "most"]) fun _ _ _ _ _ _ us hl => l2c3 us hl fun _ _ _ => rfl
  have F7 := fun_mk (st := s_checked_sources) l7 c7 k7
  have b7 := F7.binds (ps := ["n", "sources"]) fun _ _ _ _ _ _ us hl => l2c2 us hl fun _ _ => rfl
  have F8 := fun_mk (st := s_number_fault) l8 c8 k8
  have b8 := F8.binds (ps := ["n", "many", "rows"]) fun _ _ _ _ _ _ us hl => l2c3 us hl fun _ _ _ => rfl
  have F9 := fun_mk (st := s_Machine___init__) l9 c9 k9
  have b9 := F9.binds (ps := ["self", "o", "l", "g"]) fun _ _ _ _ _ _ us hl => l2c4 us hl fun _ _ _ _ => rfl
  have F10 := fun_mk (st := s_plan_fault_texts) l10 c10 k10
  have b10 := F10.binds (ps := ["n", "rows"]) fun _ _ _ _ _ _ us hl => l2c2 us hl fun _ _ => rfl
  have F11 := fun_mk (st := s_letters_plan_fault) l11 c11 k11
  have b11 := F11.binds (ps := ["n", "many", "rows"]) fun _ _ _ _ _ _ us hl => l2c3 us hl fun _ _ _ => rfl
  have F12 := fun_mk (st := s_write_sheet) l12 c12 k12
  have F13 := fun_mk (st := s__law_source) l13 c13 k13
  have b13 := F13.binds (ps := ["_law_script"]) fun _ _ _ _ _ _ us hl => l2c1 us hl fun _ => rfl
  have F14 := fun_mk (st := s__law_draw) l14 c14 k14
  have b14 := F14.binds (ps := ["_law_source_here", "_law_limit"]) fun _ _ _ _ _ _ us hl => l2c2 us hl fun _ _ => rfl
  have F15 := fun_mk (st := s__law_wide) l15 c15 k15
  have b15 := F15.binds (ps := ["_law_source_here", "_law_limit"]) fun _ _ _ _ _ _ us hl => l2c2 us hl fun _ _ => rfl
  have F16 := fun_mk (st := s__law_numbers) l16 c16 k16
  have b16 := F16.binds (ps := ["_law_source_here"]) fun _ _ _ _ _ _ us hl => l2c1 us hl fun _ => rfl
  have F17 := fun_mk (st := s__law_integer) l17 c17 k17
  have b17 := F17.binds (ps := ["_law_thing"]) fun _ _ _ _ _ _ us hl => l2c1 us hl fun _ => rfl
  have F18 := fun_mk (st := s__law_same) l18 c18 k18
  have b18 := F18.binds (ps := ["_law_told", "_law_due"]) fun _ _ _ _ _ _ us hl => l2c2 us hl fun _ _ => rfl
  have F19 := fun_mk (st := s__law_form) l19 c19 k19
  have b19 := F19.binds (ps := ["_law_thing", "_law_width", "_law_most"]) fun _ _ _ _ _ _ us hl => l2c3 us hl fun _ _ _ => rfl
  have F20 := fun_mk (st := s__law_odd) l20 c20 k20
  have b20 := F20.binds (ps := ["_law_source_here", "_law_width"]) fun _ _ _ _ _ _ us hl => l2c2 us hl fun _ _ => rfl
  have F21 := fun_mk (st := s__law_changed) l21 c21 k21
  have b21 := F21.binds (ps := ["_law_source_here", "_law_row", "_law_n"]) fun _ _ _ _ _ _ us hl => l2c3 us hl fun _ _ _ => rfl
  have F22 := fun_mk (st := s__law_spoilt) l22 c22 k22
  have b22 := F22.binds (ps := ["_law_source_here", "_law_rows_here", "_law_width", "_law_n"]) fun _ _ _ _ _ _ us hl => l2c4 us hl fun _ _ _ _ => rfl
  have F23 := fun_mk (st := s__law_rows) l23 c23 k23
  have b23 := F23.binds (ps := ["_law_source_here", "_law_n", "_law_many", "_law_letters"]) fun _ _ _ _ _ _ us hl => l2c4 us hl fun _ _ _ _ => rfl
  have F24 := fun_mk (st := s__law_sheet) l24 c24 k24
  have b24 := F24.binds (ps := ["_law_numbers_here", "_law_n", "_law_sources", "_law_rows_here"]) fun _ _ _ _ _ _ us hl => l2c4 us hl fun _ _ _ _ => rfl
  have F25 := fun_mk (st := s__law_case) l25 c25 k25
  have b25 := F25.binds (ps := ["_law_source_here"]) fun _ _ _ _ _ _ us hl => l2c1 us hl fun _ => rfl
  have F26 := fun_mk (st := s__law_answer) l26 c26 k26
  have b26 := F26.binds (ps := ["_law_machine", "_law_n", "_law_rows_here", "_law_sources"]) fun _ _ _ _ _ _ us hl => l2c4 us hl fun _ _ _ _ => rfl
  have F27 := fun_mk (st := s__law_hands_due) l27 c27 k27
  have b27 := F27.binds (ps := ["_law_rows_here", "_law_n", "_law_least"]) fun _ _ _ _ _ _ us hl => l2c3 us hl fun _ _ _ => rfl
  have F28 := fun_mk (st := s__law_rows_due) l28 c28 k28
  have b28 := F28.binds (ps := ["_law_rows_here", "_law_n", "_law_sources"]) fun _ _ _ _ _ _ us hl => l2c3 us hl fun _ _ _ => rfl
  have F29 := fun_mk (st := s__law_refused) l29 c29 k29
  have b29 := F29.binds (ps := ["_law_source_here", "_law_machine", "_law_n", "_law_rows_here", "_law_sources"]) fun _ _ _ _ _ _ us hl => l2c5 us hl fun _ _ _ _ _ => rfl
  have F30 := fun_mk (st := s_law) l30 c30 k30
  have b30 := F30.binds (ps := ["_law_script"]) fun _ _ _ _ _ _ us hl => l2c1 us hl fun _ => rfl
  have clMachine : Cls K CMachine := ⟨pgMachine, hdMachine, poMachine, saMachine⟩
  have itMachine : InsTxt K CMachine := ⟨clMachine, haMachine, hnMachine, htMachine, hmMachine, nyMachine, ynMachine, nfMachine⟩
  have T : Txt K mg ⟨CMachine, 0, 0, CTellError, CInvalidMachine, CInvalidCount, 0, 0, 0, 0, 0, CInvalidPlan, CInvalidRows, 0, 0, 0, [CMachine]⟩ ⟨f0, PySem.W.fnOf "__init__" "InvalidMachine.__init__" (defArgs s_InvalidMachine___init__) (defBody s_InvalidMachine___init__) (defScope s_InvalidMachine___init__) .none kV0 dc0 pm0 an0 cd0 ct0, f1, PySem.W.fnOf "__init__" "InvalidPlan.__init__" (defArgs s_InvalidPlan___init__) (defBody s_InvalidPlan___init__) (defScope s_InvalidPlan___init__) .none kV1 dc1 pm1 an1 cd1 ct1, f2, PySem.W.fnOf "__init__" "InvalidRows.__init__" (defArgs s_InvalidRows___init__) (defBody s_InvalidRows___init__) (defScope s_InvalidRows___init__) .none kV2 dc2 pm2 an2 cd2 ct2, f3, PySem.W.fnOf "is_integer" "is_integer" (defArgs s_is_integer) (defBody s_is_integer) (defScope s_is_integer) .none kV3 dc3 pm3 an3 cd3 ct3, f4, PySem.W.fnOf "between" "between" (defArgs s_between) (defBody s_between) (defScope s_between) .none kV4 dc4 pm4 an4 cd4 ct4, f5, PySem.W.fnOf "checked_count" "checked_count" (defArgs s_checked_count) (defBody s_checked_count) (defScope s_checked_count) .none kV5 dc5 pm5 an5 cd5 ct5, f6, PySem.W.fnOf "form_fault" "form_fault" (defArgs s_form_fault_rows) (defBody s_form_fault_rows) (defScope s_form_fault_rows) .none kV6 dc6 pm6 an6 cd6 ct6, f7, PySem.W.fnOf "checked_sources" "checked_sources" (defArgs s_checked_sources) (defBody s_checked_sources) (defScope s_checked_sources) .none kV7 dc7 pm7 an7 cd7 ct7, f8, PySem.W.fnOf "number_fault" "number_fault" (defArgs s_number_fault) (defBody s_number_fault) (defScope s_number_fault) .none kV8 dc8 pm8 an8 cd8 ct8, f9, PySem.W.fnOf "__init__" "Machine.__init__" (defArgs s_Machine___init__) (defBody s_Machine___init__) (defScope s_Machine___init__) .none kV9 dc9 pm9 an9 cd9 ct9, f10, PySem.W.fnOf "plan_fault" "plan_fault" (defArgs s_plan_fault_texts) (defBody s_plan_fault_texts) (defScope s_plan_fault_texts) .none kV10 dc10 pm10 an10 cd10 ct10, f11, PySem.W.fnOf "letters_plan_fault" "letters_plan_fault" (defArgs s_letters_plan_fault) (defBody s_letters_plan_fault) (defScope s_letters_plan_fault) .none kV11 dc11 pm11 an11 cd11 ct11, f12, PySem.W.fnOf "write_sheet" "write_sheet" (defArgs s_write_sheet) (defBody s_write_sheet) (defScope s_write_sheet) .none (.ref kd12) dc12 pm12 an12 cd12 ct12, f13, PySem.W.fnOf "_law_source" "_law_source" (defArgs s__law_source) (defBody s__law_source) (defScope s__law_source) .none kV13 dc13 pm13 an13 cd13 ct13, f14, PySem.W.fnOf "_law_draw" "_law_draw" (defArgs s__law_draw) (defBody s__law_draw) (defScope s__law_draw) .none kV14 dc14 pm14 an14 cd14 ct14, f15, PySem.W.fnOf "_law_wide" "_law_wide" (defArgs s__law_wide) (defBody s__law_wide) (defScope s__law_wide) .none kV15 dc15 pm15 an15 cd15 ct15, f16, PySem.W.fnOf "_law_numbers" "_law_numbers" (defArgs s__law_numbers) (defBody s__law_numbers) (defScope s__law_numbers) .none kV16 dc16 pm16 an16 cd16 ct16, f17, PySem.W.fnOf "_law_integer" "_law_integer" (defArgs s__law_integer) (defBody s__law_integer) (defScope s__law_integer) .none kV17 dc17 pm17 an17 cd17 ct17, f18, PySem.W.fnOf "_law_same" "_law_same" (defArgs s__law_same) (defBody s__law_same) (defScope s__law_same) .none kV18 dc18 pm18 an18 cd18 ct18, f19, PySem.W.fnOf "_law_form" "_law_form" (defArgs s__law_form) (defBody s__law_form) (defScope s__law_form) .none kV19 dc19 pm19 an19 cd19 ct19, f20, PySem.W.fnOf "_law_odd" "_law_odd" (defArgs s__law_odd) (defBody s__law_odd) (defScope s__law_odd) .none kV20 dc20 pm20 an20 cd20 ct20, f21, PySem.W.fnOf "_law_changed" "_law_changed" (defArgs s__law_changed) (defBody s__law_changed) (defScope s__law_changed) .none kV21 dc21 pm21 an21 cd21 ct21, f22, PySem.W.fnOf "_law_spoilt" "_law_spoilt" (defArgs s__law_spoilt) (defBody s__law_spoilt) (defScope s__law_spoilt) .none kV22 dc22 pm22 an22 cd22 ct22, f23, PySem.W.fnOf "_law_rows" "_law_rows" (defArgs s__law_rows) (defBody s__law_rows) (defScope s__law_rows) .none kV23 dc23 pm23 an23 cd23 ct23, f24, PySem.W.fnOf "_law_sheet" "_law_sheet" (defArgs s__law_sheet) (defBody s__law_sheet) (defScope s__law_sheet) .none kV24 dc24 pm24 an24 cd24 ct24, f25, PySem.W.fnOf "_law_case" "_law_case" (defArgs s__law_case) (defBody s__law_case) (defScope s__law_case) .none kV25 dc25 pm25 an25 cd25 ct25, f26, PySem.W.fnOf "_law_answer" "_law_answer" (defArgs s__law_answer) (defBody s__law_answer) (defScope s__law_answer) .none kV26 dc26 pm26 an26 cd26 ct26, f27, PySem.W.fnOf "_law_hands_due" "_law_hands_due" (defArgs s__law_hands_due) (defBody s__law_hands_due) (defScope s__law_hands_due) .none kV27 dc27 pm27 an27 cd27 ct27, f28, PySem.W.fnOf "_law_rows_due" "_law_rows_due" (defArgs s__law_rows_due) (defBody s__law_rows_due) (defScope s__law_rows_due) .none kV28 dc28 pm28 an28 cd28 ct28, f29, PySem.W.fnOf "_law_refused" "_law_refused" (defArgs s__law_refused) (defBody s__law_refused) (defScope s__law_refused) .none kV29 dc29 pm29 an29 cd29 ct29, fa, PySem.W.fnOf "law" "law" (defArgs s_law) (defBody s_law) (defScope s_law) .none kV30 dc30 pm30 an30 cd30 ct30, tk_GREATEST, tk_LAST_START, tk_MOST_HANDS_letters, tk_MOST_HANDS_texts, tk_MOST_LETTERS, tk_MOST_SENDS, tk_MOST_TELLS⟩ := {
      F_InvalidMachine___init__ := F0
      b_InvalidMachine___init__ := b0
      F_InvalidPlan___init__ := F1
      b_InvalidPlan___init__ := b1
      F_InvalidRows___init__ := F2
      b_InvalidRows___init__ := b2
      F_is_integer := F3
      b_is_integer := b3
      g_is_integer := PySem.W.mg_of X G a3
      F_between := F4
      b_between := b4
      g_between := PySem.W.mg_of X G a4
      F_checked_count := F5
      b_checked_count := b5
      g_checked_count := PySem.W.mg_of X G a5
      F_form_fault_rows := F6
      b_form_fault_rows := b6
      g_form_fault_rows := PySem.W.mg_of X G a6
      F_checked_sources := F7
      b_checked_sources := b7
      g_checked_sources := PySem.W.mg_of X G a7
      F_number_fault := F8
      b_number_fault := b8
      g_number_fault := PySem.W.mg_of X G a8
      F_Machine___init__ := F9
      b_Machine___init__ := b9
      F_plan_fault_texts := F10
      b_plan_fault_texts := b10
      g_plan_fault_texts := PySem.W.mg_of X G a10
      F_letters_plan_fault := F11
      b_letters_plan_fault := b11
      g_letters_plan_fault := PySem.W.mg_of X G a11
      F_write_sheet := F12
      g_write_sheet := PySem.W.mg_of X G a12
      F__law_source := F13
      b__law_source := b13
      g__law_source := PySem.W.mg_of X G a13
      F__law_draw := F14
      b__law_draw := b14
      g__law_draw := PySem.W.mg_of X G a14
      F__law_wide := F15
      b__law_wide := b15
      g__law_wide := PySem.W.mg_of X G a15
      F__law_numbers := F16
      b__law_numbers := b16
      g__law_numbers := PySem.W.mg_of X G a16
      F__law_integer := F17
      b__law_integer := b17
      g__law_integer := PySem.W.mg_of X G a17
      F__law_same := F18
      b__law_same := b18
      g__law_same := PySem.W.mg_of X G a18
      F__law_form := F19
      b__law_form := b19
      g__law_form := PySem.W.mg_of X G a19
      F__law_odd := F20
      b__law_odd := b20
      g__law_odd := PySem.W.mg_of X G a20
      F__law_changed := F21
      b__law_changed := b21
      g__law_changed := PySem.W.mg_of X G a21
      F__law_spoilt := F22
      b__law_spoilt := b22
      g__law_spoilt := PySem.W.mg_of X G a22
      F__law_rows := F23
      b__law_rows := b23
      g__law_rows := PySem.W.mg_of X G a23
      F__law_sheet := F24
      b__law_sheet := b24
      g__law_sheet := PySem.W.mg_of X G a24
      F__law_case := F25
      b__law_case := b25
      g__law_case := PySem.W.mg_of X G a25
      F__law_answer := F26
      b__law_answer := b26
      g__law_answer := PySem.W.mg_of X G a26
      F__law_hands_due := F27
      b__law_hands_due := b27
      g__law_hands_due := PySem.W.mg_of X G a27
      F__law_rows_due := F28
      b__law_rows_due := b28
      g__law_rows_due := PySem.W.mg_of X G a28
      F__law_refused := F29
      b__law_refused := b29
      g__law_refused := PySem.W.mg_of X G a29
      F_law := F30
      b_law := b30
      g_law := PySem.W.mg_of X G a30
      kb_0 := kb_of F12 fun _ _ _ _ _ _ us ws hl hw => match us, hl, ws, hw with | [_, _, _], _, [_], _ => rfl
      kd_0 := fun _ _ => .nil
      kb_1 := kb_ofD (ms := [("sources", .none)]) (fun p hp => by
        simp only [List.mem_cons, List.not_mem_nil, or_false] at hp
        subst hp
        exact kx12_sources) (.cons rfl (.nil)) fun us ws hl hw => match us, hl, ws, hw with | [_, _, _], _, [], _ => ⟨_, _, _, _, _, _, rfl, rfl, rfl⟩
      kd_1 := fun _ _ => .cons (rel_non.mpr rfl) (.nil)
      n_all := PySem.W.mg_none_of X G n_all
      n_bool := PySem.W.mg_none_of X G n_bool
      n_enumerate := PySem.W.mg_none_of X G n_enumerate
      n_int := PySem.W.mg_none_of X G n_int
      n_isinstance := PySem.W.mg_none_of X G n_isinstance
      n_len := PySem.W.mg_none_of X G n_len
      n_list := PySem.W.mg_none_of X G n_list
      n_max := PySem.W.mg_none_of X G n_max
      n_range := PySem.W.mg_none_of X G n_range
      n_str := PySem.W.mg_none_of X G n_str
      n_tuple := PySem.W.mg_none_of X G n_tuple
      c_GREATEST := PySem.W.mg_of X G cc_GREATEST
      c_LAST_START := PySem.W.mg_of X G cc_LAST_START
      c_MOST_HANDS_letters := PySem.W.mg_of X G cc_MOST_HANDS_letters
      c_MOST_HANDS_texts := PySem.W.mg_of X G cc_MOST_HANDS_texts
      c_MOST_LETTERS := PySem.W.mg_of X G cc_MOST_LETTERS
      c_MOST_SENDS := PySem.W.mg_of X G cc_MOST_SENDS
      c_MOST_TELLS := PySem.W.mg_of X G cc_MOST_TELLS
      g_Machine := PySem.W.mg_of X G gMachine
      mk_Machine := ⟨mmMachine, a9, fnMachine, kpMachine⟩
      it_Machine := itMachine
      g_InvalidCount := PySem.W.mg_of X G gInvalidCount
      g_InvalidMachine := PySem.W.mg_of X G gInvalidMachine
      g_InvalidPlan := PySem.W.mg_of X G gInvalidPlan
      g_InvalidRows := PySem.W.mg_of X G gInvalidRows
      x0_InvalidCount := ⟨nxeInvalidCount, nxuInvalidCount, nxtInvalidCount, nxkInvalidCount⟩
      x_InvalidMachine := ⟨nxiInvalidMachine, nxoInvalidMachine, nxdInvalidMachine, nxaInvalidMachine, nxuInvalidMachine, nxtInvalidMachine, nxkInvalidMachine⟩
      xi_InvalidMachine := a0
      xt_InvalidMachine := nxyInvalidMachine
      xk_InvalidMachine_part := nxz_InvalidMachine_part
      x_InvalidPlan := ⟨nxiInvalidPlan, nxoInvalidPlan, nxdInvalidPlan, nxaInvalidPlan, nxuInvalidPlan, nxtInvalidPlan, nxkInvalidPlan⟩
      xi_InvalidPlan := a1
      xt_InvalidPlan := nxyInvalidPlan
      xk_InvalidPlan_why := nxz_InvalidPlan_why
      xk_InvalidPlan_at := nxz_InvalidPlan_at
      x_InvalidRows := ⟨nxiInvalidRows, nxoInvalidRows, nxdInvalidRows, nxaInvalidRows, nxuInvalidRows, nxtInvalidRows, nxkInvalidRows⟩
      xi_InvalidRows := a2
      xt_InvalidRows := nxyInvalidRows
      xk_InvalidRows_at := nxz_InvalidRows_at
      xs_InvalidCount := fun p hp => by
        simp only [xsel_InvalidCount, List.mem_cons, List.not_mem_nil, or_false] at hp
        rcases hp with rfl | rfl | rfl | rfl
        · exact nxq_InvalidCount_InvalidCount
        · exact nxq_InvalidMachine_InvalidCount
        · exact nxq_InvalidPlan_InvalidCount
        · exact nxq_InvalidRows_InvalidCount
      xs_InvalidPlan := fun p hp => by
        simp only [xsel_InvalidPlan, List.mem_cons, List.not_mem_nil, or_false] at hp
        rcases hp with rfl | rfl | rfl | rfl
        · exact nxq_InvalidPlan_InvalidPlan
        · exact nxq_InvalidCount_InvalidPlan
        · exact nxq_InvalidMachine_InvalidPlan
        · exact nxq_InvalidRows_InvalidPlan
      xs_InvalidRows := fun p hp => by
        simp only [xsel_InvalidRows, List.mem_cons, List.not_mem_nil, or_false] at hp
        rcases hp with rfl | rfl | rfl | rfl
        · exact nxq_InvalidRows_InvalidRows
        · exact nxq_InvalidCount_InvalidRows
        · exact nxq_InvalidMachine_InvalidRows
        · exact nxq_InvalidPlan_InvalidRows
      xf_at := fun p hp => by
        simp only [xs_at, List.mem_cons, List.not_mem_nil, or_false] at hp
        rcases hp with rfl | rfl
        · exact ⟨xfB_ok nxwInvalidPlan, nxv_InvalidPlan_at⟩
        · exact ⟨xfB_ok nxwInvalidRows, nxv_InvalidRows_at⟩
      xf_why := fun p hp => by
        simp only [xs_why, List.mem_cons, List.not_mem_nil, or_false] at hp
        subst hp
        exact ⟨xfB_ok nxwInvalidPlan, nxv_InvalidPlan_why⟩
      its := fun C hC => by
        simp only [List.mem_cons, List.not_mem_nil, or_false] at hC
        subst hC
        exact itMachine
      f_g := fun C hC => by
        simp only [List.mem_cons, List.not_mem_nil, or_false] at hC
        subst hC
        exact ⟨clMachine, na_Machine_g⟩
      f_gap := fun C hC => by
        simp only [List.mem_cons, List.not_mem_nil, or_false] at hC
        subst hC
        exact ⟨clMachine, na_Machine_gap⟩
      f_l := fun C hC => by
        simp only [List.mem_cons, List.not_mem_nil, or_false] at hC
        subst hC
        exact ⟨clMachine, na_Machine_l⟩
      f_letter := fun C hC => by
        simp only [List.mem_cons, List.not_mem_nil, or_false] at hC
        subst hC
        exact ⟨clMachine, na_Machine_letter⟩
      f_o := fun C hC => by
        simp only [List.mem_cons, List.not_mem_nil, or_false] at hC
        subst hC
        exact ⟨clMachine, na_Machine_o⟩ }
  refine ⟨_, fun s v => .of_eq rfl, fun base _ _ => FnOk.imp (ok_law T) fun vs H Q E hq => hq _ (by exact ⟨rfl, ne_ex nxq_InvalidMachine_InvalidCount nxq_InvalidCount_InvalidCount, ne_ex nxq_InvalidPlan_InvalidCount nxq_InvalidCount_InvalidCount, ne_ex nxq_InvalidRows_InvalidCount nxq_InvalidCount_InvalidCount, ne_ex nxq_InvalidCount_InvalidPlan nxq_InvalidPlan_InvalidPlan, ne_ex nxq_InvalidMachine_InvalidPlan nxq_InvalidPlan_InvalidPlan, ne_ex nxq_InvalidRows_InvalidPlan nxq_InvalidPlan_InvalidPlan, ne_ex nxq_InvalidCount_InvalidRows nxq_InvalidRows_InvalidRows, ne_ex nxq_InvalidMachine_InvalidRows nxq_InvalidRows_InvalidRows, ne_ex nxq_InvalidPlan_InvalidRows nxq_InvalidRows_InvalidRows⟩)⟩
end Lw
namespace Lw
open PySem PySem.Spec PyProof.Rows L2 SI
theorem head_end {w : World} {K : PySem.W.Frag} {h : Heap} {mg : Str → Option Value} {fa : Addr} (c : Hd.Says dat K h) (G : h.Ns mainGlobals mg) (hmg : mg "law" = some (.ref fa)) : LamX.LawAtS PySem.Challenge.rw_tellontree_k67_sheets_written w K (L2.CX (PySem.Challenge.rw_tellontree_k67_sheets_written).prog w) 28 63 "_law_script" mg fa h := by
  have c0 : Hd.SaysL (chk0 K) := ⟨c.b 0⟩
  have c1 : Hd.SaysL (chk1 K) := ⟨c.b 1⟩
  have c2 : Hd.SaysL (chk2 K) := ⟨c.b 2⟩
  have c3 : Hd.SaysL (chk3 K) := ⟨c.b 3⟩
  have c4 : Hd.SaysL (chk4 K) := ⟨c.b 4⟩
  have c5 : Hd.SaysL (chk5 K) := ⟨c.b 5⟩
  have c6 : Hd.SaysL (chk6 K) := ⟨c.b 6⟩
  have c7 : Hd.SaysL (chk7 K) := ⟨c.b 7⟩
  obtain ⟨oc0, od0, sl0, dc0, pm0, an0, ct0, l0⟩ := c.f 0 (d := dk0) rfl
  obtain ⟨oc1, od1, sl1, dc1, pm1, an1, ct1, l1⟩ := c.f 1 (d := dk1) rfl
  obtain ⟨oc2, od2, sl2, dc2, pm2, an2, ct2, l2⟩ := c.f 2 (d := dk2) rfl
  obtain ⟨oc3, od3, sl3, dc3, pm3, an3, ct3, l3⟩ := c.f 3 (d := dk3) rfl
  obtain ⟨oc4, od4, sl4, dc4, pm4, an4, ct4, l4⟩ := c.f 4 (d := dk4) rfl
  obtain ⟨oc5, od5, sl5, dc5, pm5, an5, ct5, l5⟩ := c.f 5 (d := dk5) rfl
  obtain ⟨oc6, od6, sl6, dc6, pm6, an6, ct6, l6⟩ := c.f 6 (d := dk6) rfl
  obtain ⟨oc7, od7, sl7, dc7, pm7, an7, ct7, l7⟩ := c.f 7 (d := dk7) rfl
  obtain ⟨oc8, od8, sl8, dc8, pm8, an8, ct8, l8⟩ := c.f 8 (d := dk8) rfl
  obtain ⟨oc9, od9, sl9, dc9, pm9, an9, ct9, l9⟩ := c.f 9 (d := dk9) rfl
  obtain ⟨oc10, od10, sl10, dc10, pm10, an10, ct10, l10⟩ := c.f 10 (d := dk10) rfl
  obtain ⟨oc11, od11, sl11, dc11, pm11, an11, ct11, l11⟩ := c.f 11 (d := dk11) rfl
  obtain ⟨oc12, od12, sl12, dc12, pm12, an12, ct12, l12⟩ := c.f 12 (d := dk12) rfl
  rw [show Hd.kwV K ((dk12).at_ K) = .ref (zkd12 K) from c1.e 18] at l12
  obtain ⟨oc13, od13, sl13, dc13, pm13, an13, ct13, l13⟩ := c.f 13 (d := dk13) rfl
  obtain ⟨oc14, od14, sl14, dc14, pm14, an14, ct14, l14⟩ := c.f 14 (d := dk14) rfl
  obtain ⟨oc15, od15, sl15, dc15, pm15, an15, ct15, l15⟩ := c.f 15 (d := dk15) rfl
  obtain ⟨oc16, od16, sl16, dc16, pm16, an16, ct16, l16⟩ := c.f 16 (d := dk16) rfl
  obtain ⟨oc17, od17, sl17, dc17, pm17, an17, ct17, l17⟩ := c.f 17 (d := dk17) rfl
  obtain ⟨oc18, od18, sl18, dc18, pm18, an18, ct18, l18⟩ := c.f 18 (d := dk18) rfl
  obtain ⟨oc19, od19, sl19, dc19, pm19, an19, ct19, l19⟩ := c.f 19 (d := dk19) rfl
  obtain ⟨oc20, od20, sl20, dc20, pm20, an20, ct20, l20⟩ := c.f 20 (d := dk20) rfl
  obtain ⟨oc21, od21, sl21, dc21, pm21, an21, ct21, l21⟩ := c.f 21 (d := dk21) rfl
  obtain ⟨oc22, od22, sl22, dc22, pm22, an22, ct22, l22⟩ := c.f 22 (d := dk22) rfl
  obtain ⟨oc23, od23, sl23, dc23, pm23, an23, ct23, l23⟩ := c.f 23 (d := dk23) rfl
  obtain ⟨oc24, od24, sl24, dc24, pm24, an24, ct24, l24⟩ := c.f 24 (d := dk24) rfl
  obtain ⟨oc25, od25, sl25, dc25, pm25, an25, ct25, l25⟩ := c.f 25 (d := dk25) rfl
  obtain ⟨oc26, od26, sl26, dc26, pm26, an26, ct26, l26⟩ := c.f 26 (d := dk26) rfl
  obtain ⟨oc27, od27, sl27, dc27, pm27, an27, ct27, l27⟩ := c.f 27 (d := dk27) rfl
  obtain ⟨oc28, od28, sl28, dc28, pm28, an28, ct28, l28⟩ := c.f 28 (d := dk28) rfl
  obtain ⟨oc29, od29, sl29, dc29, pm29, an29, ct29, l29⟩ := c.f 29 (d := dk29) rfl
  obtain ⟨oc30, od30, sl30, dc30, pm30, an30, ct30, l30⟩ := c.f 30 (d := dk30) rfl
  obtain ⟨fd, hb, hF⟩ := all_mk (l := PySem.Challenge.rw_tellontree_k67_sheets_written) (w := w) c.inn G hmg
    (c0.e 0)
    (c0.e 1)
    (c0.e 2)
    (c0.e 3)
    (c0.e 4)
    (c0.e 5)
    (c0.e 6)
    (l0)
    (c0.b 7)
    (c0.b 8)
    (c0.e 9)
    (l1)
    (c0.b 10)
    (c0.b 11)
    (c0.e 12)
    (l2)
    (c0.b 13)
    (c0.b 14)
    (c0.e 15)
    (l3)
    (c0.b 16)
    (c0.b 17)
    (c0.e 18)
    (l4)
    (c0.b 19)
    (c0.b 20)
    (c0.e 21)
    (l5)
    (c0.b 22)
    (c0.b 23)
    (c0.e 24)
    (l6)
    (c1.b 0)
    (c1.b 1)
    (c1.e 2)
    (l7)
    (c1.b 3)
    (c1.b 4)
    (c1.e 5)
    (l8)
    (c1.b 6)
    (c1.b 7)
    (c1.e 8)
    (l9)
    (c1.b 9)
    (c1.b 10)
    (c1.e 11)
    (l10)
    (c1.b 12)
    (c1.b 13)
    (c1.e 14)
    (l11)
    (c1.b 15)
    (c1.b 16)
    (c1.e 17)
    (l12)
    (c1.e 19)
    (c1.b 20)
    (c1.b 21)
    (c1.e 22)
    (l13)
    (c1.b 23)
    (c1.b 24)
    (c2.e 0)
    (l14)
    (c2.b 1)
    (c2.b 2)
    (c2.e 3)
    (l15)
    (c2.b 4)
    (c2.b 5)
    (c2.e 6)
    (l16)
    (c2.b 7)
    (c2.b 8)
    (c2.e 9)
    (l17)
    (c2.b 10)
    (c2.b 11)
    (c2.e 12)
    (l18)
    (c2.b 13)
    (c2.b 14)
    (c2.e 15)
    (l19)
    (c2.b 16)
    (c2.b 17)
    (c2.e 18)
    (l20)
    (c2.b 19)
    (c2.b 20)
    (c2.e 21)
    (l21)
    (c2.b 22)
    (c2.b 23)
    (c2.e 24)
    (l22)
    (c3.b 0)
    (c3.b 1)
    (c3.e 2)
    (l23)
    (c3.b 3)
    (c3.b 4)
    (c3.e 5)
    (l24)
    (c3.b 6)
    (c3.b 7)
    (c3.e 8)
    (l25)
    (c3.b 9)
    (c3.b 10)
    (c3.e 11)
    (l26)
    (c3.b 12)
    (c3.b 13)
    (c3.e 14)
    (l27)
    (c3.b 15)
    (c3.b 16)
    (c3.e 17)
    (l28)
    (c3.b 18)
    (c3.b 19)
    (c3.e 20)
    (l29)
    (c3.b 21)
    (c3.b 22)
    (c3.e 23)
    (l30)
    (c3.b 24)
    (c4.b 0)
    (c4.e 1)
    (c4.e 2)
    (c4.e 3)
    (c4.e 4)
    (c4.e 5)
    (c4.e 6)
    (c4.e 7)
    (c4.e 8)
    (c4.e 9)
    (c4.e 10)
    (c4.e 11)
    (c4.e 12)
    (c4.e 13)
    (c4.e 14)
    (c4.e 15)
    (c4.e 16)
    (c4.e 17)
    (c4.e 18)
    (c4.b 19)
    (c4.b 20)
    (c4.b 21)
    (c4.b 22)
    (c4.b 23)
    (c4.b 24)
    (c5.e 0)
    (c5.e 1)
    (c5.e 2)
    (c5.e 3)
    (c5.e 4)
    (c5.b 5)
    (c5.b 6)
    (c5.b 7)
    (c5.e 8)
    (c5.e 9)
    (c5.e 10)
    (c5.e 11)
    (c5.e 12)
    (c5.b 13)
    (c5.e 14)
    (c5.e 15)
    (c5.b 16)
    (c5.b 17)
    (c5.b 18)
    (c5.e 19)
    (c5.e 20)
    (c5.b 21)
    (c5.b 22)
    (c5.b 23)
    (c5.e 24)
    (c6.e 0)
    (c6.e 1)
    (c6.b 2)
    (c6.e 3)
    (c6.e 4)
    (c6.b 5)
    (c6.b 6)
    (c6.b 7)
    (c6.e 8)
    (c6.e 9)
    (c6.e 10)
    (c6.e 11)
    (c6.b 12)
    (c6.e 13)
    (c6.e 14)
    (c6.b 15)
    (c6.b 16)
    (c6.b 17)
    (c6.e 18)
    (c6.e 19)
    (c6.e 20)
    (c6.e 21)
    (c6.e 22)
    (c6.e 23)
    (c6.e 24)
    (c7.e 0)
    (c7.e 1)
    (c7.e 2)
    (c7.e 3)
    (c7.e 4)
    (c7.e 5)
    (c7.e 6)
    (c7.e 7)
    (c7.b 8)
    (c7.b 9)
    (c7.e 10)
    (c7.e 11)
    (c7.e 12)
  exact ⟨fd, [], spLaw K, (fun _ h => by cases h), (fun _ h => by cases h), (fun _ h => by cases h), hb, (fun H a ns hl hb _ hS => law_start (ts := []) (c7.b 13) (fun _ h => by cases h) hl hb hS), fun base X G _ => hF base X G⟩
end Lw
open PySem PySem.W PyProof.Rows
set_option maxHeartbeats 0 in
theorem PySem.Challenge.cw_tellontree_k67_sheets_written_holds : PySem.Challenge.rw_tellontree_k67_sheets_written.Holds := by
  w_on; o_law
  refine HandSHeadRun.head_any (r := OpenLaw.row PySem.Challenge.rw_tellontree_k67_sheets_written) (q := view (OpenLaw.row PySem.Challenge.rw_tellontree_k67_sheets_written).prog [46]) (H := Hd.hook 0 4000 Lw.dat) (ob := Hd.ob 0 4000 Lw.dat) (M := 40000) (loose := Lw.nmL) (d := HandSHeadRun.topDef (OpenLaw.row PySem.Challenge.rw_tellontree_k67_sheets_written).prog 46) (kwd := []) (fun s => Hd.ob_eq s)
    (by kernel_rfl) (fun s => by kernel_rfl) Lw.head_run (by kernel_rfl) (by kernel_rfl) (by kernel_rfl) (by rfl) (by first | assumption | decide +kernel) (by decide +kernel) ⟨rfl, rfl, rfl, rfl, rfl, by decide +kernel⟩ ?hw ?hc
  case hw => w_witness2
  case hc =>
    refine LamX.walk_ofTsE (l := PySem.Challenge.rw_tellontree_k67_sheets_written) (n := 63) (k := 28) (x := "_law_script") (CX := fun w => L2.CX (PySem.Challenge.rw_tellontree_k67_sheets_written).prog w) rfl (by decide) (by kernel_rfl) ⟨rfl, by decide, by decide⟩ ?F (fun _ _ _ _ _ h => Lw.cx_none h)
    intro w mg fa h Y G hmg0
    obtain ⟨K, c⟩ := Y
    have hmg : mg ("law" : PySem.Str) = some (.ref fa) := by
      have e : (HandSHeadRun.topDef (OpenLaw.row PySem.Challenge.rw_tellontree_k67_sheets_written).prog 46).name = ("law" : PySem.Str) := by kernel_rfl
      rw [← e]
      exact hmg0
    exact ⟨K, c.inn, Lw.head_end c G hmg⟩
