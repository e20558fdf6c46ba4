import PyProof.Rows.All
import Wide.All
import OpenK.AllK
import Wide.FinOn
import HandS.ForMost
import HandS.ForExc
import HandS.Wide
import HandS.Gcd
import HandS.Flow
import HandS.IsInst
import HandS.Zip
import HandS.TupAny
import HandS.More
import HandS.Defaults
import HandS.Lambda
import HandS.Head0
import HandS.Head1
import HandS.Head2
import HandS.Head3
import HandS.HeadEnd
import HandS.HeadHook1
import HandS.HeadHook2
import HandS.HeadHook3
import HandS.Conv
import HandS.DictTup
import HandS.SortInts
import HandS.Style
import HandS.Star
import KE.KMathG
import KE.SortData
import HandS.ExcOwn
import HandS.ExcField
import HandS.ExcIs
import HandS.Small
import HandS.HeadWalk
import HandS.HeadHook4
import HandS.ExcInit
import HandS.ExcSuper
import KE.KExcSuper
import KE.KExcIs
import HandS.MakeKwOnly
import HandS.OwnEq
import KE.GoesEnum
import KE.GoesMore
import PySem.Challenge.RW_mostlaid_k18_nets_told
set_option Elab.async false
set_option linter.all false
set_option maxRecDepth 100000
set_option maxHeartbeats 0
/-! data over the hand layer: values as plain data, a heap of what may change -/
namespace Z
open PySem PySem.Spec PyProof.Rows L2

/-- a value as data: tuples by their items, what may change by its address -/
inductive D where
  | non | bl (b : Bool) | int (i : Int) | str (x : Str) | tup (ds : List D) | ilst (ds : List D) | ref (a : Addr) | ty (n : String) | obj (C : Addr) (fs : List (Str × D)) | scr (ns : List Int)
/-- an object that may change -/
inductive O where
  | lst (ds : List D) | ins (C : Addr) (fs : List (Str × D)) | dT (kvs : List (List Key × D)) | dK (kvs : List (Key × D)) | tab (q : Str) | xd (fs : List (Str × D))
abbrev Lp := Addr → Option O
def up (L : Lp) (a : Addr) (o : O) : Lp := fun b => if b = a then some o else L b
theorem up_same {L : Lp} {a : Addr} {o : O} : up L a o a = some o := if_pos rfl
theorem up_ne {L : Lp} {a b : Addr} {o : O} (h : b ≠ a) : up L a o b = L b := if_neg h
/-- less is known -/
def Le (L L' : Lp) : Prop := ∀ a o, L a = some o → L' a = some o
theorem Le.refl (L : Lp) : Le L L := fun _ _ h => h
theorem Le.trans {A B C : Lp} (h : Le A B) (k : Le B C) : Le A C := fun a o e => k a o (h a o e)
theorem Le.new {L L' : Lp} {a : Addr} {o : O} (h : Le L L') (n : L a = none) : Le L (up L' a o) := fun b u e => by
  by_cases hb : b = a
  · subst hb; rw [n] at e; cases e
  · rw [up_ne hb]; exact h b u e
theorem Le.up {L L' : Lp} {a : Addr} {o : O} (h : Le L L') : Le (up L a o) (up L' a o) := fun b u e => by
  by_cases hb : b = a
  · subst hb; rw [up_same] at e ⊢; exact e
  · rw [up_ne hb] at e ⊢; exact h b u e

/-- a list that never changes: locked -/
def SqI (K : PySem.W.Frag) (H : Hp) (a : Addr) (xs : List V) : Prop := ∃ ob, H a = some (.frz ob (.lst xs))
theorem SqI.sql {K : PySem.W.Frag} {H : Hp} {a : Addr} {xs : List V} (h : SqI K H a xs) : SqL K H a xs := by
  obtain ⟨ob, h⟩ := h
  exact .inl (.inr ⟨ob, h⟩)
section
variable (K : PySem.W.Frag) (H : Hp)
mutual
inductive RelD : D → V → Prop where
  | non : RelD .non .non
  | bl (b : Bool) : RelD (.bl b) (.bl b)
  | int (i : Int) : RelD (.int i) (.int i)
  | str (x : Str) : RelD (.str x) (.str x)
  | ref (a : Addr) : RelD (.ref a) (.ref a)
  | ty (n : String) : RelD (.ty n) (.ty n)
  | tup {a : Addr} {vs : List V} {ds : List D} : H a = some (.tup vs) → RelDs ds vs → RelD (.tup ds) (.ref a)
  | ilst {a : Addr} {vs : List V} {ds : List D} : SqI K H a vs → RelDs ds vs → RelD (.ilst ds) (.ref a)
  | scr {a : Addr} {ns : List Int} : (∀ H' : Hp, SqL K H' a (ns.map V.int)) → RelD (.scr ns) (.ref a)
  | obj {a C dx : Addr} {od : Obj} {gs : List (Str × V)} {fs : List (Str × D)} : H a = some (.frz od (.ins C dx gs)) → RelFs fs gs → RelD (.obj C fs) (.ref a)
inductive RelDs : List D → List V → Prop where
  | nil : RelDs [] []
  | cons {d : D} {v : V} {ds : List D} {vs : List V} : RelD d v → RelDs ds vs → RelDs (d :: ds) (v :: vs)
inductive RelFs : List (Str × D) → List (Str × V) → Prop where
  | nil : RelFs [] []
  | cons {f : Str} {d : D} {v : V} {ds : List (Str × D)} {vs : List (Str × V)} : RelD d v → RelFs ds vs → RelFs ((f, d) :: ds) ((f, v) :: vs)
end
end
/-- tuples stand, and locked lists -/
def Kp (H H' : Hp) : Prop := (∀ a xs, H a = some (.tup xs) → H' a = some (.tup xs)) ∧ ∀ a ob u, H a = some (.frz ob u) → H' a = some (.frz ob u)
theorem Kp.refl (H : Hp) : Kp H H := ⟨fun _ _ h => h, fun _ _ _ h => h⟩
theorem Kp.trans {A B C : Hp} (h : Kp A B) (k : Kp B C) : Kp A C := ⟨fun a xs e => k.1 a xs (h.1 a xs e), fun a ob xs e => k.2 a ob xs (h.2 a ob xs e)⟩
theorem Kp.sqt {H H' : Hp} {a : Addr} {xs : List V} (k : Kp H H') (h : H a = some (.tup xs)) : H' a = some (.tup xs) := k.1 a xs h
theorem Kp.sqi {K : PySem.W.Frag} {H H' : Hp} {a : Addr} {xs : List V} (k : Kp H H') (h : SqI K H a xs) : SqI K H' a xs := by
  obtain ⟨ob, h⟩ := h
  exact ⟨ob, k.2 a ob _ h⟩
/-- what stands for ever -/
def isFix : Option HO → Prop
  | some (.tup _) => True
  | some (.frz _ _) => True
  | some (.ext _) => True
  | _ => False
theorem Kp.upd {H : Hp} {p : Addr} {o : HO} (h : ¬ isFix (H p)) : Kp H (upd H p o) := by
  refine ⟨fun a xs e => ?_, fun a ob xs e => ?_⟩
  · have ne : a ≠ p := fun z => by
      subst z
      rw [e] at h; exact h trivial
    rw [upd_ne ne]; exact e
  · have ne : a ≠ p := fun z => by
      subst z
      rw [e] at h; exact h trivial
    rw [upd_ne ne]; exact e
theorem Kp.new {H : Hp} {p : Addr} {o : HO} (h : H p = none) : Kp H (L2.upd H p o) := Kp.upd (by rw [h]; exact id)

section
variable {K : PySem.W.Frag} {H H' : Hp}
mutual
theorem RelD.mono (k : Kp H H') : ∀ {d : D} {v : V}, RelD K H d v → RelD K H' d v
  | _, _, .non => .non
  | _, _, .bl b => .bl b
  | _, _, .int i => .int i
  | _, _, .str x => .str x
  | _, _, .ref a => .ref a
  | _, _, .ty n => .ty n
  | _, _, .tup h r => .tup (k.sqt h) (RelDs.mono k r)
  | _, _, .ilst h r => .ilst (k.sqi h) (RelDs.mono k r)
  | _, _, .obj h r => .obj (k.2 _ _ _ h) (RelFs.mono k r)
  | _, _, .scr h => .scr h
theorem RelDs.mono (k : Kp H H') : ∀ {ds : List D} {vs : List V}, RelDs K H ds vs → RelDs K H' ds vs
  | _, _, .nil => .nil
  | _, _, .cons h r => .cons (RelD.mono k h) (RelDs.mono k r)
theorem RelFs.mono (k : Kp H H') : ∀ {ds : List (Str × D)} {vs : List (Str × V)}, RelFs K H ds vs → RelFs K H' ds vs
  | _, _, .nil => .nil
  | _, _, .cons h r => .cons (RelD.mono k h) (RelFs.mono k r)
end
theorem RelDs.length : ∀ {ds : List D} {vs : List V}, RelDs K H ds vs → ds.length = vs.length
  | _, _, .nil => rfl
  | _, _, .cons _ r => by rw [List.length_cons, List.length_cons, RelDs.length r]
theorem RelDs.get : ∀ {ds : List D} {vs : List V} {i : Nat} {d : D}, RelDs K H ds vs → ds[i]? = some d → ∃ v, vs[i]? = some v ∧ RelD K H d v
  | _, _, i, _, .nil, e => by simp at e
  | _, _, 0, _, .cons h _, e => by simp at e; subst e; exact ⟨_, rfl, h⟩
  | _, _, i + 1, _, .cons (ds := ds) _ r, e => RelDs.get (i := i) r (by simpa using e)
theorem RelDs.getv : ∀ {ds : List D} {vs : List V} {i : Nat} {v : V}, RelDs K H ds vs → vs[i]? = some v → ∃ d, ds[i]? = some d ∧ RelD K H d v
  | _, _, i, _, .nil, e => by simp at e
  | _, _, 0, _, .cons h _, e => by simp at e; subst e; exact ⟨_, rfl, h⟩
  | _, _, i + 1, _, .cons (ds := ds) _ r, e => RelDs.getv (i := i) r (by simpa using e)
theorem RelDs.app : ∀ {ds es : List D} {vs us : List V}, RelDs K H ds vs → RelDs K H es us → RelDs K H (ds ++ es) (vs ++ us)
  | _, _, _, _, .nil, k => k
  | _, _, _, _, .cons h r, k => .cons h (RelDs.app r k)
theorem RelDs.set : ∀ {ds : List D} {vs : List V} {d : D} {v : V} (i : Nat), RelDs K H ds vs → RelD K H d v → RelDs K H (ds.set i d) (vs.set i v)
  | _, _, _, _, _, .nil, _ => .nil
  | _, _, _, _, 0, .cons _ r, k => .cons k r
  | _, _, _, _, i + 1, .cons h r, k => .cons h (RelDs.set i r k)
theorem RelDs.drop : ∀ {ds : List D} {vs : List V} (n : Nat), RelDs K H ds vs → RelDs K H (ds.drop n) (vs.drop n)
  | _, _, 0, h => h
  | _, _, _ + 1, .nil => .nil
  | _, _, n + 1, .cons _ r => RelDs.drop n r
theorem RelDs.take : ∀ {ds : List D} {vs : List V} (n : Nat), RelDs K H ds vs → RelDs K H (ds.take n) (vs.take n)
  | _, _, 0, _ => .nil
  | _, _, _ + 1, .nil => .nil
  | _, _, n + 1, .cons h r => .cons h (RelDs.take n r)
theorem RelDs.rev : ∀ {ds : List D} {vs : List V}, RelDs K H ds vs → RelDs K H ds.reverse vs.reverse
  | _, _, .nil => .nil
  | _, _, .cons h r => by
    rw [List.reverse_cons, List.reverse_cons]
    exact RelDs.app (RelDs.rev r) (.cons h .nil)
theorem RelDs.ints : ∀ {ns : List Int} {vs : List V}, RelDs K H (ns.map D.int) vs → vs = ns.map V.int
  | [], _, .nil => rfl
  | n :: ns, _, .cons h r => by
    cases h
    rw [List.map_cons, RelDs.ints r]
theorem RelDs.of_ints : ∀ (ns : List Int), RelDs K H (ns.map D.int) (ns.map V.int)
  | [] => .nil
  | n :: ns => .cons (.int n) (RelDs.of_ints ns)
theorem RelDs.bls : ∀ {bs : List Bool} {vs : List V}, RelDs K H (bs.map D.bl) vs → vs = bs.map V.bl
  | [], _, .nil => rfl
  | n :: ns, _, .cons h r => by
    cases h
    rw [List.map_cons, RelDs.bls r]
end
/-- fields, entries -/
def RelF (K : PySem.W.Frag) (H : Hp) : List (Str × D) → List (Str × V) → Prop := Paired fun p q => p.1 = q.1 ∧ RelD K H p.2 q.2
def RelK {κ : Type} (K : PySem.W.Frag) (H : Hp) : List (κ × D) → List (κ × V) → Prop := Paired fun p q => p.1 = q.1 ∧ RelD K H p.2 q.2
theorem RelK.mono {κ : Type} {K : PySem.W.Frag} {H H' : Hp} (k : Kp H H') : ∀ {fs : List (κ × D)} {gs : List (κ × V)}, RelK K H fs gs → RelK K H' fs gs
  | _, _, .nil => .nil
  | _, _, .cons h r => .cons ⟨h.1, h.2.mono k⟩ (RelK.mono k r)
/-- an object as it stands -/
def RepO (K : PySem.W.Frag) (H : Hp) (a : Addr) : O → Prop
  | .lst ds => ∃ vs, H a = some (.lst vs) ∧ RelDs K H ds vs
  | .ins C fs => ∃ dx gs, H a = some (.ins C dx gs) ∧ RelK K H fs gs
  | .dT kvs => ∃ ws, H a = some (.dT ws) ∧ RelK K H kvs ws
  | .dK kvs => ∃ ws, H a = some (.dK ws) ∧ RelK K H kvs ws
  | .tab q => LamX.TabS H a q
  | .xd fs => ∃ gs, H a = some (.xd gs) ∧ RelK K H fs gs
def RepH (K : PySem.W.Frag) (H : Hp) (L : Lp) : Prop := ∀ a o, L a = some o → RepO K H a o
section
variable {K : PySem.W.Frag} {H : Hp} {L : Lp}
theorem RepH.le {L' : Lp} (h : RepH K H L) (e : Le L' L) : RepH K H L' := fun a o q => h a o (e a o q)
/-- a store at p leaves what stands elsewhere -/
theorem RepO.upd {p a : Addr} {o : O} {u : HO} (h : RepO K H a o) (ne : a ≠ p) (k : Kp H (upd H p u)) (hx : ∀ φ, H p ≠ some (.ext φ)) : RepO K (upd H p u) a o := by
  cases o with
  | lst ds => obtain ⟨vs, e, r⟩ := h; exact ⟨vs, by rw [upd_ne ne]; exact e, r.mono k⟩
  | ins C fs => obtain ⟨dx, gs, e, r⟩ := h; exact ⟨dx, gs, by rw [upd_ne ne]; exact e, RelK.mono k r⟩
  | dT kvs => obtain ⟨ws, e, r⟩ := h; exact ⟨ws, by rw [upd_ne ne]; exact e, RelK.mono k r⟩
  | dK kvs => obtain ⟨ws, e, r⟩ := h; exact ⟨ws, by rw [upd_ne ne]; exact e, RelK.mono k r⟩
  | tab q =>
    obtain ⟨ps, h1, h2, h3⟩ := h
    refine ⟨ps, by rw [upd_ne ne]; exact h1, h2, fun pos cv hc => ?_⟩
    obtain ⟨c, e1, e2⟩ := h3 pos cv hc
    exact ⟨c, e1, by rw [upd_ne (fun z => hx _ (z ▸ e2))]; exact e2⟩
  | xd fs => obtain ⟨gs, e, r⟩ := h; exact ⟨gs, by rw [upd_ne ne]; exact e, RelK.mono k r⟩
/-- what is told in L is tracked -/
theorem RepO.so {p : Addr} {o : O} (q : RepO K H p o) : ∃ u, H p = some u ∧ ¬ isFix (some u) := by
  cases o with
  | lst ds => obtain ⟨vs, e, _⟩ := q; exact ⟨_, e, id⟩
  | ins C fs => obtain ⟨dx, gs, e, _⟩ := q; exact ⟨_, e, id⟩
  | dT kvs => obtain ⟨ws, e, _⟩ := q; exact ⟨_, e, id⟩
  | dK kvs => obtain ⟨ws, e, _⟩ := q; exact ⟨_, e, id⟩
  | tab q => obtain ⟨ps, e, _⟩ := q; exact ⟨_, e, id⟩
  | xd fs => obtain ⟨gs, e, _⟩ := q; exact ⟨_, e, id⟩
theorem RepH.no (h : RepH K H L) {p : Addr} (n : H p = none) : L p = none := by
  cases e : L p with
  | none => rfl
  | some o =>
    obtain ⟨u, q, _⟩ := (h p o e).so
    rw [n] at q; cases q
/-- a new object, told or not; an object written anew -/
theorem RepH.hid (h : RepH K H L) {p : Addr} {u : HO} (n : H p = none) : RepH K (upd H p u) L := fun a o e =>
  (h a o e).upd (fun z => by subst z; rw [h.no n] at e; cases e) (Kp.new n) fun φ z => by rw [n] at z; cases z
theorem RepH.put (h : RepH K H L) {p : Addr} {u : HO} {o' : O} (n : ¬ isFix (H p)) (r : RepO K (upd H p u) p o') : RepH K (upd H p u) (up L p o') := fun a o e => by
  by_cases z : a = p
  · subst z; rw [up_same] at e; cases e; exact r
  · rw [up_ne z] at e; exact (h a o e).upd z (Kp.upd n) fun φ q => n (by rw [q]; exact trivial)
theorem RepH.new (h : RepH K H L) {p : Addr} {u : HO} {o' : O} (n : H p = none) (r : RepO K (upd H p u) p o') : RepH K (upd H p u) (up L p o') := h.put (by rw [n]; exact id) r
end

/-! ### what a reading by data asks of the reading -/
abbrev S' := List (Option D)
abbrev VK' := D → Lp → Prop
abbrev TE' := S' → Lp → VK' → Prop
abbrev TT' := S' → Lp → (Bool → Lp → Prop) → Prop
abbrev TA' := S' → Lp → (List D → Lp → Prop) → Prop
structure Ends' where
  nx : S' → Lp → Prop
  rt : VK'
  bk : S' → Lp → Prop := fun _ _ => False
  ct : S' → Lp → Prop := fun _ _ => False
abbrev TS' := Ends' → S' → Lp → Prop
def RepS (K : PySem.W.Frag) (H : Hp) (τ : S') (σ : L2.St) : Prop := τ.length = σ.length ∧ ∀ (i : Nat) (d : D), τ[i]? = some (some d) → ∃ v, σ[i]? = some (some v) ∧ RelD K H d v
theorem RepS.mono {K : PySem.W.Frag} {H H' : Hp} {τ : S'} {σ : L2.St} (h : RepS K H τ σ) (k : Kp H H') : RepS K H' τ σ := ⟨h.1, fun i d e => by
  obtain ⟨v, a, b⟩ := h.2 i d e
  exact ⟨v, a, b.mono k⟩⟩
theorem RepS.set {K : PySem.W.Frag} {H : Hp} {τ : S'} {σ : L2.St} (h : RepS K H τ σ) {d : D} {v : V} (r : RelD K H d v) (i : Nat) : RepS K H (τ.set i (some d)) (σ.set i (some v)) := by
  refine ⟨by rw [List.length_set, List.length_set]; exact h.1, fun j e q => ?_⟩
  by_cases z : i = j
  · subst z
    have hlt : i < τ.length := by
      rw [List.getElem?_eq_some_iff] at q
      obtain ⟨w, _⟩ := q
      rwa [List.length_set] at w
    rw [List.getElem?_set_self hlt] at q
    cases q
    exact ⟨v, by rw [List.getElem?_set_self (by rw [← h.1]; exact hlt)], r⟩
  · rw [List.getElem?_set_ne z] at q ⊢
    exact h.2 j e q
def lE (K : PySem.W.Frag) (t : TE') : TE := fun σ H Q => ∃ τ L Q', RepS K H τ σ ∧ RepH K H L ∧ t τ L Q' ∧ ∀ d L1 v H1, Q' d L1 → Kp H H1 → RepH K H1 L1 → RelD K H1 d v → Q v H1
def lT (K : PySem.W.Frag) (t : TT') : TT := fun σ H Q => ∃ τ L Q', RepS K H τ σ ∧ RepH K H L ∧ t τ L Q' ∧ ∀ b L1 H1, Q' b L1 → Kp H H1 → RepH K H1 L1 → Q b H1
def lA (K : PySem.W.Frag) (n : Nat) (t : TA') : TA := fun σ H Q => ∃ τ L Q', RepS K H τ σ ∧ RepH K H L ∧ t τ L Q' ∧ ∀ ds L1 vs H1, Q' ds L1 → ds.length = n → Kp H H1 → RepH K H1 L1 → RelDs K H1 ds vs → Q vs H1
def lS (K : PySem.W.Frag) (t : TS') : TS := fun D σ H => ∃ τ L D', RepS K H τ σ ∧ RepH K H L ∧ t D' τ L ∧
  (∀ τ1 L1 σ1 H1, D'.nx τ1 L1 → Kp H H1 → RepH K H1 L1 → RepS K H1 τ1 σ1 → D.nx σ1 H1) ∧ (∀ d L1 v H1, D'.rt d L1 → Kp H H1 → RepH K H1 L1 → RelD K H1 d v → D.rt v H1) ∧
  (∀ τ1 L1 σ1 H1, D'.bk τ1 L1 → Kp H H1 → RepH K H1 L1 → RepS K H1 τ1 σ1 → D.bk σ1 H1) ∧ (∀ τ1 L1 σ1 H1, D'.ct τ1 L1 → Kp H H1 → RepH K H1 L1 → RepS K H1 τ1 σ1 → D.ct σ1 H1)
def QE (X : Cx) (e : Expr) (t : TE') : Prop := PE X e (lE X.K t)
def QT (X : Cx) (e : Expr) (t : TT') : Prop := PT X e (lT X.K t)
def QW (X : Cx) (e : Expr) (t : TT') : Prop := PW X e (lT X.K t)
def QA (X : Cx) (es : List Expr) (t : TA') : Prop := PA X es (lA X.K es.length t)
def QS (X : Cx) (st : Stmt) (t : TS') : Prop := PS X st (lS X.K t)
def QSs (X : Cx) (st : List Stmt) (t : TS') : Prop := PSs X st (lS X.K t)
/-- a reading may be replaced by a stronger one -/
theorem PE.str {X : Cx} {e : Expr} {t u : TE} (h : PE X e t) (k : ∀ σ H Q, u σ H Q → t σ H Q) : PE X e u := ⟨fun pins s σ H Q I q => h.run pins s σ H Q I (k σ H Q q)⟩
theorem PT.str {X : Cx} {e : Expr} {t u : TT} (h : PT X e t) (k : ∀ σ H Q, u σ H Q → t σ H Q) : PT X e u := ⟨fun pins s σ H Q I q => h.run pins s σ H Q I (k σ H Q q)⟩
theorem PW.str {X : Cx} {e : Expr} {t u : TT} (h : PW X e t) (k : ∀ σ H Q, u σ H Q → t σ H Q) : PW X e u := ⟨fun wh pins s σ H Q I q => h.run wh pins s σ H Q I (k σ H Q q)⟩
theorem PA.str {X : Cx} {e : List Expr} {t u : TA} (h : PA X e t) (k : ∀ σ H Q, u σ H Q → t σ H Q) : PA X e u := ⟨fun p pins s σ H Q I q => h.run p pins s σ H Q I (k σ H Q q)⟩
theorem PS.str {X : Cx} {e : Stmt} {t u : TS} (h : PS X e t) (k : ∀ D σ H, u D σ H → t D σ H) : PS X e u := ⟨fun pins s σ H D I q => h.run pins s σ H D I (k D σ H q)⟩
theorem PSs.str {X : Cx} {e : List Stmt} {t u : TS} (h : PSs X e t) (k : ∀ D σ H, u D σ H → t D σ H) : PSs X e u := ⟨fun pins s σ H D I q => h.run pins s σ H D I (k D σ H q)⟩
end Z

/-! expressions, tests, statements by data -/
namespace Z
open PySem PySem.Spec PyProof.Rows L2
/-! ### the readings -/
def wVar (i : Nat) : TE' := fun τ L Q => match τ[i]? with
  | some (some d) => Q d L
  | _ => False
def wC (d : D) : TE' := fun _ L Q => Q d L
def wNil : TA' := fun _ L Q => Q [] L
def wCons (ta : TE') (tr : TA') : TA' := fun τ L Q => ta τ L fun d L1 => tr τ L1 fun ds L2 => Q (d :: ds) L2
def wTup (t : TA') : TE' := fun τ L Q => t τ L fun ds L1 => Q (.tup ds) L1
def wLst (t : TA') : TE' := fun τ L Q => t τ L fun ds L1 => ∀ p, L1 p = none → Q (.ref p) (up L1 p (.lst ds))
abbrev R2' := D → D → Lp → VK' → Prop
abbrev R1' := D → Lp → VK' → Prop
def wOp (r : R2') (ta tb : TE') : TE' := fun τ L Q => ta τ L fun d L1 => tb τ L1 fun e L2 => r d e L2 Q
def wUn (r : R1') (ta : TE') : TE' := fun τ L Q => ta τ L fun d L1 => r d L1 Q
def wIf (t : TT') (ta tb : TE') : TE' := fun τ L Q => t τ L fun c L1 => if c = true then ta τ L1 Q else tb τ L1 Q
/-- a truth value, what then -/
def blK (d : D) (L : Lp) (Q : Bool → Lp → Prop) : Prop := match d with
  | .bl c => Q c L
  | _ => False
def wAndV (ta tb : TE') : TE' := fun τ L Q => ta τ L fun d L1 => blK d L1 fun c L1 => if c = true then tb τ L1 Q else Q (.bl false) L1
def wOrV (ta tb : TE') : TE' := fun τ L Q => ta τ L fun d L1 => blK d L1 fun c L1 => if c = true then Q (.bl true) L1 else tb τ L1 Q
def wNotV (ta : TE') : TE' := fun τ L Q => ta τ L fun d L1 => blK d L1 fun c L1 => Q (.bl (!c)) L1
def wB (t : TE') : TT' := fun τ L Q => t τ L fun d L1 => blK d L1 Q
def wAnd (t u : TT') : TT' := fun τ L Q => t τ L fun c L1 => if c = true then u τ L1 Q else Q false L1
def wOr (t u : TT') : TT' := fun τ L Q => t τ L fun c L1 => if c = true then Q true L1 else u τ L1 Q
def zNot (t : TT') : TT' := fun τ L Q => t τ L fun c L1 => Q (!c) L1
/-- truth of any value -/
def truD (d : D) (L : Lp) (Q : Bool → Lp → Prop) : Prop := match d with
  | .non => Q false L
  | .bl b => Q b L
  | .int i => Q (i != 0) L
  | .str x => x.length ≤ sizeLine ∧ Q ((x.length : Int) != 0) L
  | .tup ds => Q (!ds.isEmpty) L
  | .ilst ds => Q (!ds.isEmpty) L
  | .ref a => ∃ ds, L a = some (.lst ds) ∧ Q (!ds.isEmpty) L
  | _ => False
def zTru (t : TE') : TT' := fun τ L Q => t τ L fun d L1 => truD d L1 Q
def wChain (r r' : R2') (ta tb tc : TE') : TE' := fun τ L Q => ta τ L fun x L1 => tb τ L1 fun y L2 => r x y L2 fun z L3 => blK z L3 fun k L3 => if k = true then tc τ L3 fun u L4 => r' y u L4 Q else Q (.bl false) L3
abbrev TG' := D → S' → Lp → (S' → Lp → Prop) → Prop
abbrev TGs' := List D → S' → Lp → (S' → Lp → Prop) → Prop
def hName (i : Nat) : TG' := fun d τ L Q => Q (τ.set i (some d)) L
def hNil : TGs' := fun ds τ L Q => match ds with
  | [] => Q τ L
  | _ => False
def hCons (t : TG') (u : TGs') : TGs' := fun ds τ L Q => match ds with
  | d :: es => t d τ L fun τ1 L1 => u es τ1 L1 Q
  | _ => False
def tupK (d : D) (Q : List D → Prop) : Prop := match d with
  | .tup ds => Q ds
  | _ => False
def hTup (n : Nat) (t : TGs') : TG' := fun d τ L Q => tupK d fun ds => ds.length = n ∧ t ds τ L Q
def hSub (to ti : TE') (t : D → D → D → Lp → (Lp → Prop) → Prop) : TG' := fun d τ L Q => to τ L fun o L1 => ti τ L1 fun i L2 => t o i d L2 fun L3 => Q τ L3
def wNext : TS' := fun E τ L => E.nx τ L
/-- held back till it is asked -/
def hold {α : Type} (x : α) : α := x
def wSeq (t u : TS') : TS' := fun E τ L => t { E with nx := hold (u E) } τ L
def wBreak : TS' := fun E τ L => E.bk τ L
def wCont : TS' := fun E τ L => E.ct τ L
def wDrop (t : TE') : TS' := fun E τ L => t τ L fun _ L1 => E.nx τ L1
def wRet (t : TE') : TS' := fun E τ L => t τ L E.rt
def wRetN : TS' := fun E _ L => E.rt .non L
def wIfS (c : TT') (t u : TS') : TS' := fun E τ L => c τ L fun b L1 => if b = true then t E τ L1 else u E τ L1
def wNever : TS' := fun _ _ _ => False
def wAsg (t : TE') (g : TG') : TS' := fun E τ L => t τ L fun d L1 => g d τ L1 E.nx
def pairK (ds : List D) (Q : D → D → Prop) : Prop := match ds with
  | [v, w] => Q v w
  | _ => False
def wPar (i j : Nat) (ta : TA') : TS' := fun E τ L => ta τ L fun ds L1 => pairK ds fun v w => E.nx ((τ.set i (some v)).set j (some w)) L1
def lG (K : PySem.W.Frag) (g : TG') : TG := fun v σ H Q => ∃ d τ L Q', RelD K H d v ∧ RepS K H τ σ ∧ RepH K H L ∧ g d τ L Q' ∧ ∀ τ1 L1 σ1 H1, Q' τ1 L1 → Kp H H1 → RepH K H1 L1 → RepS K H1 τ1 σ1 → Q σ1 H1
def lGs (K : PySem.W.Frag) (g : TGs') : TGs := fun vs σ H Q => ∃ ds τ L Q', RelDs K H ds vs ∧ RepS K H τ σ ∧ RepH K H L ∧ g ds τ L Q' ∧ ∀ τ1 L1 σ1 H1, Q' τ1 L1 → Kp H H1 → RepH K H1 L1 → RepS K H1 τ1 σ1 → Q σ1 H1
def QG (X : Cx) (tg : Expr) (g : TG') : Prop := PG X tg (lG X.K g)
def QGs (X : Cx) (tg : List Expr) (g : TGs') : Prop := PGs X tg (lGs X.K g)
theorem PG.str {X : Cx} {e : Expr} {t u : TG} (h : PG X e t) (k : ∀ v σ H Q, u v σ H Q → t v σ H Q) : PG X e u := ⟨fun pins s σ H v w Q I r q => h.run pins s σ H v w Q I r (k v σ H Q q)⟩
theorem PGs.str {X : Cx} {e : List Expr} {t u : TGs} (h : PGs X e t) (k : ∀ v σ H Q, u v σ H Q → t v σ H Q) : PGs X e u := ⟨fun pins s σ H v w Q I r q => h.run pins s σ H v w Q I r (k v σ H Q q)⟩
/-- operators, by data -/
def LR2 (K : PySem.W.Frag) (r' : R2') (r : R2) : Prop := ∀ d e L v u H Q Q', RelD K H d v → RelD K H e u → RepH K H L → r' d e L Q' → (∀ d1 L1 v1 H1, Q' d1 L1 → Kp H H1 → RepH K H1 L1 → RelD K H1 d1 v1 → Q v1 H1) → r v u H Q
def LR1 (K : PySem.W.Frag) (r' : R1') (r : V → Hp → VK → Prop) : Prop := ∀ d L v H Q Q', RelD K H d v → RepH K H L → r' d L Q' → (∀ d1 L1 v1 H1, Q' d1 L1 → Kp H H1 → RepH K H1 L1 → RelD K H1 d1 v1 → Q v1 H1) → r v H Q
def LRA (K : PySem.W.Frag) (r' : List D → Lp → VK' → Prop) (r : List V → Hp → VK → Prop) : Prop := ∀ ds L vs H Q Q', RelDs K H ds vs → RepH K H L → r' ds L Q' → (∀ d1 L1 v1 H1, Q' d1 L1 → Kp H H1 → RepH K H1 L1 → RelD K H1 d1 v1 → Q v1 H1) → r vs H Q

theorem RelDs.empty {K : PySem.W.Frag} {H : Hp} : ∀ {ds : List D} {vs : List V}, RelDs K H ds vs → ds.isEmpty = vs.isEmpty
  | _, _, .nil => rfl
  | _, _, .cons _ _ => rfl
section
variable {X : Cx}
theorem lE_intro {K : PySem.W.Frag} {t : TE'} {σ : L2.St} {H : Hp} {Q : VK} {τ : S'} {L : Lp} {Q' : VK'} (a : RepS K H τ σ) (b : RepH K H L) (c : t τ L Q') (k : ∀ d L1 v H1, Q' d L1 → Kp H H1 → RepH K H1 L1 → RelD K H1 d v → Q v H1) : lE K t σ H Q := ⟨τ, L, Q', a, b, c, k⟩
theorem qv (i : Nat) {x : Str} {pos : Pos} (hN : X.N[i]? = some x := by rfl) (hv : Vis X.env.scope x := by first | exact Or.inl rfl | exact Or.inr (Or.inl rfl) | exact Or.inr (Or.inr rfl)) (hd : (x == ("__debug__" : Str)) = false := by decide) (hcd : (x == ("__classdict__" : Str)) = false := by decide) :
    QE X (.Name x pos) (wVar i) := PE.str (pe_var hN hv hd hcd) fun σ H Q h => by
  obtain ⟨τ, L, Q', a, b, c, k⟩ := h
  unfold wVar at c
  cases e : τ[i]? with
  | none => rw [e] at c; exact c.elim
  | some o =>
    rw [e] at c
    cases o with
    | none => exact c.elim
    | some d =>
      obtain ⟨v, e1, r⟩ := a.2 i d e
      exact ⟨v, e1, k d L v H c (Kp.refl H) b r⟩
theorem qcon {e : Expr} {v : V} (d : D) (h : PE X e (tC v)) (r : ∀ H, RelD X.K H d v) : QE X e (wC d) := PE.str h fun σ H Q h => by
  obtain ⟨τ, L, Q', a, b, c, k⟩ := h
  exact k d L v H c (Kp.refl H) b (r H)
theorem qa_nil : QA X [] wNil := PA.str pa_nil fun σ H Q h => by
  obtain ⟨τ, L, Q', a, b, c, k⟩ := h
  exact k [] L [] H c rfl (Kp.refl H) b .nil
theorem qa_cons {e : Expr} {es : List Expr} {ta : TE'} {tr : TA'} (h : QE X e ta) (r : QA X es tr) (hs : starEach (e :: es) X.env = (false, eval e X.env) :: starEach es X.env := by rfl) : QA X (e :: es) (wCons ta tr) := PA.str (pa_cons h r hs) fun σ H Q h => by
  obtain ⟨τ, L, Q', a, b, c, k⟩ := h
  refine ⟨τ, L, _, a, b, c, fun d L1 v H1 q kp rh rd => ?_⟩
  refine ⟨τ, L1, _, a.mono kp, rh, q, fun ds L2 vs H2 q2 hl kp2 rh2 rd2 => ?_⟩
  exact k (d :: ds) L2 (v :: vs) H2 q2 (by rw [List.length_cons, hl, List.length_cons]) (kp.trans kp2) rh2 (.cons (rd.mono kp2) rd2)
theorem q_tup {es : List Expr} {x1 pos} {t : TA'} (h : QA X es t) (hz : Nat.ble es.length 1000 = true := by rfl) : QE X (.Tuple es x1 pos) (wTup t) := PE.str (pe_tup h) fun σ H Q h => by
  obtain ⟨τ, L, Q', a, b, c, k⟩ := h
  refine ⟨τ, L, _, a, b, c, fun ds L1 vs H1 q hl kp rh rd => ⟨?_, fun p np => ?_⟩⟩
  · rw [← rd.length, hl]
    exact Nat.le_of_lt (small1000 (Nat.le_of_ble_eq_true hz))
  · exact k (.tup ds) L1 (.ref p) _ q (kp.trans (Kp.new np)) (rh.hid np) (.tup upd_same (rd.mono (Kp.new np)))
theorem q_lst {es : List Expr} {pos} {t : TA'} (h : QA X es t) (hz : Nat.ble es.length 1000 = true := by rfl) : QE X (.List es pos) (wLst t) := PE.str (pe_lst h) fun σ H Q h => by
  obtain ⟨τ, L, Q', a, b, c, k⟩ := h
  refine ⟨τ, L, _, a, b, c, fun ds L1 vs H1 q hl kp rh rd => ⟨?_, fun p np => ?_⟩⟩
  · rw [← rd.length, hl]
    exact Nat.le_of_lt (small1000 (Nat.le_of_ble_eq_true hz))
  · exact k (.ref p) _ (.ref p) _ (q p (rh.no np)) (kp.trans (Kp.new np)) (rh.new np ⟨vs, upd_same, rd.mono (Kp.new np)⟩) (.ref p)
/-- two parts and an operator -/
theorem tOp_l {K : PySem.W.Frag} {r' : R2'} {r : R2} {ta tb : TE'} (hr : LR2 K r' r) (σ : L2.St) (H : Hp) (Q : VK) (h : lE K (wOp r' ta tb) σ H Q) : tOp r (lE K ta) (lE K tb) σ H Q := by
  obtain ⟨τ, L, Q', a, b, c, k⟩ := h
  refine ⟨τ, L, _, a, b, c, fun d L1 v H1 q kp rh rd => ?_⟩
  refine ⟨τ, L1, _, a.mono kp, rh, q, fun e L2 u H2 q2 kp2 rh2 rd2 => ?_⟩
  exact hr d e L2 v u H2 Q Q' (rd.mono kp2) rd2 rh2 q2 fun d1 L1' v1 H1' q3 kp3 => k d1 L1' v1 H1' q3 ((kp.trans kp2).trans kp3)
theorem q_op {op : Operator} {r : R2} {r' : R2'} {a b : Expr} {pos} {ta tb : TE'} (ho : OpR X (binaryOp op) r) (hr : LR2 X.K r' r) (ha : QE X a ta) (hb : QE X b tb) : QE X (.BinOp a op b pos) (wOp r' ta tb) := PE.str (pe_op ho ha hb) (tOp_l hr)
theorem q_cmp {op : CmpOp} {r : R2} {r' : R2'} {a b : Expr} {pos} {ta tb : TE'} (ho : OpR X (compareOp op) r) (hr : LR2 X.K r' r) (ha : QE X a ta) (hb : QE X b tb) (hm : behindInMarks op b = false) : QE X (.Compare a [op] [b] pos) (wOp r' ta tb) := PE.str (pe_cmpR ho ha hb hm) (tOp_l hr)
theorem tTest_l {K : PySem.W.Frag} {t : TE'} (σ : L2.St) (H : Hp) (Q : Bool → Hp → Prop) (h : lT K (wB t) σ H Q) : tTest (lE K t) σ H Q := by
  obtain ⟨τ, L, Q', a, b, c, k⟩ := h
  refine ⟨τ, L, _, a, b, c, fun d L1 v H1 q kp rh rd => ?_⟩
  cases d with
  | bl c => cases rd; exact ⟨c, rfl, k c L1 H1 q kp rh⟩
  | _ => exact q.elim
theorem t_cmp {op : CmpOp} {r : R2} {r' : R2'} {a b : Expr} {pos} {ta tb : TE'} (ho : OpR X (compareOp op) r) (hr : LR2 X.K r' r) (ha : QE X a ta) (hb : QE X b tb) (hm : behindInMarks op b = false) : QT X (.Compare a [op] [b] pos) (wB (wOp r' ta tb)) :=
  PT.str (pt_cmpR ho ha hb hm) fun σ H Q h => by
    obtain ⟨k, e⟩ : ∃ x : Nat, x = 0 := ⟨0, rfl⟩
    have z := tTest_l (t := wOp r' ta tb) σ H Q h
    exact tOp_l hr σ H _ z
theorem tChain_l {K : PySem.W.Frag} {r1' r2' : R2'} {r1 r2 : R2} {ta tb tc : TE'} (h1 : LR2 K r1' r1) (h2 : LR2 K r2' r2) (σ : L2.St) (H : Hp) (Q : VK) (h : lE K (wChain r1' r2' ta tb tc) σ H Q) : tChain r1 r2 (lE K ta) (lE K tb) (lE K tc) σ H Q := by
  obtain ⟨τ, L, Q', a, b, c, k⟩ := h
  refine ⟨τ, L, _, a, b, c, fun d L1 v H1 q kp rh rd => ?_⟩
  refine ⟨τ, L1, _, a.mono kp, rh, q, fun e L2 u H2 q2 kp2 rh2 rd2 => ?_⟩
  refine h1 d e L2 v u H2 _ _ (rd.mono kp2) rd2 rh2 q2 fun z L3 w H3 q3 kp3 rh3 rd3 => ?_
  cases z with
  | bl k' =>
    cases rd3
    refine ⟨k', rfl, ?_⟩
    cases k' with
    | true =>
      simp only [if_true] at q3 ⊢
      refine ⟨τ, L3, _, a.mono ((kp.trans kp2).trans kp3), rh3, q3, fun f L4 x H4 q4 kp4 rh4 rd4 => ?_⟩
      exact h2 e f L4 u x H4 Q Q' (rd2.mono (kp3.trans kp4)) rd4 rh4 q4 fun d1 L1' v1 H1' q5 kp5 => k d1 L1' v1 H1' q5 ((((kp.trans kp2).trans kp3).trans kp4).trans kp5)
    | false =>
      simp only [Bool.false_eq_true, if_false] at q3 ⊢
      exact k _ L3 _ H3 q3 ((kp.trans kp2).trans kp3) rh3 (.bl false)
  | _ => exact q3.elim
theorem q_chain {op op' : CmpOp} {r1 r2 : R2} {r1' r2' : R2'} {a b c : Expr} {pos} {ta tb tc : TE'} (ho : OpR X (compareOp op) r1) (ho' : OpR X (compareOp op') r2) (h1 : LR2 X.K r1' r1) (h2 : LR2 X.K r2' r2) (ha : QE X a ta) (hb : QE X b tb) (hc : QE X c tc)
    (hm : lastMarks [op, op'] [b, c] = false := by with_unfolding_all rfl) : QE X (.Compare a [op, op'] [b, c] pos) (wChain r1' r2' ta tb tc) := PE.str (pe_chain ho ho' ha hb hc hm) (tChain_l h1 h2)
theorem t_val {e : Expr} {t : TE'} (h : QE X e t) (he : ∀ whole, isTrue e X.env whole = (do let v ← whole; standAt e.pos; holding [v] (truthy v)) := by intro _; rfl) : QT X e (wB t) := PT.str (pt_val h he) fun σ H Q h => by
  obtain ⟨τ, L, Q', a, b, c, k⟩ := h
  refine ⟨τ, L, _, a, b, c, fun d L1 v H1 q kp rh rd => ?_⟩
  cases d with
  | bl c => cases rd; exact ⟨c, rfl, k c L1 H1 q kp rh⟩
  | _ => exact q.elim
theorem t_tru {e : Expr} {t : TE'} (h : QE X e t) (he : ∀ whole, isTrue e X.env whole = (do let v ← whole; standAt e.pos; holding [v] (truthy v)) := by intro _; rfl) : QT X e (zTru t) := PT.str (pt_truth h he) fun σ H Q h => by
  obtain ⟨τ, L, Q', a, b, c, k⟩ := h
  refine ⟨τ, L, _, a, b, c, fun d L1 v H1 q kp rh rd => ?_⟩
  cases d with
  | non => cases rd; exact ⟨false, rfl, k _ L1 H1 q kp rh⟩
  | bl z => cases rd; exact ⟨z, rfl, k _ L1 H1 q kp rh⟩
  | int i => cases rd; exact ⟨_, rfl, k _ L1 H1 q kp rh⟩
  | str x => cases rd; exact ⟨_, ⟨q.1, rfl⟩, k _ L1 H1 q.2 kp rh⟩
  | tup ds =>
    cases rd with
    | tup hs rs => exact ⟨_, .inr (.inl ⟨_, .inl (.inl hs), by rw [rs.empty]⟩), k _ L1 H1 q kp rh⟩
  | ilst ds =>
    cases rd with
    | ilst hs rs => exact ⟨_, .inl ⟨_, hs.sql, by rw [rs.empty]⟩, k _ L1 H1 q kp rh⟩
  | ref p =>
    cases rd
    obtain ⟨ds, e, q⟩ := q
    obtain ⟨vs, e2, rs⟩ := rh p _ e
    exact ⟨_, .inl ⟨vs, .inl (.inl e2), by rw [rs.empty]⟩, k _ L1 H1 q kp rh⟩
  | ty n => exact q.elim
  | obj C fs => exact q.elim
  | scr ns => exact q.elim
theorem t_not {a : Expr} {pos} {t : TT'} (h : QT X a t) : QT X (.UnaryOp .Not a pos) (zNot t) := PT.str (pt_not h) fun σ H Q h => by
  obtain ⟨τ, L, Q', a, b, c, k⟩ := h
  exact ⟨τ, L, _, a, b, c, fun d L1 H1 q kp rh => k _ L1 H1 q kp rh⟩
theorem tw_and {a b : Expr} {rest : List Expr} {pos} {t u : TT'} (h : QT X a t) (k : QW X (.BoolOp .And (b :: rest) pos) u) : QW X (.BoolOp .And (a :: b :: rest) pos) (wAnd t u) := PW.str (pw_and h k) fun σ H Q h => by
  obtain ⟨τ, L, Q', a, b, c, k⟩ := h
  refine ⟨τ, L, _, a, b, c, fun d L1 H1 q kp rh => ?_⟩
  cases d with
  | true => exact ⟨τ, L1, _, a.mono kp, rh, q, fun e L2 H2 q2 kp2 rh2 => k e L2 H2 q2 (kp.trans kp2) rh2⟩
  | false => exact k _ L1 H1 q kp rh
theorem tw_and1 {a : Expr} {pos} {t : TT'} (h : QT X a t) : QW X (.BoolOp .And [a] pos) t := pw_and1 h
theorem tw_or {a b : Expr} {rest : List Expr} {pos} {t u : TT'} (h : QT X a t) (k : QW X (.BoolOp .Or (b :: rest) pos) u) : QW X (.BoolOp .Or (a :: b :: rest) pos) (wOr t u) := PW.str (pw_or h k) fun σ H Q h => by
  obtain ⟨τ, L, Q', a, b, c, k⟩ := h
  refine ⟨τ, L, _, a, b, c, fun d L1 H1 q kp rh => ?_⟩
  cases d with
  | true => exact k _ L1 H1 q kp rh
  | false => exact ⟨τ, L1, _, a.mono kp, rh, q, fun e L2 H2 q2 kp2 rh2 => k e L2 H2 q2 (kp.trans kp2) rh2⟩
theorem tw_or1 {a : Expr} {pos} {t : TT'} (h : QT X a t) : QW X (.BoolOp .Or [a] pos) t := pw_or1 h
theorem tw {e : Expr} {t : TT'} (h : QW X e t) : QT X e t := PW.pt h
theorem q_and {a b : Expr} {rest : List Expr} {pos} {t u : TE'} (h : QE X a t) (k : QE X (.BoolOp .And (b :: rest) pos) u) : QE X (.BoolOp .And (a :: b :: rest) pos) (wAndV t u) := PE.str (pe_and h k) fun σ H Q h => by
  obtain ⟨τ, L, Q', a, b, c, k⟩ := h
  refine ⟨τ, L, _, a, b, c, fun d L1 v H1 q kp rh rd => ?_⟩
  cases d with
  | bl c =>
    cases rd
    refine ⟨c, rfl, ?_⟩
    cases c with
    | true => exact ⟨τ, L1, _, a.mono kp, rh, q, fun e L2 u H2 q2 kp2 rh2 rd2 => k e L2 u H2 q2 (kp.trans kp2) rh2 rd2⟩
    | false => exact k _ L1 _ H1 q kp rh (.bl false)
  | _ => exact q.elim
theorem q_or {a b : Expr} {rest : List Expr} {pos} {t u : TE'} (h : QE X a t) (k : QE X (.BoolOp .Or (b :: rest) pos) u) : QE X (.BoolOp .Or (a :: b :: rest) pos) (wOrV t u) := PE.str (pe_or h k) fun σ H Q h => by
  obtain ⟨τ, L, Q', a, b, c, k⟩ := h
  refine ⟨τ, L, _, a, b, c, fun d L1 v H1 q kp rh rd => ?_⟩
  cases d with
  | bl c =>
    cases rd
    refine ⟨c, rfl, ?_⟩
    cases c with
    | true => exact k _ L1 _ H1 q kp rh (.bl true)
    | false => exact ⟨τ, L1, _, a.mono kp, rh, q, fun e L2 u H2 q2 kp2 rh2 rd2 => k e L2 u H2 q2 (kp.trans kp2) rh2 rd2⟩
  | _ => exact q.elim
theorem q_one {op} {a : Expr} {pos} {t : TE'} (h : QE X a t) : QE X (.BoolOp op [a] pos) t := pe_one h
theorem q_not {a : Expr} {pos} {t : TE'} (h : QE X a t) : QE X (.UnaryOp .Not a pos) (wNotV t) := PE.str (pe_not h) fun σ H Q h => by
  obtain ⟨τ, L, Q', a, b, c, k⟩ := h
  refine ⟨τ, L, _, a, b, c, fun d L1 v H1 q kp rh rd => ?_⟩
  cases d with
  | bl c => cases rd; exact ⟨c, rfl, k _ L1 _ H1 q kp rh (.bl _)⟩
  | _ => exact q.elim
theorem q_if {c a b : Expr} {pos} {t : TT'} {ta tb : TE'} (hc : QT X c t) (ha : QE X a ta) (hb : QE X b tb) : QE X (.IfExp c a b pos) (wIf t ta tb) := PE.str (pe_ifExp hc ha hb) fun σ H Q h => by
  obtain ⟨τ, L, Q', a, b, c, k⟩ := h
  refine ⟨τ, L, _, a, b, c, fun d L1 H1 q kp rh => ?_⟩
  cases d with
  | true => exact ⟨τ, L1, _, a.mono kp, rh, q, fun e L2 u H2 q2 kp2 rh2 rd2 => k e L2 u H2 q2 (kp.trans kp2) rh2 rd2⟩
  | false => exact ⟨τ, L1, _, a.mono kp, rh, q, fun e L2 u H2 q2 kp2 rh2 rd2 => k e L2 u H2 q2 (kp.trans kp2) rh2 rd2⟩
theorem q_un {op : UnaryOp} {r : V → Hp → VK → Prop} {r' : R1'} {a : Expr} {pos} {ta : TE'} (ho : UnR X (unaryOp op) r) (hr : LR1 X.K r' r) (ha : QE X a ta) : QE X (.UnaryOp op a pos) (wUn r' ta) := PE.str (pe_un ho ha) fun σ H Q h => by
  obtain ⟨τ, L, Q', a, b, c, k⟩ := h
  refine ⟨τ, L, _, a, b, c, fun d L1 v H1 q kp rh rd => ?_⟩
  exact hr d L1 v H1 Q Q' rd rh q fun d1 L1' v1 H1' q3 kp3 => k d1 L1' v1 H1' q3 (kp.trans kp3)
/-! ### targets -/
theorem g_name {i : Nat} {x : Str} {pos} (hN : X.N.Nodup) (hi : X.N[i]? = some x) (hx : Loc X.env.scope x) (hf : X.fn x = true ∨ X.env.scope.names.lookup x = some .local := by first | exact .inl rfl | exact .inr rfl | assumption) : QG X (.Name x pos) (hName i) :=
  PG.str (pg_name hN hi hx hf) fun v σ H Q h => by
    obtain ⟨d, τ, L, Q', rd, a, b, c, k⟩ := h
    exact k _ L _ H c (Kp.refl H) b (a.set rd i)
theorem g_nil : QGs X [] hNil := PGs.str pgs_nil fun v σ H Q h => by
  obtain ⟨ds, τ, L, Q', rd, a, b, c, k⟩ := h
  cases ds with
  | nil => cases rd; exact ⟨rfl, k τ L σ H c (Kp.refl H) b a⟩
  | cons d es => exact c.elim
theorem g_cons {e : Expr} {es : List Expr} {t : TG'} {u : TGs'} (h1 : QG X e t) (h2 : QGs X es u) (hs : (assignEach (e :: es) X.env).map (·.2) = assign e X.env :: (assignEach es X.env).map (·.2) := by rfl) : QGs X (e :: es) (hCons t u) := PGs.str (pgs_cons h1 h2 hs) fun v σ H Q h => by
  obtain ⟨ds, τ, L, Q', rd, a, b, c, k⟩ := h
  cases ds with
  | nil => exact c.elim
  | cons d es =>
    cases rd with
    | cons r1 r2 =>
      refine ⟨_, _, rfl, d, τ, L, _, r1, a, b, c, fun τ1 L1 σ1 H1 q kp rh rs => ?_⟩
      exact ⟨es, τ1, L1, _, r2.mono kp, rs, rh, q, fun τ2 L2 σ2 H2 q2 kp2 rh2 rs2 => k τ2 L2 σ2 H2 q2 (kp.trans kp2) rh2 rs2⟩
theorem g_tup {es : List Expr} {k : Nat} {pos} {t : TGs'} {n : Nat} (hc : X.calm = true) (h : QGs X es t) (hn : (assignEach es X.env).length = n := by rfl) (hst : (assignEach es X.env).findIdx? (·.1) = none := by rfl) : QG X (.Tuple es k pos) (hTup n t) :=
  PG.str (pg_tup hc h hn hst) fun v σ H Q h => by
    obtain ⟨d, τ, L, Q', rd, a, b, c, k⟩ := h
    cases d with
    | tup ds =>
      cases rd with
      | tup hs rs => exact ⟨_, _, rfl, .inl (.inl hs), by rw [← rs.length]; exact c.1, ds, τ, L, Q', rs, a, b, c.2, k⟩
    | _ => exact c.elim
/-! ### statements -/
theorem qs_cons {st : Stmt} {rest : List Stmt} {t u : TS'} (h : QS X st t) (k : QSs X rest u) : QSs X (st :: rest) (wSeq t u) := PSs.str (pss_cons h k) fun D σ H h => by
  obtain ⟨τ, L, D', a, b, c, k1, k2, k3, k4⟩ := h
  exact ⟨τ, L, _, a, b, c, fun τ1 L1 σ1 H1 q kp rh rs => ⟨τ1, L1, D', rs, rh, q, fun τ2 L2 σ2 H2 q2 kp2 => k1 τ2 L2 σ2 H2 q2 (kp.trans kp2), fun d L2 v H2 q2 kp2 => k2 d L2 v H2 q2 (kp.trans kp2), fun τ2 L2 σ2 H2 q2 kp2 => k3 τ2 L2 σ2 H2 q2 (kp.trans kp2), fun τ2 L2 σ2 H2 q2 kp2 => k4 τ2 L2 σ2 H2 q2 (kp.trans kp2)⟩, k2, k3, k4⟩
theorem qs_one {st : Stmt} {t : TS'} (h : QS X st t) : QSs X [st] t := pss_one h
theorem qs_nil : QSs X [] wNext := PSs.str pss_nil fun D σ H h => by
  obtain ⟨τ, L, D', a, b, c, k1, k2, k3, k4⟩ := h
  exact k1 τ L σ H c (Kp.refl H) b a
theorem qs_pass {pos} : QS X (.Pass pos) wNext := PS.str ps_pass fun D σ H h => by
  obtain ⟨τ, L, D', a, b, c, k1, k2, k3, k4⟩ := h
  exact k1 τ L σ H c (Kp.refl H) b a
theorem qs_break {pos} : QS X (.Break pos) wBreak := PS.str ps_break fun D σ H h => by
  obtain ⟨τ, L, D', a, b, c, k1, k2, k3, k4⟩ := h
  exact k3 τ L σ H c (Kp.refl H) b a
theorem qs_cont {pos} : QS X (.Continue pos) wCont := PS.str ps_continue fun D σ H h => by
  obtain ⟨τ, L, D', a, b, c, k1, k2, k3, k4⟩ := h
  exact k4 τ L σ H c (Kp.refl H) b a
theorem qs_ret {e : Expr} {pos} {t : TE'} (h : QE X e t) : QS X (.Return (some e) pos) (wRet t) := PS.str (ps_ret h) fun D σ H h => by
  obtain ⟨τ, L, D', a, b, c, k1, k2, k3, k4⟩ := h
  exact ⟨τ, L, _, a, b, c, k2⟩
theorem qs_retN {pos} : QS X (.Return none pos) wRetN := PS.str ps_retN fun D σ H h => by
  obtain ⟨τ, L, D', a, b, c, k1, k2, k3, k4⟩ := h
  exact k2 _ L _ H c (Kp.refl H) b .non
theorem qs_expr {e : Expr} {pos : Pos} {t : TE'} (h : QE X e t) (hs : swapsWith e none pos.line X.env = pure false := by rfl) : QS X (.Expr e pos) (wDrop t) := PS.str (ps_expr h hs) fun D σ H h => by
  obtain ⟨τ, L, D', a, b, c, k1, k2, k3, k4⟩ := h
  exact ⟨τ, L, _, a, b, c, fun d L1 v H1 q kp rh _ => k1 τ L1 σ H1 q kp rh (a.mono kp)⟩
theorem qs_if {c : Expr} {as bs : List Stmt} {pos} {tc : TT'} {t u : TS'} (hc : QT X c tc) (ha : QSs X as t) (hb : QSs X bs u) : QS X (.If c as bs pos) (wIfS tc t u) := PS.str (ps_if hc ha hb) fun D σ H h => by
  obtain ⟨τ, L, D', a, b, c, k1, k2, k3, k4⟩ := h
  refine ⟨τ, L, _, a, b, c, fun d L1 H1 q kp rh => ?_⟩
  have fin : ∀ w : TS', w D' τ L1 → lS X.K w D σ H1 := fun w q => ⟨τ, L1, D', a.mono kp, rh, q, fun τ2 L2 σ2 H2 q2 kp2 => k1 τ2 L2 σ2 H2 q2 (kp.trans kp2), fun d L2 v H2 q2 kp2 => k2 d L2 v H2 q2 (kp.trans kp2), fun τ2 L2 σ2 H2 q2 kp2 => k3 τ2 L2 σ2 H2 q2 (kp.trans kp2), fun τ2 L2 σ2 H2 q2 kp2 => k4 τ2 L2 σ2 H2 q2 (kp.trans kp2)⟩
  cases d with
  | true => exact fin t q
  | false => exact fin u q
theorem qs_never {st : Stmt} : QS X st wNever := PS.str ps_never fun D σ H h => by
  obtain ⟨τ, L, D', a, b, c, _⟩ := h
  exact c.elim
theorem asg_l {K : PySem.W.Frag} {t : TE'} {g : TG'} (D : Ends) (σ : L2.St) (H : Hp) (h : lS K (wAsg t g) D σ H) : tAsg (lE K t) (lG K g) D σ H := by
  obtain ⟨τ, L, D', a, b, c, k1, k2, k3, k4⟩ := h
  refine ⟨τ, L, _, a, b, c, fun d L1 v H1 q kp rh rd => ?_⟩
  exact ⟨d, τ, L1, _, rd, a.mono kp, rh, q, fun τ2 L2 σ2 H2 q2 kp2 => k1 τ2 L2 σ2 H2 q2 (kp.trans kp2)⟩
theorem qs_asg {tg e : Expr} {pos : Pos} {t : TE'} {g : TG'} (he : QE X e t) (hg : QG X tg g) (hs : swapsWithSole [tg] e pos.line X.env = pure false := by rfl) (hw : swappedStores [tg] e X.env = pure none := by rfl)
    (h1 : (assignEach [tg] X.env).map (·.2) = [assign tg X.env] := by rfl) : QS X (.Assign [tg] e pos) (wAsg t g) := PS.str (ps_asg he hg hs hw h1) asg_l
theorem qs_set {i : Nat} {x : Str} {e : Expr} {pos pos' : Pos} {t : TE'} (hN : X.N.Nodup) (hi : X.N[i]? = some x) (hx : Loc X.env.scope x) (he : QE X e t) (hs : swapsWith e (some (.Name x pos')) pos.line X.env = pure false := by rfl) (hf : X.fn x = true ∨ X.env.scope.names.lookup x = some .local := by first | exact .inl rfl | exact .inr rfl | assumption) :
    QS X (.Assign [.Name x pos'] e pos) (wAsg t (hName i)) := PS.str (ps_set hN hi hx he hs hf) fun D σ H h => by
  obtain ⟨τ, L, D', a, b, c, k1, k2, k3, k4⟩ := h
  exact ⟨τ, L, _, a, b, c, fun d L1 v H1 q kp rh rd => k1 _ L1 _ H1 q kp rh ((a.mono kp).set rd i)⟩
theorem qs_par {i j : Nat} {x y : Str} {a b : Expr} {ta : TA'} {px py pt pos : Pos} {kt k2 pt2} (hc : X.calm = true) (hN : X.N.Nodup) (hi : X.N[i]? = some x) (hj : X.N[j]? = some y) (hij : i ≠ j)
    (hx : X.env.scope.names.lookup x = some .local) (hy : X.env.scope.names.lookup y = some .local) (ha : QA X [a, b] ta)
    (hw : swappedStores [.Tuple [.Name x px, .Name y py] kt pt] (.Tuple [a, b] k2 pt2) X.env = pure (some [x, y]))
    (hs : swapsWithSole [.Tuple [.Name x px, .Name y py] kt pt] (.Tuple [a, b] k2 pt2) pos.line X.env = pure false := by rfl) :
    QS X (.Assign [.Tuple [.Name x px, .Name y py] kt pt] (.Tuple [a, b] k2 pt2) pos) (wPar i j ta) := PS.str (ps_par hc hN hi hj hij hx hy ha hw hs) fun D σ H h => by
  obtain ⟨τ, L, D', a, b, c, k1, k2, k3, k4⟩ := h
  refine ⟨τ, L, _, a, b, c, fun ds L1 vs H1 q hl kp rh rd => ?_⟩
  match ds, hl, rd with
  | [v, w], _, .cons r1 (.cons r2 .nil) => exact ⟨_, _, rfl, k1 _ L1 _ H1 q kp rh (((a.mono kp).set r1 i).set r2 j)⟩
end
end Z

/-! operators, built-ins, methods by data -/
namespace Z
open PySem PySem.Spec PyProof.Rows L2
/-! ### operators -/
def rOr (r s : R2) : R2 := fun x y H Q => r x y H Q ∨ s x y H Q
theorem OpR.or {X : Cx} {f : Value → Value → Sem Value} {r s : R2} (h : OpR X f r) (k : OpR X f s) : OpR X f (rOr r s) := fun pins t σ H x y v u Q I rx ry q => q.elim (h pins t σ H x y v u Q I rx ry) (k pins t σ H x y v u Q I rx ry)
section
variable {X : Cx}
abbrev rAddS : R2 := fun x y H Q => ∃ i j, x = .str i ∧ y = .str j ∧ i.length + j.length ≤ sizeLine ∧ Q (.str (i ++ j)) H
def rAddG (K : PySem.W.Frag) : R2 := rOr (rI0 fun i j => .int (i + j)) (rOr rAddS (rOr (rCatA K) rCat))
theorem o_add : OpR X (binaryOp .Add) (rAddG X.K) := OpR.or op_add (OpR.or op_add_str (OpR.or op_catA op_cat))
def addD : R2' := fun d e L Q => match d, e with
  | .int i, .int j => Q (.int (i + j)) L
  | .str a, .str b => a.length + b.length ≤ sizeLine ∧ Q (.str (a ++ b)) L
  | .tup as, .tup bs => as.length + bs.length ≤ sizeLine ∧ Q (.tup (as ++ bs)) L
  | .ref a, .ref b => ∃ xs ys, L a = some (.lst xs) ∧ L b = some (.lst ys) ∧ xs.length + ys.length ≤ sizeLine ∧ ∀ p, L p = none → Q (.ref p) (up L p (.lst (xs ++ ys)))
  | _, _ => False
theorem l_add {K : PySem.W.Frag} : LR2 K addD (rAddG K) := fun d e L v u H Q Q' rd re rh q k => by
  unfold addD at q
  cases d <;> cases e <;> try exact q.elim
  case int.int i j => cases rd; cases re; exact .inl ⟨i, j, rfl, rfl, k _ L _ H q (Kp.refl H) rh (.int _)⟩
  case str.str a b => cases rd; cases re; exact .inr (.inl ⟨a, b, rfl, rfl, q.1, k _ L _ H q.2 (Kp.refl H) rh (.str _)⟩)
  case tup.tup as bs =>
    cases rd with
    | tup h1 r1 =>
      cases re with
      | tup h2 r2 =>
        refine .inr (.inr (.inl ⟨_, _, _, _, rfl, rfl, .inl (.inl h1), .inl (.inl h2), by rw [← r1.length, ← r2.length]; exact q.1, fun e => ?_, fun _ e => ?_, fun _ _ p np => ?_⟩))
        · subst e
          cases r1
          exact k _ L _ H q.2 (Kp.refl H) rh (.tup h2 r2)
        · subst e
          cases r2
          have q2 := q.2
          rw [List.append_nil] at q2
          exact k _ L _ H q2 (Kp.refl H) rh (.tup h1 r1)
        · exact k _ L _ _ q.2 (Kp.new np) (rh.hid np) (.tup upd_same ((r1.app r2).mono (Kp.new np)))
  case ref.ref a b =>
    cases rd; cases re
    obtain ⟨xs, ys, e1, e2, z, q⟩ := q
    obtain ⟨vs, h1, r1⟩ := rh _ _ e1
    obtain ⟨us, h2, r2⟩ := rh _ _ e2
    refine .inr (.inr (.inr ⟨_, _, _, _, rfl, rfl, h1, h2, by rw [← r1.length, ← r2.length]; exact z, fun p np => ?_⟩))
    exact k _ _ _ _ (q p (rh.no np)) (Kp.new np) (rh.new np ⟨_, upd_same, (r1.app r2).mono (Kp.new np)⟩) (.ref p)
/-- two ints -/
def intD (C : Int → Int → Prop) (g : Int → Int → D) : R2' := fun d e L Q => match d, e with
  | .int i, .int j => C i j ∧ Q (g i j) L
  | _, _ => False
def intD0 (g : Int → Int → D) : R2' := fun d e L Q => match d, e with
  | .int i, .int j => Q (g i j) L
  | _, _ => False
theorem l_int {K : PySem.W.Frag} {C : Int → Int → Prop} {g : Int → Int → D} {f : Int → Int → V} (h : ∀ H i j, C i j → RelD K H (g i j) (f i j)) : LR2 K (intD C g) (rI C f) := fun d e L v u H Q Q' rd re rh q k => by
  unfold intD at q
  cases d <;> cases e <;> try exact q.elim
  case int.int i j => cases rd; cases re; exact ⟨i, j, rfl, rfl, q.1, k _ L _ H q.2 (Kp.refl H) rh (h H i j q.1)⟩
theorem l_int0 {K : PySem.W.Frag} {g : Int → Int → D} {f : Int → Int → V} (h : ∀ H i j, RelD K H (g i j) (f i j)) : LR2 K (intD0 g) (rI0 f) := fun d e L v u H Q Q' rd re rh q k => by
  unfold intD0 at q
  cases d <;> cases e <;> try exact q.elim
  case int.int i j => cases rd; cases re; exact ⟨i, j, rfl, rfl, k _ L _ H q (Kp.refl H) rh (h H i j)⟩
abbrev subD : R2' := intD0 fun i j => .int (i - j)
theorem l_sub {K : PySem.W.Frag} : LR2 K subD (rI0 fun i j => .int (i - j)) := l_int0 fun _ _ _ => .int _
abbrev fdivD : R2' := intD CDivW fun i j => .int (i / j)
theorem l_fdiv {K : PySem.W.Frag} : LR2 K fdivD (rI CDivW fun i j => .int (i / j)) := l_int fun _ _ _ _ => .int _
abbrev modD : R2' := intD (fun _ j => 0 < j) fun i j => .int (i % j)
theorem l_mod {K : PySem.W.Frag} : LR2 K modD (rI (fun _ j => j ≠ 0) fun i j => .int (i.fmod j)) := fun d e L v u H Q Q' rd re rh q k => by
  unfold modD intD at q
  cases d <;> cases e <;> try exact q.elim
  case int.int i j =>
    cases rd; cases re
    have h0 : 0 < j := q.1
    refine ⟨i, j, rfl, rfl, by omega, k _ L _ H q.2 (Kp.refl H) rh ?_⟩
    show RelD K H (.int (i % j)) (.int (i.fmod j))
    rw [Int.fmod_eq_emod_of_nonneg i (by omega)]
    exact .int _
/-- a power of a base of some bits -/
def CPowW (i j : Int) : Prop := 0 ≤ j ∧ (Builtin.Int.intBits i : Int) * j ≤ 2 ^ 27
theorem o_pow : OpR X (binaryOp .Pow) (rI CPowW fun i j => .int (i ^ j.toNat)) := opI fun _ _ _ _ _ _ _ hc q => pow_int hc.1 hc.2 q
theorem CPowW.of {i j : Int} (h : i.natAbs < 2 ^ 300) (h0 : 0 ≤ j) (h1 : j ≤ 1000) : CPowW i j := by
  have b : Builtin.Int.intBits i ≤ i.natAbs.log2 + 1 := by
    unfold Builtin.Int.intBits
    split <;> omega
  have c := PySem.Flt.log2_lt_of (by decide) h
  refine ⟨h0, ?_⟩
  have h3 : (Builtin.Int.intBits i : Int) * j ≤ 301 * j := Int.mul_le_mul_of_nonneg_right (by omega) h0
  omega
abbrev powD : R2' := intD CPowW fun i j => .int (i ^ j.toNat)
theorem l_pow {K : PySem.W.Frag} : LR2 K powD (rI CPowW fun i j => .int (i ^ j.toNat)) := l_int fun _ _ _ _ => .int _
/-- * -/
def rMulG : R2 := rOr (rI CMulW fun i j => .int (i * j)) rRep
theorem o_mul : OpR X (binaryOp .Mult) rMulG := OpR.or op_mulW op_rep
def mulD : R2' := fun d e L Q => match d, e with
  | .int i, .int j => CMulW i j ∧ Q (.int (i * j)) L
  | .ref a, .int k => ∃ xs, L a = some (.lst xs) ∧ -(2 ^ 63) ≤ k ∧ k < 2 ^ 63 ∧ xs.length * k.toNat ≤ sizeLine ∧ ∀ p, L p = none → Q (.ref p) (up L p (.lst (List.replicate k.toNat xs).flatten))
  | _, _ => False
theorem RelDs.rep {K : PySem.W.Frag} {H : Hp} {ds : List D} {vs : List V} (r : RelDs K H ds vs) : ∀ n, RelDs K H (List.replicate n ds).flatten (List.replicate n vs).flatten
  | 0 => .nil
  | n + 1 => by
    rw [List.replicate_succ, List.replicate_succ, List.flatten_cons, List.flatten_cons]
    exact r.app (RelDs.rep r n)
/-- comparisons -/
abbrev ltD : R2' := intD0 fun i j => .bl (decide (i < j))
abbrev leD : R2' := intD0 fun i j => .bl (decide (i ≤ j))
abbrev gtD : R2' := intD0 fun i j => .bl (decide (i > j))
abbrev geD : R2' := intD0 fun i j => .bl (decide (i ≥ j))
def isnD (neg : Bool) : R2' := fun d e L Q => match e with
  | .non => (match d with
    | .non => Q (.bl (!neg)) L
    | _ => Q (.bl neg) L)
  | _ => False
theorem l_isN {K : PySem.W.Frag} : LR2 K (isnD false) (fun x y H Q => y = .non ∧ Q (.bl (decide (x = .non))) H) := fun d e L v u H Q Q' rd re rh q k => by
  unfold isnD at q
  cases e <;> try exact q.elim
  cases re
  refine ⟨rfl, ?_⟩
  cases d <;> cases rd <;> exact k _ L _ H q (Kp.refl H) rh (by simp; exact .bl _)
theorem l_notN {K : PySem.W.Frag} : LR2 K (isnD true) (fun x y H Q => y = .non ∧ Q (.bl (!decide (x = .non))) H) := fun d e L v u H Q Q' rd re rh q k => by
  unfold isnD at q
  cases e <;> try exact q.elim
  cases re
  refine ⟨rfl, ?_⟩
  cases d <;> cases rd <;> exact k _ L _ H q (Kp.refl H) rh (by simp; exact .bl _)
/-! ### == by depth -/
section
variable (L : Lp)
mutual
inductive PyR : D → PyData → Prop where
  | non : PyR .non .none
  | bl (b : Bool) : PyR (.bl b) (.bool b)
  | int (i : Int) : PyR (.int i) (.int i)
  | str (x : Str) : PyR (.str x) (.str x)
  | tup {ds : List D} {ps : List PyData} : PyRs ds ps → PyR (.tup ds) (.tuple ps)
  | ilst {ds : List D} {ps : List PyData} : PyRs ds ps → PyR (.ilst ds) (.list ps)
  | ref {a : Addr} {ds : List D} {ps : List PyData} : L a = some (.lst ds) → PyRs ds ps → PyR (.ref a) (.list ps)
inductive PyRs : List D → List PyData → Prop where
  | nil : PyRs [] []
  | cons {d : D} {p : PyData} {ds : List D} {ps : List PyData} : PyR d p → PyRs ds ps → PyRs (d :: ds) (p :: ps)
end
end
mutual
theorem PyR.dp {K : PySem.W.Frag} {H : Hp} {L : Lp} (rh : RepH K H L) : ∀ {d : D} {p : PyData} {v : V}, PyR L d p → RelD K H d v → Dp K H v p
  | _, _, _, .non, .non => .non
  | _, _, _, .bl b, .bl _ => .bl b
  | _, _, _, .int i, .int _ => .int i
  | _, _, _, .str x, .str _ => .str x
  | _, _, _, .tup h, .tup s r => .tup (.inl (.inl s)) (PyRs.dp rh h r)
  | _, _, _, .ilst h, .ilst s r => .lst s.sql (PyRs.dp rh h r)
  | _, _, _, .ref e h, .ref _ => by
    obtain ⟨vs, e2, r⟩ := rh _ _ e
    exact .lst (.inl (.inl e2)) (PyRs.dp rh h r)
theorem PyRs.dp {K : PySem.W.Frag} {H : Hp} {L : Lp} (rh : RepH K H L) : ∀ {ds : List D} {ps : List PyData} {vs : List V}, PyRs L ds ps → RelDs K H ds vs → DpAll K H vs ps
  | _, _, _, .nil, .nil => .nil
  | _, _, _, .cons h k, .cons r s => .cons (PyR.dp rh h r) (PyRs.dp rh k s)
end
def eqDeep (neg : Bool) (d e : D) (L : Lp) (Q : VK') : Prop := ∃ pd pe, PyR L d pd ∧ PyR L e pe ∧ SeqAt.shaped pd = true ∧ SeqAt.shaped pe = true ∧ Q (.bl (if neg then !PyData.eqv pd pe else PyData.eqv pd pe)) L
def eqD (neg : Bool) : R2' := fun d e L Q => match d, e with
  | .int i, .int j => Q (.bl (if neg then !decide (i = j) else decide (i = j))) L
  | .bl i, .bl j => Q (.bl (if neg then !decide (i = j) else decide (i = j))) L
  | .str i, .str j => Q (.bl (if neg then !decide (i = j) else decide (i = j))) L
  | .non, .non => Q (.bl (!neg)) L
  | d, e => eqDeep neg d e L Q
theorem l_eq {K : PySem.W.Frag} : LR2 K (eqD false) (rOr rEq (rEqD K)) := fun d e L v u H Q Q' rd re rh q k => by
  have deep : eqDeep false d e L Q' → rEqD K v u H Q := fun ⟨pd, pe, h1, h2, s1, s2, q⟩ => ⟨pd, pe, h1.dp rh rd, h2.dp rh re, s1, s2, k _ L _ H q (Kp.refl H) rh (.bl _)⟩
  unfold eqD at q
  split at q
  · cases rd; cases re
    refine .inl ⟨rfl, k _ L _ H q (Kp.refl H) rh ?_⟩
    simp
    exact .bl _
  · cases rd; cases re
    refine .inl ⟨rfl, k _ L _ H q (Kp.refl H) rh ?_⟩
    simp
    exact .bl _
  · cases rd; cases re
    refine .inl ⟨rfl, k _ L _ H q (Kp.refl H) rh ?_⟩
    simp
    exact .bl _
  · cases rd; cases re
    refine .inl ⟨rfl, k _ L _ H q (Kp.refl H) rh ?_⟩
    simp
    exact .bl _
  · exact .inr (deep q)
theorem l_ne {K : PySem.W.Frag} : LR2 K (eqD true) (rOr rNe (rNeD K)) := fun d e L v u H Q Q' rd re rh q k => by
  have deep : eqDeep true d e L Q' → rNeD K v u H Q := fun ⟨pd, pe, h1, h2, s1, s2, q⟩ => ⟨pd, pe, h1.dp rh rd, h2.dp rh re, s1, s2, k _ L _ H q (Kp.refl H) rh (.bl _)⟩
  unfold eqD at q
  split at q
  · cases rd; cases re
    refine .inl ⟨rfl, k _ L _ H q (Kp.refl H) rh ?_⟩
    simp
    exact .bl _
  · cases rd; cases re
    refine .inl ⟨rfl, k _ L _ H q (Kp.refl H) rh ?_⟩
    simp
    exact .bl _
  · cases rd; cases re
    refine .inl ⟨rfl, k _ L _ H q (Kp.refl H) rh ?_⟩
    simp
    exact .bl _
  · cases rd; cases re
    refine .inl ⟨rfl, k _ L _ H q (Kp.refl H) rh ?_⟩
    simp
    exact .bl _
  · exact .inr (deep q)
theorem o_eq (hu : X.A.units + 64 < cLine) : OpR X (compareOp .Eq) (rOr rEq (rEqD X.K)) := OpR.or op_eq (op_eqD hu)
theorem o_ne (hu : X.A.units + 64 < cLine) : OpR X (compareOp .NotEq) (rOr rNe (rNeD X.K)) := OpR.or op_ne (op_neD hu)
def negD : R1' := fun d L Q => match d with
  | .int i => Q (.int (-i)) L
  | _ => False
theorem l_neg {K : PySem.W.Frag} : LR1 K negD (rU fun i => .int (-i)) := fun d L v H Q Q' rd rh q k => by
  cases d <;> try exact q.elim
  case int i => cases rd; exact ⟨i, rfl, k _ L _ H q (Kp.refl H) rh (.int _)⟩
/-- one sign in a text -/
def inSign (neg : Bool) : R2' := fun d e L Q => match d, e with
  | .str x, .str z => ∃ c, x = ⟨#[c]⟩ ∧ Q (.bl (if neg then !decide (c ∈ z.cps.toList) else decide (c ∈ z.cps.toList))) L
  | _, _ => False
theorem l_inSign {K : PySem.W.Frag} : LR2 K (inSign false) (fun x y H Q => ∃ (c : Nat) (z : Str), x = .str ⟨#[c]⟩ ∧ y = .str z ∧ Q (.bl (decide (c ∈ z.cps.toList))) H) := fun d e L v u H Q Q' rd re rh q k => by
  unfold inSign at q
  cases d <;> cases e <;> try exact q.elim
  case str.str x z => cases rd; cases re; obtain ⟨c, rfl, q⟩ := q; exact ⟨c, z, rfl, rfl, k _ L _ H q (Kp.refl H) rh (.bl _)⟩
theorem l_notInSign {K : PySem.W.Frag} : LR2 K (inSign true) (fun x y H Q => ∃ (c : Nat) (z : Str), x = .str ⟨#[c]⟩ ∧ y = .str z ∧ Q (.bl (!decide (c ∈ z.cps.toList))) H) := fun d e L v u H Q Q' rd re rh q k => by
  unfold inSign at q
  cases d <;> cases e <;> try exact q.elim
  case str.str x z => cases rd; cases re; obtain ⟨c, rfl, q⟩ := q; exact ⟨c, z, rfl, rfl, k _ L _ H q (Kp.refl H) rh (.bl _)⟩
/-! ### subscripts -/
/-- the items of a sequence -/
def seqD (d : D) (L : Lp) : Option (List D) := match d with
  | .tup ds => some ds
  | .ilst ds => some ds
  | .ref a => (match L a with
    | some (.lst ds) => some ds
    | _ => none)
  | _ => none
def atK (o : Option (List D)) (i : Int) (Q : D → Prop) : Prop := match o with
  | some ds => (match atI ds i with
    | some x => Q x
    | none => False)
  | none => False
def ixD : R2' := fun d e L Q => match e with
  | .int i => atK (seqD d L) i fun x => Q x L
  | _ => False
theorem ixN_len {n : Nat} {i : Int} {j : Nat} (h : ixN n i = some j) : True := trivial
theorem RelDs.atI {K : PySem.W.Frag} {H : Hp} {ds : List D} {vs : List V} {i : Int} {x : D} (r : RelDs K H ds vs) (h : L2.atI ds i = some x) : ∃ v, L2.atI vs i = some v ∧ RelD K H x v := by
  unfold L2.atI at h ⊢
  rw [r.length] at h
  cases e : ixN vs.length i with
  | none => rw [e] at h; cases h
  | some j => rw [e] at h; exact r.get h
theorem seqD_rel {K : PySem.W.Frag} {H : Hp} {L : Lp} {d : D} {v : V} {ds : List D} (rh : RepH K H L) (rd : RelD K H d v) (e : seqD d L = some ds) : ∃ a vs, v = .ref a ∧ RelDs K H ds vs ∧ (SqL K H a vs ∨ SqT K H a vs) := by
  unfold seqD at e
  split at e
  · cases e
    cases rd with
    | tup s r => exact ⟨_, _, rfl, r, .inr (.inl (.inl s))⟩
  · cases e
    cases rd with
    | ilst s r => exact ⟨_, _, rfl, r, .inl s.sql⟩
  · cases rd
    split at e
    · cases e
      rename_i q
      obtain ⟨vs, e2, r⟩ := rh _ _ q
      exact ⟨_, vs, rfl, r, .inl (.inl (.inl e2))⟩
    · cases e
  · cases e
theorem seqD_relT {K : PySem.W.Frag} {H : Hp} {L : Lp} {d : D} {v : V} {ds : List D} (rh : RepH K H L) (rd : RelD K H d v) (e : seqD d L = some ds) : ∃ a vs, v = .ref a ∧ RelDs K H ds vs ∧ (SqL K H a vs ∨ (SqT K H a vs ∧ H a = some (.tup vs))) := by
  unfold seqD at e
  split at e
  · cases e
    cases rd with
    | tup s r => exact ⟨_, _, rfl, r, .inr ⟨.inl (.inl s), s⟩⟩
  · cases e
    cases rd with
    | ilst s r => exact ⟨_, _, rfl, r, .inl s.sql⟩
  · cases rd
    split at e
    · cases e
      rename_i q
      obtain ⟨vs, e2, r⟩ := rh _ _ q
      exact ⟨_, vs, rfl, r, .inl (.inl (.inl e2))⟩
    · cases e
  · cases e
theorem l_ix {K : PySem.W.Frag} : LR2 K ixD (rIx K) := fun d e L v u H Q Q' rd re rh q k => by
  unfold ixD at q
  cases e <;> try exact q.elim
  all_goals unfold atK at q
  case int i =>
    cases re
    cases es : seqD d L with
    | none => rw [es] at q; exact q.elim
    | some ds =>
      rw [es] at q
      obtain ⟨a, vs, rfl, r, sq⟩ := seqD_rel rh rd es
      cases ea : atI ds i with
      | none => simp only [ea] at q
      | some x =>
        simp only [ea] at q
        obtain ⟨y, e2, r2⟩ := r.atI ea
        have fin : Q y H := k x L y H q (Kp.refl H) rh r2
        rcases sq with s | s
        · exact .inl ⟨a, vs, i, y, rfl, rfl, s, e2, fin⟩
        · exact .inr (.inl ⟨a, vs, i, y, rfl, rfl, s, e2, fin⟩)
theorem q_ix {a b : Expr} {pos} {ta tb : TE'} (ha : QE X a ta) (hb : QE X b tb) (hs : PlainIx b := by exact fun _ _ => rfl) : QE X (.Subscript a b pos) (wOp ixD ta tb) := PE.str (pe_ix ix_seq ha hb hs) (tOp_l l_ix)
/-- a written place -/
def ixK (o : Option (List D)) (n : Nat) (Q : D → Prop) : Prop := match o with
  | some ds => (match ds[n]? with
    | some x => Q x
    | none => False)
  | none => False
def wIxk (n : Nat) (t : TE') : TE' := fun τ L Q => t τ L fun d L1 => ixK (seqD d L1) n fun x => Q x L1
theorem q_ixk {a b : Expr} {pos} {ta : TE'} (n : Nat) (ha : QE X a ta) (hb : PE X b (tC (.int n))) (hs : PlainIx b := by exact fun _ _ => rfl) : QE X (.Subscript a b pos) (wIxk n ta) := PE.str (pe_ix ix_seq ha (qcon (.int n) hb fun _ => .int _) hs) fun σ H Q h => by
  refine tOp_l (r' := ixD) (tb := wC (.int n)) l_ix σ H Q ?_
  obtain ⟨τ, L, Q', a, b, c, k⟩ := h
  refine ⟨τ, L, Q', a, b, ?_, k⟩
  have c : ta τ L fun d L1 => match seqD d L1 with
    | some ds => (match ds[n]? with
      | some x => Q' x L1
      | none => False)
    | none => False := c
  show ta τ L fun d L1 => ixD d (.int n) L1 Q'
  have e : (fun d L1 => ixD d (.int n) L1 Q') = fun d L1 => match seqD d L1 with
    | some ds => (match ds[n]? with
      | some x => Q' x L1
      | none => False)
    | none => False := by
    funext d L1
    unfold ixD atK
    cases seqD d L1 with
    | none => rfl
    | some ds =>
      have e2 : atI ds (n : Int) = ds[n]? := by
        unfold atI ixN
        rw [if_pos (by omega)]
        by_cases hn : (n : Int) < ds.length
        · rw [if_pos hn]; rfl
        · rw [if_neg hn]
          simp
          omega
      simp only [e2]
  rw [e]
  exact c
/-! ### slices -/
def cutD (ds : List D) (lo hi : Option Int) : List D := (ds.drop (HT.sIx ds.length 0 lo)).take (HT.sIx ds.length ds.length hi - HT.sIx ds.length 0 lo)
theorem RelDs.cut {K : PySem.W.Frag} {H : Hp} {ds : List D} {vs : List V} (r : RelDs K H ds vs) (lo hi : Option Int) : RelDs K H (cutD ds lo hi) (cutV vs lo hi) := by
  unfold cutD cutV
  rw [r.length]
  exact (r.drop _).take _
abbrev TO' := S' → Lp → (Option Int → Lp → Prop) → Prop
def wNoPart : TO' := fun _ L Q => Q none L
def inK (d : D) (Q : Int → Prop) : Prop := match d with
  | .int i => Q i
  | _ => False
def wPart (t : TE') : TO' := fun τ L Q => t τ L fun d L1 => inK d fun i => Q (some i) L1
def lO (K : PySem.W.Frag) (t : TO') : TO := fun σ H Q => ∃ τ L Q', RepS K H τ σ ∧ RepH K H L ∧ t τ L Q' ∧ ∀ b L1 H1, Q' b L1 → Kp H H1 → RepH K H1 L1 → Q b H1
def QO (X : Cx) (e : Option Expr) (t : TO') : Prop := PO X e (lO X.K t)
theorem PO.str {X : Cx} {e : Option Expr} {t u : TO} (h : PO X e t) (k : ∀ σ H Q, u σ H Q → t σ H Q) : PO X e u := ⟨fun pins s σ H Q I q => h.run pins s σ H Q I (k σ H Q q)⟩
theorem o_none : QO X none wNoPart := PO.str po_none fun σ H Q h => by
  obtain ⟨τ, L, Q', a, b, c, k⟩ := h
  exact k _ L H c (Kp.refl H) b
theorem o_some {e : Expr} {t : TE'} (h : QE X e t) : QO X (some e) (wPart t) := PO.str (po_some h) fun σ H Q h => by
  obtain ⟨τ, L, Q', a, b, c, k⟩ := h
  refine ⟨τ, L, _, a, b, c, fun d L1 v H1 q kp rh rd => ?_⟩
  cases d with
  | int i => cases rd; exact ⟨i, rfl, k _ L1 H1 q kp rh⟩
  | _ => exact q.elim
def slD (d : D) (lo hi : Option Int) (L : Lp) (Q : VK') : Prop := match d with
  | .tup ds => Q (.tup (cutD ds lo hi)) L
  | .ilst ds => ∀ p, L p = none → Q (.ref p) (up L p (.lst (cutD ds lo hi)))
  | .ref a => ∃ ds, L a = some (.lst ds) ∧ ∀ p, L p = none → Q (.ref p) (up L p (.lst (cutD ds lo hi)))
  | .str z => z.length ≤ sizeLine ∧ Q (.str (cutS z lo hi)) L
  | _ => False
def wSl (te : TE') (tl th : TO') : TE' := fun τ L Q => te τ L fun d L1 => tl τ L1 fun l L2 => th τ L2 fun u L3 => slD d l u L3 Q
def rSlG (K : PySem.W.Frag) : V → Option Int → Option Int → Hp → VK → Prop := fun x lo hi H Q => rSlA K x lo hi H Q ∨ rSlL K x lo hi H Q ∨ rSlS x lo hi H Q
theorem sl_G : SlR X (rSlG X.K) := fun pins s σ H x v vl vu lo hi sl Q I rx hs pl pu h => by
  rcases h with h | h | h
  · exact sl_tupA pins s σ H x v vl vu lo hi sl Q I rx hs pl pu h
  · exact sl_list pins s σ H x v vl vu lo hi sl Q I rx hs pl pu h
  · exact sl_str pins s σ H x v vl vu lo hi sl Q I rx hs pl pu h
theorem q_sl {e : Expr} {lo hi : Option Expr} {p2 pos} {te : TE'} {tl th : TO'} (he : QE X e te) (hl : QO X lo tl) (hu : QO X hi th) : QE X (.Subscript e (.Slice lo hi none p2) pos) (wSl te tl th) := PE.str (pe_slice sl_G he hl hu) fun σ H Q h => by
  obtain ⟨τ, L, Q', a, b, c, k⟩ := h
  refine ⟨τ, L, _, a, b, c, fun d L1 v H1 q kp rh rd => ?_⟩
  refine ⟨τ, L1, _, a.mono kp, rh, q, fun l L2 H2 q2 kp2 rh2 => ?_⟩
  refine ⟨τ, L2, _, a.mono (kp.trans kp2), rh2, q2, fun u L3 H3 q3 kp3 rh3 => ?_⟩
  have rd3 := rd.mono (kp2.trans kp3)
  have kp4 := (kp.trans kp2).trans kp3
  unfold slD at q3
  cases d <;> try exact q3.elim
  case tup ds =>
    cases rd3 with
    | tup s r =>
      refine .inl ⟨_, _, rfl, .inl (.inl s), fun e => ?_, fun _ p np => ?_⟩
      · have e1 : cutD ds l u = ds := by
          unfold cutD
          rw [r.length, e.1, e.2, ← r.length]
          simp
        have q3 : Q' (.tup (cutD ds l u)) L3 := q3
        rw [e1] at q3
        exact k _ L3 _ H3 q3 kp4 rh3 (.tup s r)
      · exact k _ L3 _ _ q3 (kp4.trans (Kp.new np)) (rh3.hid np) (.tup upd_same ((r.cut l u).mono (Kp.new np)))
  case ilst ds =>
    cases rd3 with
    | ilst s r => exact .inr (.inl ⟨_, _, rfl, s.sql, fun p np => k _ _ _ _ (q3 p (rh3.no np)) (kp4.trans (Kp.new np)) (rh3.new np ⟨_, upd_same, (r.cut l u).mono (Kp.new np)⟩) (.ref p)⟩)
  case ref p =>
    cases rd3
    obtain ⟨ds, e, q3⟩ := q3
    obtain ⟨vs, e2, r⟩ := rh3 _ _ e
    exact .inr (.inl ⟨_, _, rfl, .inl (.inl e2), fun p np => k _ _ _ _ (q3 p (rh3.no np)) (kp4.trans (Kp.new np)) (rh3.new np ⟨_, upd_same, (r.cut l u).mono (Kp.new np)⟩) (.ref p)⟩)
  case str z =>
    cases rd3
    exact .inr (.inr ⟨z, rfl, q3.1, k _ L3 _ H3 q3.2 kp4 rh3 (.str _)⟩)
end
end Z

/-! calls, loops, comprehensions, defs by data -/
namespace Z
open PySem PySem.Spec PyProof.Rows L2
abbrev RA' := List D → Lp → VK' → Prop
def wCB (r : RA') (t : TA') : TE' := fun τ L Q => t τ L fun ds L1 => r ds L1 Q
theorem tCB_l {K : PySem.W.Frag} {r' : RA'} {r : List V → Hp → VK → Prop} {n : Nat} {t : TA'} (hr : LRA K r' r) (σ : L2.St) (H : Hp) (Q : VK) (h : lE K (wCB r' t) σ H Q) : tCB r (lA K n t) σ H Q := by
  obtain ⟨τ, L, Q', a, b, c, k⟩ := h
  refine ⟨τ, L, _, a, b, c, fun ds L1 vs H1 q hl kp rh rd => ?_⟩
  exact hr ds L1 vs H1 Q Q' rd rh q fun d1 L1' v1 H1' q3 kp3 => k d1 L1' v1 H1' q3 (kp.trans kp3)
section
variable {X : Cx}
theorem q_cb {id : String} {x : Str} {e : Expr} {es : List Expr} {p pos : Pos} {t : TA'} {r : List V → Hp → VK → Prop} {r' : RA'} (hc : CallR X (.builtin id) r) (hr : LRA X.K r' r) (hg : Gl X x) (hm : X.mg x = none) (hv : bootBuiltins x = some (.builtin id)) (ha : QA X (e :: es) t)
    (hn : x ≠ "__name__" := by decide) (hdb : (x == ("__debug__" : Str)) = false := by decide)
    (he : starEach (e :: es) X.env = (false, eval e X.env) :: starEach es X.env := by rfl) (hpl : (backTo pos (starEach es X.env)).any (·.1) = false := by rfl) : QE X (.Call (.Name x p) (e :: es) [] pos) (wCB r' t) :=
  PE.str (pe_callB hc hg hm hv ha hn hdb he hpl) (tCB_l hr)
theorem q_cty {T : String} {x : Str} {e : Expr} {es : List Expr} {p pos : Pos} {t : TA'} {r : List V → Hp → VK → Prop} {r' : RA'} (hc : CallR X (.type T) r) (hr : LRA X.K r' r) (hg : Gl X x) (hm : X.mg x = none) (hv : bootBuiltins x = some (.type T)) (ha : QA X (e :: es) t)
    (hn : x ≠ "__name__" := by decide) (hdb : (x == ("__debug__" : Str)) = false := by decide)
    (he : starEach (e :: es) X.env = (false, eval e X.env) :: starEach es X.env := by rfl) (hpl : (backTo pos (starEach es X.env)).any (·.1) = false := by rfl) : QE X (.Call (.Name x p) (e :: es) [] pos) (wCB r' t) :=
  PE.str (pe_callTy hc hg hm hv ha hn hdb he hpl) (tCB_l hr)
/-! ### built-ins -/
/-- a sequence's items, what then -/
def sqK (o : Option (List D)) (Q : List D → Prop) : Prop := match o with
  | some xs => Q xs
  | none => False
def lenD : RA' := fun ds L Q => match ds with
  | [.str x] => x.length ≤ sizeLine ∧ Q (.int x.length) L
  | [d] => sqK (seqD d L) fun xs => Q (.int xs.length) L
  | _ => False
theorem l_len {K : PySem.W.Frag} : LRA K lenD (fun xs H Q => ∃ x n, xs = [x] ∧ LenV K x H n ∧ Q (.int n) H) := fun ds L vs H Q Q' rd rh q k => by
  unfold lenD at q
  split at q
  · cases rd with
    | cons r1 r2 => cases r1; cases r2; exact ⟨_, _, rfl, ⟨q.1, rfl⟩, k _ L _ H q.2 (Kp.refl H) rh (.int _)⟩
  · rename_i d _
    cases rd with
    | cons r1 r2 =>
      cases r2
      cases es : seqD d L with
      | none => rw [es] at q; exact q.elim
      | some xs =>
        simp only [es, sqK] at q
        obtain ⟨a, ws, rfl, r, s⟩ := seqD_rel rh r1 es
        refine ⟨_, ws.length, rfl, ?_, k _ L _ H q (Kp.refl H) rh (by rw [r.length]; exact .int _)⟩
        rcases s with s | s
        · exact .inl ⟨_, s, rfl⟩
        · exact .inr ⟨_, s, rfl⟩
  · exact q.elim
def intcD : RA' := fun ds L Q => match ds with
  | [.int i] => Q (.int i) L
  | [.bl b] => Q (.int (if b then 1 else 0)) L
  | _ => False
theorem l_intc {K : PySem.W.Frag} : LRA K intcD (fun xs H Q => (∃ i, xs = [.int i] ∧ Q (.int i) H) ∨ ∃ k, xs = [.bl k] ∧ Q (.int (if k then 1 else 0)) H) := fun ds L vs H Q Q' rd rh q k => by
  unfold intcD at q
  split at q
  · cases rd with
    | cons r1 r2 => cases r1; cases r2; exact .inl ⟨_, rfl, k _ L _ H q (Kp.refl H) rh (.int _)⟩
  · cases rd with
    | cons r1 r2 => cases r1; cases r2; exact .inr ⟨_, rfl, k _ L _ H q (Kp.refl H) rh (.int _)⟩
  · exact q.elim
def absD : RA' := fun ds L Q => match ds with
  | [.int i] => Q (.int (if i < 0 then -i else i)) L
  | _ => False
theorem l_abs {K : PySem.W.Frag} : LRA K absD (fun xs H Q => ∃ i, xs = [.int i] ∧ Q (.int (if i < 0 then -i else i)) H) := fun ds L vs H Q Q' rd rh q k => by
  unfold absD at q
  split at q
  · cases rd with
    | cons r1 r2 => cases r1; cases r2; exact ⟨_, rfl, k _ L _ H q (Kp.refl H) rh (.int _)⟩
  · exact q.elim
def listD : RA' := fun ds L Q => match ds with
  | [d] => sqK (seqD d L) fun xs => ∀ p, L p = none → Q (.ref p) (up L p (.lst xs))
  | _ => False
theorem l_list {K : PySem.W.Frag} : LRA K listD (fun xs H Q => ∃ p ys, xs = [.ref p] ∧ (SqL K H p ys ∨ SqT K H p ys) ∧ ∀ l, H l = none → Q (.ref l) (upd H l (.lst ys))) := fun ds L vs H Q Q' rd rh q k => by
  unfold listD at q
  split at q
  · rename_i d
    cases rd with
    | cons r1 r2 =>
      cases r2
      cases es : seqD d L with
      | none => rw [es] at q; exact q.elim
      | some xs =>
        simp only [es, sqK] at q
        obtain ⟨a, ws, rfl, r, s⟩ := seqD_rel rh r1 es
        exact ⟨a, ws, rfl, s, fun p np => k _ _ _ _ (q p (rh.no np)) (Kp.new np) (rh.new np ⟨_, upd_same, r.mono (Kp.new np)⟩) (.ref p)⟩
  · exact q.elim
def tupleD : RA' := fun ds L Q => match ds with
  | [d] => sqK (seqD d L) fun xs => Q (.tup xs) L
  | _ => False
theorem l_tuple {K : PySem.W.Frag} : LRA K tupleD (fun xs H Q => ∃ p ys, xs = [.ref p] ∧ ((SqL K H p ys ∧ ∀ l, H l = none → Q (.ref l) (upd H l (.tup ys))) ∨ (SqT K H p ys ∧ Q (.ref p) H))) := fun ds L vs H Q Q' rd rh q k => by
  unfold tupleD at q
  split at q
  · rename_i d
    cases rd with
    | cons r1 r2 =>
      cases r2
      cases es : seqD d L with
      | none => rw [es] at q; exact q.elim
      | some xs =>
        simp only [es, sqK] at q
        obtain ⟨a, ws, rfl, r, s⟩ := seqD_relT rh r1 es
        refine ⟨a, ws, rfl, ?_⟩
        rcases s with s | s
        · exact .inl ⟨s, fun p np => k _ L _ _ q (Kp.new np) (rh.hid np) (.tup upd_same (r.mono (Kp.new np)))⟩
        · exact .inr ⟨s.1, k _ L _ H q (Kp.refl H) rh (.tup s.2 r)⟩
  · exact q.elim
/-- all, any over a list of truth values -/
def allD (f : List Bool → Bool) : RA' := fun ds L Q => match ds with
  | [.ref a] => ∃ bs : List Bool, L a = some (.lst (bs.map D.bl)) ∧ Q (.bl (f bs)) L
  | _ => False
theorem l_all {K : PySem.W.Frag} : LRA K (allD fun bs => bs.all id) (rAll K) := fun ds L vs H Q Q' rd rh q k => by
  unfold allD at q
  split at q
  · cases rd with
    | cons r1 r2 =>
      cases r1; cases r2
      obtain ⟨bs, e, q⟩ := q
      obtain ⟨ws, e2, r⟩ := rh _ _ e
      have e3 := r.bls
      subst e3
      exact ⟨_, bs, rfl, .inl (.inl e2), k _ L _ H q (Kp.refl H) rh (.bl _)⟩
  · exact q.elim
theorem l_any {K : PySem.W.Frag} : LRA K (allD fun bs => bs.any id) (rAny K) := fun ds L vs H Q Q' rd rh q k => by
  unfold allD at q
  split at q
  · cases rd with
    | cons r1 r2 =>
      cases r1; cases r2
      obtain ⟨bs, e, q⟩ := q
      obtain ⟨ws, e2, r⟩ := rh _ _ e
      have e3 := r.bls
      subst e3
      exact ⟨_, bs, rfl, .inl (.inl e2), k _ L _ H q (Kp.refl H) rh (.bl _)⟩
  · exact q.elim
def sumD : RA' := fun ds L Q => match ds with
  | [.ref a] => ∃ ns : List Int, L a = some (.lst (ns.map D.int)) ∧ Q (.int ns.sum) L
  | _ => False
theorem l_sum {K : PySem.W.Frag} : LRA K sumD (rSum K) := fun ds L vs H Q Q' rd rh q k => by
  unfold sumD at q
  split at q
  · cases rd with
    | cons r1 r2 =>
      cases r1; cases r2
      obtain ⟨bs, e, q⟩ := q
      obtain ⟨ws, e2, r⟩ := rh _ _ e
      have e3 := r.ints
      subst e3
      exact ⟨_, bs, rfl, .inl (.inl e2), k _ L _ H q (Kp.refl H) rh (.int _)⟩
  · exact q.elim
/-- the type's name -/
def tyD (d : D) (L : Lp) : Option String := match d with
  | .non => some "NoneType"
  | .bl _ => some "bool"
  | .int _ => some "int"
  | .str _ => some "str"
  | .tup _ => some "tuple"
  | .ilst _ => some "list"
  | .ref a => (match L a with
    | some (.lst _) => some "list"
    | some (.dK _) => some "dict"
    | some (.dT _) => some "dict"
    | _ => none)
  | .ty _ => none
  | .obj _ _ => none
  | .scr _ => none
theorem tyD_rel {K : PySem.W.Frag} {H : Hp} {L : Lp} {d : D} {v : V} {n : String} (rh : RepH K H L) (rd : RelD K H d v) (e : tyD d L = some n) : TyX K H v (.type n) := by
  unfold tyD at e
  split at e
  · cases e; cases rd; exact .base .non
  · cases e; cases rd; exact .base (.bl _)
  · cases e; cases rd; exact .base (.int _)
  · cases e; cases rd; exact .base (.str _)
  · cases e
    cases rd with
    | tup s r =>
      exact .base (.tup s)
  · cases e
    cases rd with
    | ilst s r =>
      obtain ⟨ob, s⟩ := s
      exact .base (.frz s)
  · cases rd
    split at e
    · cases e
      rename_i q
      obtain ⟨vs, e2, r⟩ := rh _ _ q
      exact .base (.lst e2)
    · cases e
      rename_i q
      obtain ⟨vs, e2, r⟩ := rh _ _ q
      exact .base (.dK e2)
    · cases e
      rename_i q
      obtain ⟨vs, e2, r⟩ := rh _ _ q
      exact .base (.dT e2)
    · cases e
  · cases e
  · cases e
  · cases e
/-- isinstance(x, T), T a built-in class -/
def isiB (n T : String) : Bool := if (Value.type n == Value.type T) = true then true else match PySem.fastBuiltinMro n with
  | some m => m.contains (Value.type T)
  | none => false
def tyK (o : Option String) (Q : String → Prop) : Prop := match o with
  | some n => Q n
  | none => False
def isiD (T : String) : RA' := fun ds L Q => match ds with
  | [d, .ty _] => tyK (tyD d L) fun n => Q (.bl (n == T || (n == "bool" && T == "int"))) L
  | _ => False
theorem isi_tab (n T : String) (hn : n ∈ ["NoneType", "bool", "int", "str", "tuple", "list", "dict"]) (hT : T ∈ ["bool", "int", "str", "tuple", "list", "dict"]) : kitB n T = some (n == T || (n == "bool" && T == "int")) := by
  have h : ∀ n ∈ ["NoneType", "bool", "int", "str", "tuple", "list", "dict"], ∀ T ∈ ["bool", "int", "str", "tuple", "list", "dict"], kitB n T = some (n == T || (n == "bool" && T == "int")) := by decide +kernel
  exact h n hn T hT
theorem tyD_mem {d : D} {L : Lp} {n : String} (e : tyD d L = some n) : n ∈ ["NoneType", "bool", "int", "str", "tuple", "list", "dict"] := by
  unfold tyD at e
  split at e <;> first | (cases e; decide) | (split at e <;> first | (cases e; decide) | cases e) | cases e
theorem l_isi {K : PySem.W.Frag} (T : String) (hT : T ∈ ["bool", "int", "str", "tuple", "list", "dict"]) : LRA K (fun ds L Q => match ds with
  | [d, .ty T'] => T' = T ∧ isiD T [d, .ty T'] L Q
  | _ => False) (rIsi K) := fun ds L vs H Q Q' rd rh q k => by
  match ds, rd, q with
  | [d, .ty T'], .cons r1 (.cons r2 .nil), ⟨e, q⟩ =>
    subst e
    cases r2
    unfold isiD at q
    simp only at q
    cases et : tyD d L with
    | none => rw [et] at q; exact q.elim
    | some n =>
      simp only [et, tyK] at q
      exact ⟨_, _, _, _, _, rfl, .ty _, tyD_rel rh r1 et, kit_ty (isi_tab n _ (tyD_mem et) hT), k _ L _ H q (Kp.refl H) rh (.bl _)⟩
/-- a builtin's name as a value -/
theorem q_ty {x : Str} {n : String} {pos : Pos} (hg : Gl X x) (hm : X.mg x = none) (hv : bootBuiltins x = some (.type n)) (hn : x ≠ "__name__" := by decide) (hd : (x == ("__debug__" : Str)) = false := by decide) : QE X (.Name x pos) (wC (.ty n)) :=
  qcon (.ty n) (pe_bltn (v := .ty n) hg hm hv rfl hn hd) fun _ => .ty n
/-! ### methods -/
abbrev RM' := D → List D → Lp → VK' → Prop
def LRM (K : PySem.W.Frag) (T : String) (r' : RM') (r : V → List V → Hp → VK → Prop) : Prop := ∀ d ds L v vs H Q Q', RelD K H d v → RelDs K H ds vs → RepH K H L → r' d ds L Q' → (∀ d1 L1 v1 H1, Q' d1 L1 → Kp H H1 → RepH K H1 L1 → RelD K H1 d1 v1 → Q v1 H1) → r v vs H Q
/-- the receiver's kind -/
def kindD (T : String) (d : D) (L : Lp) : Prop := match d with
  | .str _ => T = "str"
  | .ref a => (T = "list" ∧ ∃ ds, L a = some (.lst ds)) ∨ (T = "dict" ∧ ((∃ ws, L a = some (.dK ws)) ∨ ∃ ws, L a = some (.dT ws)))
  | .ilst _ => T = "list"
  | _ => False
theorem kind_tyV {K : PySem.W.Frag} {H : Hp} {L : Lp} {T : String} {d : D} {v : V} (rh : RepH K H L) (rd : RelD K H d v) (h : kindD T d L) : tyV K T v H := by
  unfold kindD at h
  split at h
  · cases rd; exact h
  · cases rd
    rcases h with ⟨e, ds, q⟩ | ⟨e, ⟨ws, q⟩ | ⟨ws, q⟩⟩
    · obtain ⟨vs, e2, _⟩ := rh _ _ q
      exact .inl ⟨e, vs, .inl (.inl e2)⟩
    · obtain ⟨vs, e2, _⟩ := rh _ _ q
      exact .inr (.inr (.inl ⟨e, .inl ⟨vs, e2⟩⟩))
    · obtain ⟨vs, e2, _⟩ := rh _ _ q
      exact .inr (.inr (.inl ⟨e, .inr ⟨vs, e2⟩⟩))
  · cases rd with
    | ilst s r => exact .inl ⟨h, _, s.sql⟩
  · exact h.elim
def wBM (T : String) (r : RM') (to : TE') (t : TA') : TE' := fun τ L Q => to τ L fun d L1 => kindD T d L1 ∧ t τ L1 fun ds L2 => r d ds L2 Q
def wBM0 (T : String) (r : RM') (to : TE') : TE' := fun τ L Q => to τ L fun d L1 => kindD T d L1 ∧ r d [] L1 Q
theorem q_bm {o e : Expr} {es : List Expr} {to : TE'} {t : TA'} {name : Str} {apos cpos : Pos} {T id : String} {r : V → List V → Hp → VK → Prop} {r' : RM'} (pa : PlainAttrs T) (slot : Slot T name id) (hty : typeOf (.builtin id) = pure (.type "method_descriptor")) (hm : MtR X id r) (hr : LRM X.K T r' r) (ho : QE X o to) (ha : QA X (e :: es) t)
    (hbase : attributeBase o name X.env (eval o X.env) = eval o X.env := by rfl)
    (hfew : ((backTo cpos (starEach (e :: es) X.env)).all (fun x => !x.1) && (backToKw cpos (keywordEach [] X.env)).all (fun x => x.1.isSome)
      && decide ((e :: es).length + ([] : List Keyword).length + (if ([] : List Keyword).isEmpty then 0 else 1) < 30)) = true := by rfl)
    (hline : (apos.endLine == cpos.line) = true := by rfl) (hs : starEach (e :: es) X.env = (false, eval e X.env) :: starEach es X.env := by rfl) (hplain : (backTo cpos (starEach es X.env)).any (·.1) = false := by rfl) :
    QE X (.Call (.Attribute o name apos) (e :: es) [] cpos) (wBM T r' to t) := PE.str (pe_bm pa slot hty hm ho ha hbase hfew hline hs hplain) fun σ H Q h => by
  obtain ⟨τ, L, Q', a, b, c, k⟩ := h
  refine ⟨τ, L, _, a, b, c, fun d L1 v H1 q kp rh rd => ⟨kind_tyV rh rd q.1, ?_⟩⟩
  refine ⟨τ, L1, _, a.mono kp, rh, q.2, fun ds L2 vs H2 q2 hl kp2 rh2 rd2 => ?_⟩
  exact hr d ds L2 v vs H2 Q Q' (rd.mono kp2) rd2 rh2 q2 fun d1 L1' v1 H1' q3 kp3 => k d1 L1' v1 H1' q3 ((kp.trans kp2).trans kp3)
theorem q_bm0 {o : Expr} {to : TE'} {name : Str} {apos cpos : Pos} {T id : String} {r : V → List V → Hp → VK → Prop} {r' : RM'} (pa : PlainAttrs T) (slot : Slot T name id) (hty : typeOf (.builtin id) = pure (.type "method_descriptor")) (hm : MtR X id r) (hr : LRM X.K T r' r) (ho : QE X o to)
    (hbase : attributeBase o name X.env (eval o X.env) = eval o X.env := by rfl) (hline : (apos.endLine == cpos.line) = true := by rfl) : QE X (.Call (.Attribute o name apos) [] [] cpos) (wBM0 T r' to) := PE.str (pe_bm0 pa slot hty hm ho hbase hline) fun σ H Q h => by
  obtain ⟨τ, L, Q', a, b, c, k⟩ := h
  refine ⟨τ, L, _, a, b, c, fun d L1 v H1 q kp rh rd => ⟨kind_tyV rh rd q.1, ?_⟩⟩
  exact hr d [] L1 v [] H1 Q Q' rd .nil rh q.2 fun d1 L1' v1 H1' q3 kp3 => k d1 L1' v1 H1' q3 (kp.trans kp3)
/-- a list's place is written anew -/
theorem put_lst {K : PySem.W.Frag} {H : Hp} {L : Lp} {a : Addr} {vs ws : List V} {es : List D} (rh : RepH K H L) (e2 : H a = some (.lst vs)) (r : RelDs K H es ws) : Kp H (upd H a (.lst ws)) ∧ RepH K (upd H a (.lst ws)) (up L a (.lst es)) := by
  have nf : ¬ isFix (H a) := by rw [e2]; exact id
  exact ⟨Kp.upd nf, rh.put nf ⟨ws, upd_same, r.mono (Kp.upd nf)⟩⟩
def appendD : RM' := fun d ds L Q => match d, ds with
  | .ref a, [e] => ∃ xs, L a = some (.lst xs) ∧ xs.length < sizeLine ∧ Q .non (up L a (.lst (xs ++ [e])))
  | _, _ => False
theorem l_append {K : PySem.W.Frag} : LRM K "list" appendD rAppend := fun d ds L v vs H Q Q' rd rds rh q k => by
  unfold appendD at q
  split at q
  · rename_i a e
    obtain ⟨xs, e1, z, q⟩ := q
    obtain ⟨ws, e2, r⟩ := rh _ _ e1
    cases rd
    cases rds with
    | cons r1 r2 =>
      cases r2
      obtain ⟨kp, rh2⟩ := put_lst rh e2 (r.app (.cons r1 .nil))
      exact ⟨a, ws, _, rfl, rfl, e2, by rw [← r.length]; exact z, k _ _ _ _ q kp rh2 .non⟩
  · exact q.elim
def insertD : RM' := fun d ds L Q => match d, ds with
  | .ref a, [.int i, e] => ∃ xs, L a = some (.lst xs) ∧ xs.length < sizeLine ∧ 0 ≤ i ∧ i < 2 ^ 63 ∧ Q .non (up L a (.lst (xs.take (min i.toNat xs.length) ++ e :: xs.drop (min i.toNat xs.length))))
  | _, _ => False
def reverseD : RM' := fun d ds L Q => match d, ds with
  | .ref a, [] => ∃ xs, L a = some (.lst xs) ∧ Q .non (up L a (.lst xs.reverse))
  | _, _ => False
theorem l_reverse {K : PySem.W.Frag} : LRM K "list" reverseD rReverse := fun d ds L v vs H Q Q' rd rds rh q k => by
  unfold reverseD at q
  split at q
  · rename_i a
    obtain ⟨xs, e1, q⟩ := q
    obtain ⟨ws, e2, r⟩ := rh _ _ e1
    cases rd
    cases rds
    obtain ⟨kp, rh2⟩ := put_lst rh e2 r.rev
    exact ⟨a, ws, rfl, rfl, e2, k _ _ _ _ q kp rh2 .non⟩
  · exact q.elim
def clearD : RM' := fun d ds L Q => match d, ds with
  | .ref a, [] => ∃ xs, L a = some (.lst xs) ∧ Q .non (up L a (.lst []))
  | _, _ => False
theorem l_clear {K : PySem.W.Frag} : LRM K "list" clearD rClear := fun d ds L v vs H Q Q' rd rds rh q k => by
  unfold clearD at q
  split at q
  · rename_i a
    obtain ⟨xs, e1, q⟩ := q
    obtain ⟨ws, e2, r⟩ := rh _ _ e1
    cases rd
    cases rds
    obtain ⟨kp, rh2⟩ := put_lst rh e2 .nil
    exact ⟨a, ws, rfl, rfl, e2, k _ _ _ _ q kp rh2 .non⟩
  · exact q.elim
def extendD : RM' := fun d ds L Q => match d, ds with
  | .ref a, [.ref b] => ∃ xs ys, L a = some (.lst xs) ∧ L b = some (.lst ys) ∧ xs.length + ys.length ≤ sizeLine ∧ Q .non (up L a (.lst (xs ++ ys)))
  | _, _ => False
theorem l_extend {K : PySem.W.Frag} : LRM K "list" extendD rExtend := fun d ds L v vs H Q Q' rd rds rh q k => by
  unfold extendD at q
  split at q
  · rename_i a b
    obtain ⟨xs, ys, e1, f1, z, q⟩ := q
    obtain ⟨ws, e2, r⟩ := rh _ _ e1
    obtain ⟨us, f2, s⟩ := rh _ _ f1
    cases rd
    cases rds with
    | cons r1 r2 =>
      cases r1; cases r2
      obtain ⟨kp, rh2⟩ := put_lst rh e2 (r.app s)
      exact ⟨a, b, ws, us, rfl, rfl, e2, f2, by rw [← r.length, ← s.length]; exact z, k _ _ _ _ q kp rh2 .non⟩
  · exact q.elim
/-! ### o[i] = v -/
abbrev RS' := D → D → D → Lp → (Lp → Prop) → Prop
def setD : RS' := fun o i d L Q => match o, i with
  | .ref a, .int k => ∃ xs j, L a = some (.lst xs) ∧ ixN xs.length k = some j ∧ Q (up L a (.lst (xs.set j d)))
  | _, _ => False
theorem g_sub {o i : Expr} {pos : Pos} {to ti : TE'} (ho : QE X o to) (hi : QE X i ti) (ha : ∀ v, assign (.Subscript o i pos) X.env v = (do
      let ov ← holding [v] (eval o X.env)
      let iv ← holding [v, ov] (eval i X.env)
      standAt pos
      holding [v, ov, iv] (setItem ov iv v)
      release [v, ov, iv] []) := by intro _; rfl) : QG X (.Subscript o i pos) (hSub to ti setD) := PG.str (pg_sub ho hi set_list ha) fun v σ H Q h => by
  obtain ⟨d, τ, L, Q', rd, a, b, c, k⟩ := h
  refine ⟨τ, L, _, a, b, c, fun x L1 v1 H1 q kp rh rx => ?_⟩
  refine ⟨τ, L1, _, a.mono kp, rh, q, fun y L2 v2 H2 q2 kp2 rh2 ry => ?_⟩
  unfold setD at q2
  split at q2
  · obtain ⟨xs, j, e1, ej, q2⟩ := q2
    obtain ⟨ws, e2, r⟩ := rh2 _ _ e1
    cases rx; cases ry
    obtain ⟨kp3, rh3⟩ := put_lst rh2 e2 (r.set j (rd.mono (kp.trans kp2)))
    exact ⟨_, ws, _, j, rfl, rfl, e2, by rw [← r.length]; exact ej, k _ _ _ _ q2 ((kp.trans kp2).trans kp3) rh3 (a.mono ((kp.trans kp2).trans kp3))⟩
  · exact q2.elim
end
end Z

/-! what is walked, loops, comprehensions, calls, defs by data -/
namespace Z
open PySem PySem.Spec PyProof.Rows L2 RZ
/-! ### forgetting -/
def LeS (τ τ' : S') : Prop := τ.length = τ'.length ∧ ∀ (i : Nat) (d : D), τ[i]? = some (some d) → τ'[i]? = some (some d)
theorem LeS.refl (τ : S') : LeS τ τ := ⟨rfl, fun _ _ h => h⟩
theorem RepS.le {K : PySem.W.Frag} {H : Hp} {τ τ' : S'} {σ : L2.St} (h : RepS K H τ σ) (e : LeS τ' τ) : RepS K H τ' σ := ⟨e.1.trans h.1, fun i d q => h.2 i d (e.2 i d q)⟩
/-- on slots that are written out -/
def leS : S' → S' → Prop
  | [], [] => True
  | none :: a, _ :: b => leS a b
  | some d :: a, e :: b => e = some d ∧ leS a b
  | _, _ => False
theorem LeS.of : ∀ {a b : S'}, leS a b → LeS a b
  | [], [], _ => ⟨rfl, fun _ _ h => h⟩
  | none :: a, e :: b, h => by
    have z := LeS.of (show leS a b from h)
    refine ⟨by rw [List.length_cons, List.length_cons, z.1], fun i d q => ?_⟩
    cases i with
    | zero => simp at q
    | succ i => exact z.2 i d (by simpa using q)
  | some d :: a, e :: b, h => by
    obtain ⟨rfl, h⟩ : e = some d ∧ leS a b := h
    have z := LeS.of h
    refine ⟨by rw [List.length_cons, List.length_cons, z.1], fun i d q => ?_⟩
    cases i with
    | zero => simpa using q
    | succ i => exact z.2 i d (by simpa using q)
  | [], _ :: _, h => h.elim
  | none :: _, [], h => h.elim
  | some _ :: _, [], h => h.elim
/-- for fewer facts -/
def Dn (P : Lp → Prop) (L : Lp) : Prop := ∃ L1, Le L1 L ∧ P L1
def DnS (P : S' → Lp → Prop) (τ : S') (L : Lp) : Prop := ∃ τ1 L1, LeS τ1 τ ∧ Le L1 L ∧ P τ1 L1
theorem Dn.mk {P : Lp → Prop} {L : Lp} (h : P L) : Dn P L := ⟨L, Le.refl L, h⟩
theorem DnS.mk {P : S' → Lp → Prop} {τ : S'} {L : Lp} (h : P τ L) : DnS P τ L := ⟨τ, L, LeS.refl τ, Le.refl L, h⟩
/-! ### what is walked -/
abbrev TI' := S' → Lp → (List D → (Lp → Prop) → Lp → Prop) → Prop
/-- the turns of J bring xs while st stands, from H1 on -/
structure ItOk (K : PySem.W.Frag) (H1 : Hp) (J : It) (xs : List D) (st : Lp → Prop) : Prop where
  stop : ∀ i H L, Kp H1 H → RepH K H L → st L → xs.length ≤ i → J.stop i H
  go : ∀ i H L, Kp H1 H → RepH K H L → st L → i < xs.length → J.go i H
  yld : ∀ i H L x H', Kp H1 H → RepH K H L → st L → i < xs.length → J.yld i H x H' → ∃ d, xs[i]? = some d ∧ RelD K H' d x ∧ Kp H H' ∧ RepH K H' L
def lI (K : PySem.W.Frag) (wi : TI') : TI := fun σ H R => ∃ τ L R', RepS K H τ σ ∧ RepH K H L ∧ wi τ L R' ∧ ∀ xs st L1 J H1, R' xs st L1 → Kp H H1 → RepH K H1 L1 → ItOk K H1 J xs st → R J H1
def QI (X : Cx) (tg iter : Expr) (wi : TI') : Prop := PI X tg iter (lI X.K wi)
theorem PI.str {X : Cx} {tg e : Expr} {t u : TI} (h : PI X tg e t) (k : ∀ σ H Q, u σ H Q → t σ H Q) : PI X tg e u := ⟨fun pins s σ H R I q => h.run pins s σ H R I (k σ H R q)⟩
/-- a list, a tuple -/
def walkK (d : D) (L1 : Lp) (R : List D → (Lp → Prop) → Lp → Prop) : Prop := match d with
  | .tup ds => R ds (fun _ => True) L1
  | .ilst ds => R ds (fun _ => True) L1
  | .ref a => ∃ ds, L1 a = some (.lst ds) ∧ R ds (fun L => L a = some (.lst ds)) L1
  | _ => False
def vSeq (t : TE') : TI' := fun τ L R => t τ L fun d L1 => walkK d L1 R
theorem SqL.uniq {K : PySem.W.Frag} {H : Hp} {a : Addr} {xs ys : List V} (h : H a = some (.lst xs)) (k : SqL K H a ys) (hk : K.lookup a = none) : ys = xs := by
  rcases k with (k | ⟨ob, k⟩) | ⟨o, _, _, e, _⟩
  · rw [h] at k; cases k; rfl
  · rw [h] at k; cases k
  · rw [hk] at e; cases e
theorem get_lt {α : Type} {xs : List α} {i : Nat} (h : i < xs.length) : ∃ x, xs[i]? = some x := ⟨xs[i], List.getElem?_eq_getElem h⟩
theorem itOk_l {K : PySem.W.Frag} {H1 : Hp} {a : Addr} {ds : List D} (st : Lp → Prop) (h : ∀ H L, Kp H1 H → RepH K H L → st L → ∃ vs, SqL K H a vs ∧ RelDs K H ds vs) : ItOk K H1 (Itl K a) ds st where
  stop := fun i H L k r s hi => by
    obtain ⟨vs, q, rd⟩ := h H L k r s
    exact ⟨vs, q, by rw [← rd.length]; exact hi⟩
  go := fun i H L k r s hi => by
    obtain ⟨vs, q, rd⟩ := h H L k r s
    rw [rd.length] at hi
    obtain ⟨x, e⟩ := get_lt hi
    exact ⟨vs, x, q, e⟩
  yld := fun i H L x H' k r s hi y => by
    obtain ⟨rfl, y⟩ := y
    obtain ⟨vs, q, rd⟩ := h H' L k r s
    obtain ⟨d, e, rr⟩ := rd.getv (y vs q)
    exact ⟨d, e, rr, Kp.refl H', r⟩
theorem itOk_t {K : PySem.W.Frag} {H1 : Hp} {a : Addr} {ds : List D} (st : Lp → Prop) (h : ∀ H L, Kp H1 H → RepH K H L → st L → ∃ vs, SqT K H a vs ∧ RelDs K H ds vs) : ItOk K H1 (Itt K a) ds st where
  stop := fun i H L k r s hi => by
    obtain ⟨vs, q, rd⟩ := h H L k r s
    exact ⟨vs, q, by rw [← rd.length]; exact hi⟩
  go := fun i H L k r s hi => by
    obtain ⟨vs, q, rd⟩ := h H L k r s
    rw [rd.length] at hi
    obtain ⟨x, e⟩ := get_lt hi
    exact ⟨vs, x, q, e⟩
  yld := fun i H L x H' k r s hi y => by
    obtain ⟨rfl, y⟩ := y
    obtain ⟨vs, q, rd⟩ := h H' L k r s
    obtain ⟨d, e, rr⟩ := rd.getv (y vs q)
    exact ⟨d, e, rr, Kp.refl H', r⟩
/-- a list or a tuple, whichever comes -/
def iSeq (K : PySem.W.Frag) (tl : TE) : TI := fun σ H R => tl σ H fun x H1 => ∃ a, x = .ref a ∧ (((∃ xs, SqL K H1 a xs) ∧ R (Itl K a) H1) ∨ ((∃ xs, SqT K H1 a xs) ∧ R (Itt K a) H1))
section
variable {X : Cx} {tg : Expr}
theorem pi_seq {l : Expr} {tl : TE} (hl : PE X l tl) : PI X tg l (iSeq X.K tl) := by
  refine ⟨fun pins s σ H R I h => ?_⟩
  refine thn (hl.run pins s σ H _ I h) fun v s1 ⟨x, H1, I1, r1, q1⟩ => ?_
  obtain ⟨a, e, q1⟩ := q1
  subst e
  cases r1
  have fin : ∀ b ∈ [s1.heap.objs.size], FpOk X pins H1 b := fun b hb => by
    have e : b = s1.heap.objs.size := by simpa using hb
    subst e
    exact I1.fpOk (Nat.le_refl _) (I1.hok.fresh (Nat.le_refl _))
  rcases q1 with ⟨⟨xs, hq⟩, q⟩ | ⟨⟨xs, hq⟩, q⟩
  · obtain ⟨its, rv, p, hz⟩ := I1.list hq
    refine wpAny_pyIter_list p.isList ?_
    exact ⟨s1.heap.objs.size, [s1.heap.objs.size], _, _, H1, rfl, I1.kept (t' := s1.toks) fun b o e => Heap.get?_push_of_some _ e, turn_list a _, ⟨_, Heap.get?_push_size _ rfl, rfl, rfl⟩, fin, q⟩
  · obtain ⟨its, rv, p, hz⟩ := I1.tuple hq
    refine wpAny_pyIter_tuple (show s1.heap.IsTuple a its.toArray from p) ?_
    exact ⟨s1.heap.objs.size, [s1.heap.objs.size], _, _, H1, rfl, I1.kept (t' := s1.toks) fun b o e => Heap.get?_push_of_some _ e, turn_tuple a _, ⟨_, Heap.get?_push_size _ rfl, rfl, rfl⟩, fin, q⟩
theorem i_seq {l : Expr} {t : TE'} (hl : QE X l t) : QI X tg l (vSeq t) := PI.str (pi_seq hl) fun σ H R h => by
  obtain ⟨τ, L, R', a, b, c, k⟩ := h
  refine ⟨τ, L, _, a, b, c, fun d L1 v H1 q kp rh rd => ?_⟩
  cases d <;> try exact q.elim
  case tup ds =>
    cases rd with
    | tup s r => exact ⟨_, rfl, .inr ⟨⟨_, .inl (.inl s)⟩, k ds _ L1 _ H1 q kp rh (itOk_t _ fun H L k2 _ _ => ⟨_, .inl (.inl (k2.sqt s)), r.mono k2⟩)⟩⟩
  case ilst ds =>
    cases rd with
    | ilst s r => exact ⟨_, rfl, .inl ⟨⟨_, s.sql⟩, k ds _ L1 _ H1 q kp rh (itOk_l _ fun H L k2 _ _ => ⟨_, (k2.sqi s).sql, r.mono k2⟩)⟩⟩
  case ref p =>
    cases rd
    obtain ⟨ds, e, q⟩ := q
    obtain ⟨vs, e2, r⟩ := rh _ _ e
    exact ⟨_, rfl, .inl ⟨⟨_, .inl (.inl e2)⟩, k ds _ L1 _ H1 q kp rh (itOk_l _ fun H L k2 rh2 e3 => by
      obtain ⟨ws, e4, r4⟩ := rh2 _ _ e3
      exact ⟨ws, .inl (.inl e4), r4⟩)⟩⟩
/-! ranges -/
def rgD (lo : Int) (n : Nat) : List D := (List.range n).map fun i : Nat => .int (lo + (i : Int))
theorem rgD_len (lo : Int) (n : Nat) : (rgD lo n).length = n := by simp [rgD]
theorem rgD_get {lo : Int} {n i : Nat} (h : i < n) : (rgD lo n)[i]? = some (.int (lo + (i : Int))) := by simp [rgD, h]
theorem itOk_r {K : PySem.W.Frag} {H1 : Hp} {lo : Int} {n : Nat} : ItOk K H1 (Itr lo n) (rgD lo n) (fun _ => True) where
  stop := fun i H L k r s hi => by rw [rgD_len] at hi; exact hi
  go := fun i H L k r s hi => by rw [rgD_len] at hi; exact hi
  yld := fun i H L x H' k r s hi y => by
    obtain ⟨rfl, rfl⟩ := y
    rw [rgD_len] at hi
    exact ⟨_, rgD_get hi, .int _, Kp.refl H', r⟩
def vRng1 (t : TE') : TI' := fun τ L R => t τ L fun d L1 => inK d fun j => -(2 ^ 62) ≤ j ∧ j < 2 ^ 62 ∧ R (rgD 0 j.toNat) (fun _ => True) L1
def vRng2 (t u : TE') : TI' := fun τ L R => t τ L fun d L1 => u τ L1 fun e L2 => inK d fun i => inK e fun j => (-(2 ^ 62) ≤ i ∧ i < 2 ^ 62 ∧ -(2 ^ 62) ≤ j ∧ j < 2 ^ 62) ∧ R (rgD i (j - i).toNat) (fun _ => True) L2
theorem i_rng1 {a : Expr} {t : TE'} {p pos : Pos} (ha : QE X a t) (hg : Gl X "range") (hm : X.mg "range" = none) (hs : starEach [a] X.env = [(false, eval a X.env)] := by rfl) : QI X tg (.Call (.Name "range" p) [a] [] pos) (vRng1 t) := PI.str (pi_range1 hg hm (pa_cons ha pa_nil hs) hs) fun σ H R h => by
  obtain ⟨τ, L, R', a, b, c, k⟩ := h
  refine ⟨τ, L, _, a, b, c, fun d L1 v H1 q kp rh rd => ?_⟩
  cases d <;> try exact q.elim
  case int j =>
    cases rd
    exact ⟨j, rfl, q.1, q.2.1, k _ _ L1 _ H1 q.2.2 kp rh itOk_r⟩
theorem i_rng2 {a a2 : Expr} {t u : TE'} {p pos : Pos} (ha : QE X a t) (hb : QE X a2 u) (hg : Gl X "range") (hm : X.mg "range" = none) (hs : starEach [a, a2] X.env = [(false, eval a X.env), (false, eval a2 X.env)] := by rfl) (hs2 : starEach [a2] X.env = [(false, eval a2 X.env)] := by rfl) :
    QI X tg (.Call (.Name "range" p) [a, a2] [] pos) (vRng2 t u) := PI.str (pi_range2 hg hm (pa_cons ha (pa_cons hb pa_nil hs2) (by rw [hs, hs2])) hs hs2) fun σ H R h => by
  obtain ⟨τ, L, R', a, b, c, k⟩ := h
  refine ⟨τ, L, _, a, b, c, fun d L1 v H1 q kp rh rd => ?_⟩
  refine ⟨τ, L1, _, a.mono kp, rh, q, fun e L2 u H2 q2 kp2 rh2 rd2 => ?_⟩
  cases d <;> cases e <;> try exact q2.elim
  case int.int i j =>
    cases rd
    cases rd2
    exact ⟨i, j, rfl, q2.1, k _ _ L2 _ H2 q2.2 (kp.trans kp2) rh2 itOk_r⟩
/-! pairs -/
def enD (n : Nat) : List D → List D
  | [] => []
  | d :: ds => .tup [.int n, d] :: enD (n + 1) ds
theorem enD_len : ∀ (n : Nat) (ds : List D), (enD n ds).length = ds.length
  | _, [] => rfl
  | n, d :: ds => by rw [enD, List.length_cons, List.length_cons, enD_len]
theorem enD_get : ∀ (n : Nat) (ds : List D) (i : Nat) (d : D), ds[i]? = some d → (enD n ds)[i]? = some (.tup [.int ((n + i : Nat) : Int), d])
  | n, [], i, d, h => by simp at h
  | n, e :: ds, 0, d, h => by
    simp at h
    subst h
    rfl
  | n, e :: ds, i + 1, d, h => by
    have z := enD_get (n + 1) ds i d (by simpa using h)
    rw [enD, List.getElem?_cons_succ, z]
    have e : n + 1 + i = n + (i + 1) := by omega
    rw [e]
theorem itOk_e {K : PySem.W.Frag} {H1 : Hp} {a : Addr} {ds : List D} (st : Lp → Prop) (h : ∀ H L, Kp H1 H → RepH K H L → st L → ∃ vs, SqL K H a vs ∧ RelDs K H ds vs) : ItOk K H1 (Ite K a) (enD 0 ds) st where
  stop := fun i H L k r s hi => by
    obtain ⟨vs, q, rd⟩ := h H L k r s
    rw [enD_len] at hi
    exact ⟨vs, q, by rw [← rd.length]; exact hi⟩
  go := fun i H L k r s hi => by
    obtain ⟨vs, q, rd⟩ := h H L k r s
    rw [enD_len, rd.length] at hi
    obtain ⟨x, e⟩ := get_lt hi
    exact ⟨vs, x, q, e⟩
  yld := fun i H L x H' k r s hi y => by
    obtain ⟨T, y, rfl, hT, rfl, g⟩ := y
    obtain ⟨vs, q, rd⟩ := h H L k r s
    obtain ⟨d, e, rr⟩ := rd.getv (g vs q)
    refine ⟨_, enD_get 0 ds i d e, ?_, Kp.new hT, r.hid hT⟩
    rw [Nat.zero_add]
    exact .tup upd_same (.cons (.int _) (.cons (rr.mono (Kp.new hT)) .nil))
def enK (d : D) (L1 : Lp) (R : List D → (Lp → Prop) → Lp → Prop) : Prop := match d with
  | .ref a => ∃ ds, L1 a = some (.lst ds) ∧ R (enD 0 ds) (fun L => L a = some (.lst ds)) L1
  | _ => False
def vEnum (t : TE') : TI' := fun τ L R => t τ L fun d L1 => enK d L1 R
theorem i_enum {e : Expr} {t : TE'} {p pos tpos : Pos} {elts : List Expr} {kk : Nat} (ha : QE X e t) (hg : Gl X "enumerate") (hm : X.mg "enumerate" = none) (hs : starEach [e] X.env = [(false, eval e X.env)] := by rfl) :
    QI X (.Tuple elts kk tpos) (.Call (.Name "enumerate" p) [e] [] pos) (vEnum t) := PI.str (pi_enum hg hm (pa_cons ha pa_nil hs) hs) fun σ H R h => by
  obtain ⟨τ, L, R', a, b, c, k⟩ := h
  refine ⟨τ, L, _, a, b, c, fun d L1 v H1 q kp rh rd => ?_⟩
  cases d <;> try exact q.elim
  case ref p =>
    cases rd
    obtain ⟨ds, e, q⟩ := q
    obtain ⟨vs, e2, r⟩ := rh _ _ e
    exact ⟨_, vs, rfl, .inl (.inl e2), k _ _ L1 _ H1 q kp rh (itOk_e _ fun H L k2 rh2 e3 => by
      obtain ⟨ws, e4, r4⟩ := rh2 _ _ e3
      exact ⟨ws, .inl (.inl e4), r4⟩)⟩
def zpD (ds es : List D) : List D := List.zipWith (fun d e => .tup [d, e]) ds es
theorem zpD_len (ds es : List D) : (zpD ds es).length = min ds.length es.length := by simp [zpD]
theorem zpD_get {ds es : List D} {i : Nat} {d e : D} (h : ds[i]? = some d) (k : es[i]? = some e) : (zpD ds es)[i]? = some (.tup [d, e]) := by simp [zpD, List.getElem?_zipWith, h, k]
theorem itOk_z {K : PySem.W.Frag} {H1 : Hp} {a b : Addr} {ds es : List D} (st : Lp → Prop) (h : ∀ H L, Kp H1 H → RepH K H L → st L → ∃ vs us, SqL K H a vs ∧ SqL K H b us ∧ RelDs K H ds vs ∧ RelDs K H es us) : ItOk K H1 (Itz K a b) (zpD ds es) st where
  stop := fun i H L k r s hi => by
    obtain ⟨vs, us, q1, q2, r1, r2⟩ := h H L k r s
    rw [zpD_len, r1.length, r2.length] at hi
    exact ⟨vs, us, q1, q2, by omega⟩
  go := fun i H L k r s hi => by
    obtain ⟨vs, us, q1, q2, r1, r2⟩ := h H L k r s
    rw [zpD_len, r1.length, r2.length] at hi
    obtain ⟨x, e⟩ := get_lt (show i < vs.length by omega)
    obtain ⟨y, f⟩ := get_lt (show i < us.length by omega)
    exact ⟨vs, us, x, y, q1, q2, e, f⟩
  yld := fun i H L x H' k r s hi y => by
    obtain ⟨T, x, y, rfl, hT, rfl, g1, g2⟩ := y
    obtain ⟨vs, us, q1, q2, r1, r2⟩ := h H L k r s
    obtain ⟨d, e, rr⟩ := r1.getv (g1 vs q1)
    obtain ⟨d2, e2, rr2⟩ := r2.getv (g2 us q2)
    exact ⟨_, zpD_get e e2, .tup upd_same (.cons (rr.mono (Kp.new hT)) (.cons (rr2.mono (Kp.new hT)) .nil)), Kp.new hT, r.hid hT⟩
theorem itOk_zT {K : PySem.W.Frag} {H1 : Hp} {a b : Addr} {ds es : List D} (st : Lp → Prop) (h : ∀ H L, Kp H1 H → RepH K H L → st L → ∃ vs us, SqT K H a vs ∧ SqT K H b us ∧ RelDs K H ds vs ∧ RelDs K H es us) : ItOk K H1 (ItzT K a b) (zpD ds es) st where
  stop := fun i H L k r s hi => by
    obtain ⟨vs, us, q1, q2, r1, r2⟩ := h H L k r s
    rw [zpD_len, r1.length, r2.length] at hi
    exact ⟨vs, us, q1, q2, by omega⟩
  go := fun i H L k r s hi => by
    obtain ⟨vs, us, q1, q2, r1, r2⟩ := h H L k r s
    rw [zpD_len, r1.length, r2.length] at hi
    obtain ⟨x, e⟩ := get_lt (show i < vs.length by omega)
    obtain ⟨y, f⟩ := get_lt (show i < us.length by omega)
    exact ⟨vs, us, x, y, q1, q2, e, f⟩
  yld := fun i H L x H' k r s hi y => by
    obtain ⟨T, x, y, rfl, hT, rfl, g1, g2⟩ := y
    obtain ⟨vs, us, q1, q2, r1, r2⟩ := h H L k r s
    obtain ⟨d, e, rr⟩ := r1.getv (g1 vs q1)
    obtain ⟨d2, e2, rr2⟩ := r2.getv (g2 us q2)
    exact ⟨_, zpD_get e e2, .tup upd_same (.cons (rr.mono (Kp.new hT)) (.cons (rr2.mono (Kp.new hT)) .nil)), Kp.new hT, r.hid hT⟩
/-- what a list or tuple has, and that it stays -/
def stD (d : D) (ds : List D) : Lp → Prop := fun L => seqD d L = some ds
def isLst : D → Bool
  | .tup _ => false
  | _ => true
def vZip (t u : TE') : TI' := fun τ L R => t τ L fun d L1 => u τ L1 fun e L2 => match seqD d L2, seqD e L2 with
  | some ds, some es => isLst d = isLst e ∧ R (zpD ds es) (fun L => stD d ds L ∧ stD e es L) L2
  | _, _ => False
theorem seqD_l {K : PySem.W.Frag} {H : Hp} {L : Lp} {d : D} {v : V} {ds : List D} (rh : RepH K H L) (rd : RelD K H d v) (e : seqD d L = some ds) : ∃ a vs, v = .ref a ∧ RelDs K H ds vs ∧ (isLst d = true → SqL K H a vs) ∧ (isLst d = false → SqT K H a vs) := by
  unfold seqD at e
  split at e
  · cases e
    cases rd with
    | tup s r => exact ⟨_, _, rfl, r, fun z => (nomatch z), fun _ => .inl (.inl s)⟩
  · cases e
    cases rd with
    | ilst s r => exact ⟨_, _, rfl, r, fun _ => s.sql, fun z => (nomatch z)⟩
  · cases rd
    split at e
    · cases e
      rename_i q
      obtain ⟨vs, e2, r⟩ := rh _ _ q
      exact ⟨_, vs, rfl, r, fun _ => .inl (.inl e2), fun z => (nomatch z)⟩
    · cases e
  · cases e
theorem i_zip {e e2 : Expr} {t u : TE'} {p pos tpos : Pos} {elts : List Expr} {kk : Nat} (ha : QE X e t) (hb : QE X e2 u) (hg : Gl X "zip") (hm : X.mg "zip" = none)
    (hs : starEach [e, e2] X.env = (false, eval e X.env) :: starEach [e2] X.env := by rfl) (hs2 : starEach [e2] X.env = (false, eval e2 X.env) :: starEach [] X.env := by rfl) (hpl : (backTo pos (starEach [e2] X.env)).any (·.1) = false := by rfl) :
    QI X (.Tuple elts kk tpos) (.Call (.Name "zip" p) [e, e2] [] pos) (vZip t u) := PI.str (pi_zipA hg hm (pa_cons ha (pa_cons hb pa_nil hs2) hs) hs hpl) fun σ H R h => by
  obtain ⟨τ, L, R', a, b, c, k⟩ := h
  refine ⟨τ, L, _, a, b, c, fun d L1 v H1 q kp rh rd => ?_⟩
  refine ⟨τ, L1, _, a.mono kp, rh, q, fun e L2 u H2 q2 kp2 rh2 rd2 => ?_⟩
  cases e1 : seqD d L2 with
  | none => rw [e1] at q2; exact q2.elim
  | some ds =>
    cases e3 : seqD e L2 with
    | none => rw [e1, e3] at q2; exact q2.elim
    | some es =>
      rw [e1, e3] at q2
      obtain ⟨eq, q2⟩ := q2
      have rd1 := rd.mono kp2
      obtain ⟨a1, vs1, rfl, r1, l1, t1⟩ := seqD_l rh2 rd1 e1
      obtain ⟨a2, vs2, rfl, r2, l2, t2⟩ := seqD_l rh2 rd2 e3
      refine ⟨a1, a2, vs1, vs2, rfl, ?_⟩
      cases hl : isLst d with
      | true =>
        have hl2 : isLst e = true := by rw [← eq, hl]
        refine .inl ⟨l1 hl, l2 hl2, k _ _ L2 _ H2 q2 (kp.trans kp2) rh2 (itOk_z _ fun H L k2 rh3 st => ?_)⟩
        obtain ⟨a3, ws1, f1, s1, m1, _⟩ := seqD_l rh3 (rd1.mono k2) st.1
        obtain ⟨a4, ws2, f2, s2, m2, _⟩ := seqD_l rh3 (rd2.mono k2) st.2
        cases f1; cases f2
        exact ⟨ws1, ws2, m1 hl, m2 hl2, s1, s2⟩
      | false =>
        have hl2 : isLst e = false := by rw [← eq, hl]
        refine .inr ⟨t1 hl, t2 hl2, k _ _ L2 _ H2 q2 (kp.trans kp2) rh2 (itOk_zT _ fun H L k2 rh3 st => ?_)⟩
        obtain ⟨a3, ws1, f1, s1, _, m1⟩ := seqD_l rh3 (rd1.mono k2) st.1
        obtain ⟨a4, ws2, f2, s2, _, m2⟩ := seqD_l rh3 (rd2.mono k2) st.2
        cases f1; cases f2
        exact ⟨ws1, ws2, m1 hl, m2 hl2, s1, s2⟩
end
/-! ### for -/
def wFor (wi : TI') (g : TG') (tb : TS') : TS' := fun E τ L => wi τ L fun xs st L1 => ∃ Pv : Nat → S' → Lp → Prop, Pv 0 τ L1 ∧ (∀ i τ L, i ≤ xs.length → Pv i τ L → st L) ∧
  (∀ i x τ L, xs[i]? = some x → Pv i τ L → g x τ L fun τ2 L2 => tb { E with nx := DnS (Pv (i + 1)), ct := DnS (Pv (i + 1)), bk := E.nx } τ2 L2) ∧ ∀ τ L, Pv xs.length τ L → E.nx τ L
section
variable {X : Cx}
theorem qs_for {tg iter : Expr} {body : List Stmt} {wi : TI'} {g : TG'} {tb : TS'} {pos : Pos} (hp : PassesOwn (model X.prog X.w) X.A X.env X.xe) (hc : X.calm = true) (hi : QI X tg iter wi) (hg : QG X tg g) (hb : QSs X body tb)
    (hs : ∀ x, foldedSetIterable iter X.env x = pure x := by intro _; rfl) : QS X (.For tg iter body [] pos) (wFor wi g tb) := PS.str (ps_for hp hc hi hg hb hs) fun E σ H h => by
  obtain ⟨τ, L, E', a, b, c, k1, k2, k3, k4⟩ := h
  refine ⟨τ, L, _, a, b, c, fun xs st L1 J H1 q kp rh ok => ?_⟩
  obtain ⟨Pv, p0, ps, pt, pd⟩ := q
  refine ⟨fun i m σ H => m = xs.length - i ∧ i ≤ xs.length ∧ ∃ τ L, Kp H1 H ∧ RepS X.K H τ σ ∧ RepH X.K H L ∧ Pv i τ L, ⟨xs.length, by simp, Nat.zero_le _, τ, L1, Kp.refl H1, a.mono kp, rh, p0⟩, ?_⟩
  rintro i m σ2 H2 ⟨rfl, hi2, τ2, L2, kp2, rs2, rh2, p2⟩
  have s2 := ps i τ2 L2 hi2 p2
  by_cases hlt : i < xs.length
  · refine .inr ⟨ok.go i H2 L2 kp2 rh2 s2 hlt, fun σ' H' => ∃ τ L, Kp H1 H' ∧ RepS X.K H' τ σ' ∧ RepH X.K H' L ∧ Pv (i + 1) τ L, fun σ' H' p' => ⟨xs.length - (i + 1), by omega, rfl, hlt, p'⟩, fun x H' y => ?_⟩
    obtain ⟨d, ed, rd, kp3, rh3⟩ := ok.yld i H2 L2 x H' kp2 rh2 s2 hlt y
    refine ⟨d, τ2, L2, _, rd, rs2.mono kp3, rh3, pt i d τ2 L2 ed p2, fun τ4 L4 σ4 H4 q4 kp4 rh4 rs4 => ?_⟩
    have kp5 := (kp2.trans kp3).trans kp4
    have again : ∀ τ5 L5 σ5 H5, DnS (Pv (i + 1)) τ5 L5 → Kp H4 H5 → RepH X.K H5 L5 → RepS X.K H5 τ5 σ5 → ∃ τ L, Kp H1 H5 ∧ RepS X.K H5 τ σ5 ∧ RepH X.K H5 L ∧ Pv (i + 1) τ L := fun τ5 L5 σ5 H5 ⟨τ6, L6, l1, l2, q⟩ kp6 rh6 rs6 => ⟨τ6, L6, kp5.trans kp6, rs6.le l1, rh6.le l2, q⟩
    exact ⟨τ4, L4, _, rs4, rh4, q4, again, fun d L5 v H5 q5 kp6 => k2 d L5 v H5 q5 ((kp.trans kp5).trans kp6), fun τ5 L5 σ5 H5 q5 kp6 => k1 τ5 L5 σ5 H5 q5 ((kp.trans kp5).trans kp6), again⟩
  · have e : i = xs.length := by omega
    subst e
    exact .inl ⟨ok.stop _ H2 L2 kp2 rh2 s2 (Nat.le_refl _), k1 τ2 L2 σ2 H2 (pd τ2 L2 p2) (kp.trans kp2) rh2 rs2⟩
/-! ### while -/
def wWhile (c : TT') (tb : TS') : TS' := fun E τ L => ∃ Pv : Nat → S' → Lp → Prop, (∃ m, Pv m τ L) ∧ ∀ m τ L, Pv m τ L → c τ L fun b L1 => if b = true then tb { E with nx := DnS fun τ' L' => ∃ m', m' < m ∧ Pv m' τ' L', ct := DnS fun τ' L' => ∃ m', m' < m ∧ Pv m' τ' L', bk := E.nx } τ L1 else E.nx τ L1
theorem qs_while {c : Expr} {body : List Stmt} {tc : TT'} {tb : TS'} {pos : Pos} (hp : PassesOwn (model X.prog X.w) X.A X.env X.xe) (hc : QT X c tc) (hb : QSs X body tb) : QS X (.While c body [] pos) (wWhile tc tb) := PS.str (ps_while hp hc hb) fun E σ H h => by
  obtain ⟨τ, L, E', a, b, ⟨Pv, ⟨m0, p0⟩, c⟩, k1, k2, k3, k4⟩ := h
  refine ⟨fun m σ2 H2 => ∃ τ L, Kp H H2 ∧ RepS X.K H2 τ σ2 ∧ RepH X.K H2 L ∧ Pv m τ L, ⟨m0, τ, L, Kp.refl H, a, b, p0⟩, ?_⟩
  rintro m σ2 H2 ⟨τ2, L2, kp2, rs2, rh2, p2⟩
  refine ⟨τ2, L2, _, rs2, rh2, c m τ2 L2 p2, fun bb L3 H3 q3 kp3 rh3 => ?_⟩
  have kp4 := kp2.trans kp3
  cases bb with
  | true =>
    have q3 := q3
    simp only [if_true] at q3
    refine ⟨fun σ' H' => ∃ m', m' < m ∧ ∃ τ L, Kp H H' ∧ RepS X.K H' τ σ' ∧ RepH X.K H' L ∧ Pv m' τ L, fun σ' H' ⟨m', hm, q⟩ => ⟨m', hm, q⟩, ?_⟩
    have again : ∀ τ5 L5 σ5 H5, DnS (fun τ' L' => ∃ m', m' < m ∧ Pv m' τ' L') τ5 L5 → Kp H3 H5 → RepH X.K H5 L5 → RepS X.K H5 τ5 σ5 → ∃ m', m' < m ∧ ∃ τ L, Kp H H5 ∧ RepS X.K H5 τ σ5 ∧ RepH X.K H5 L ∧ Pv m' τ L := fun τ5 L5 σ5 H5 ⟨τ6, L6, l1, l2, m', hm, q⟩ kp6 rh6 rs6 => ⟨m', hm, τ6, L6, kp4.trans kp6, rs6.le l1, rh6.le l2, q⟩
    exact ⟨τ2, L3, _, rs2.mono kp3, rh3, q3, again, fun d L5 v H5 q5 kp6 => k2 d L5 v H5 q5 (kp4.trans kp6), fun τ5 L5 σ5 H5 q5 kp6 => k1 τ5 L5 σ5 H5 q5 (kp4.trans kp6), again⟩
  | false =>
    have q3 := q3
    simp only [Bool.false_eq_true, if_false] at q3
    exact k1 τ2 L3 σ2 H3 q3 kp4 rh3 (rs2.mono kp3)
end
end Z

/-! comprehensions, calls, defs by data -/
namespace Z
open PySem PySem.Spec PyProof.Rows L2 RZ
/-! ### comprehensions -/
/-- a target that stores in the slots vs alone -/
def lGv (K : PySem.W.Frag) (vs : List Nat) (g : TG') : TG := fun v σ H Q => ∃ d τ L Q', RelD K H d v ∧ RepS K H τ σ ∧ RepH K H L ∧ g d τ L Q' ∧ ∀ τ1 L1 σ1 H1, Q' τ1 L1 → Kp H H1 → RepH K H1 L1 → RepS K H1 τ1 σ1 → wipe σ1 vs = wipe σ vs → Q σ1 H1
def lGvs (K : PySem.W.Frag) (vs : List Nat) (g : TGs') : TGs := fun ws σ H Q => ∃ ds τ L Q', RelDs K H ds ws ∧ RepS K H τ σ ∧ RepH K H L ∧ g ds τ L Q' ∧ ∀ τ1 L1 σ1 H1, Q' τ1 L1 → Kp H H1 → RepH K H1 L1 → RepS K H1 τ1 σ1 → wipe σ1 vs = wipe σ vs → Q σ1 H1
def QGv (X : Cx) (vs : List Nat) (tg : Expr) (g : TG') : Prop := PG X tg (lGv X.K vs g)
def QGvs (X : Cx) (vs : List Nat) (tg : List Expr) (g : TGs') : Prop := PGs X tg (lGvs X.K vs g)
theorem wipe_set {v : Option V} : ∀ {vs : List Nat} {σ : L2.St} {i : Nat}, i ∈ vs → wipe (σ.set i v) vs = wipe σ vs
  | [], _, _, h => by simp at h
  | j :: vs, σ, i, h => by
    show (wipe (σ.set i v) vs).set j none = (wipe σ vs).set j none
    by_cases hi : i ∈ vs
    · rw [wipe_set hi]
    · have e : i = j := by
        rcases List.mem_cons.mp h with e | e
        · exact e
        · exact absurd e hi
      subst e
      have z : ∀ (us : List Nat), i ∉ us → ∀ σ : L2.St, wipe (σ.set i v) us = (wipe σ us).set i v := fun us => by
        induction us with
        | nil => intro _ σ; rfl
        | cons k us ih =>
          intro hn σ
          have hk : k ≠ i := fun z => hn (by rw [z]; exact List.mem_cons_self)
          show (wipe (σ.set i v) us).set k none = ((wipe σ us).set k none).set i v
          rw [ih (fun z => hn (List.mem_cons_of_mem _ z)) σ, List.set_comm _ _ (Ne.symm hk)]
      rw [z vs hi σ, List.set_set]
theorem wipe_sub (us : List Nat) : ∀ ws : List Nat, (∀ j ∈ ws, j ∈ us) → ∀ ρ : L2.St, wipe (wipe ρ ws) us = wipe ρ us
  | [], _, _ => rfl
  | j :: ws, hj, ρ => by
    show wipe ((wipe ρ ws).set j none) us = _
    rw [wipe_set (hj j List.mem_cons_self)]
    exact wipe_sub us ws (fun z hz => hj z (List.mem_cons_of_mem _ hz)) ρ
theorem wipe_idem (us : List Nat) (ρ : L2.St) : wipe (wipe ρ us) us = wipe ρ us := wipe_sub us us (fun _ h => h) ρ
section
variable {X : Cx} {vs : List Nat}
theorem gv_name {i : Nat} {x : Str} {pos} (hN : X.N.Nodup) (hi : X.N[i]? = some x) (hx : Loc X.env.scope x) (hv : i ∈ vs) (hf : X.fn x = true ∨ X.env.scope.names.lookup x = some .local := by first | exact .inl rfl | exact .inr rfl | assumption) : QGv X vs (.Name x pos) (hName i) :=
  PG.str (pg_name hN hi hx hf) fun v σ H Q h => by
    obtain ⟨d, τ, L, Q', rd, a, b, c, k⟩ := h
    exact k _ L _ H c (Kp.refl H) b (a.set rd i) (wipe_set hv)
theorem gv_nil : QGvs X vs [] hNil := PGs.str pgs_nil fun v σ H Q h => by
  obtain ⟨ds, τ, L, Q', rd, a, b, c, k⟩ := h
  cases ds with
  | nil => cases rd; exact ⟨rfl, k τ L σ H c (Kp.refl H) b a rfl⟩
  | cons d es => exact c.elim
theorem gv_cons {e : Expr} {es : List Expr} {t : TG'} {u : TGs'} (h1 : QGv X vs e t) (h2 : QGvs X vs es u) (hs : (assignEach (e :: es) X.env).map (·.2) = assign e X.env :: (assignEach es X.env).map (·.2) := by rfl) : QGvs X vs (e :: es) (hCons t u) := PGs.str (pgs_cons h1 h2 hs) fun v σ H Q h => by
  obtain ⟨ds, τ, L, Q', rd, a, b, c, k⟩ := h
  cases ds with
  | nil => exact c.elim
  | cons d es =>
    cases rd with
    | cons r1 r2 =>
      refine ⟨_, _, rfl, d, τ, L, _, r1, a, b, c, fun τ1 L1 σ1 H1 q kp rh rs w1 => ?_⟩
      exact ⟨es, τ1, L1, _, r2.mono kp, rs, rh, q, fun τ2 L2 σ2 H2 q2 kp2 rh2 rs2 w2 => k τ2 L2 σ2 H2 q2 (kp.trans kp2) rh2 rs2 (w2.trans w1)⟩
theorem gv_tup {es : List Expr} {k : Nat} {pos} {t : TGs'} {n : Nat} (hc : X.calm = true) (h : QGvs X vs es t) (hn : (assignEach es X.env).length = n := by rfl) (hst : (assignEach es X.env).findIdx? (·.1) = none := by rfl) : QGv X vs (.Tuple es k pos) (hTup n t) :=
  PG.str (pg_tup hc h hn hst) fun v σ H Q h => by
    obtain ⟨d, τ, L, Q', rd, a, b, c, k⟩ := h
    cases d with
    | tup ds =>
      cases rd with
      | tup hs rs => exact ⟨_, _, rfl, .inl (.inl hs), by rw [← rs.length]; exact c.1, ds, τ, L, Q', rs, a, b, c.2, k⟩
    | _ => exact c.elim
end
def wipeD (τ : S') : List Nat → S'
  | [] => τ
  | v :: vs => (wipeD τ vs).set v none
theorem RepS.none {K : PySem.W.Frag} {H : Hp} {τ : S'} {σ : L2.St} (h : RepS K H τ σ) (i : Nat) : RepS K H (τ.set i none) (σ.set i none) := by
  refine ⟨by rw [List.length_set, List.length_set]; exact h.1, fun j e q => ?_⟩
  by_cases z : i = j
  · subst z
    rw [List.getElem?_set] at q
    split at q
    · split at q <;> cases q
    · rename_i n; exact absurd rfl n
  · rw [List.getElem?_set_ne z] at q ⊢
    exact h.2 j e q
theorem RepS.wipe {K : PySem.W.Frag} {H : Hp} {τ : S'} {σ : L2.St} (h : RepS K H τ σ) : ∀ vs : List Nat, RepS K H (wipeD τ vs) (L2.wipe σ vs)
  | [] => h
  | _ :: vs => (RepS.wipe h vs).none _
def wYes : TT' := fun _ L Q => Q true L
def QTs (X : Cx) (ifs : List Expr) (t : TT') : Prop := PTs X ifs (lT X.K t)
theorem PTs.str {X : Cx} {e : List Expr} {t u : TT} (h : PTs X e t) (k : ∀ σ H Q, u σ H Q → t σ H Q) : PTs X e u := ⟨fun pins s σ H Q I q => h.run pins s σ H Q I (k σ H Q q)⟩
theorem ts_nil {X : Cx} : QTs X [] wYes := PTs.str pts_nil fun σ H Q h => by
  obtain ⟨τ, L, Q', a, b, c, k⟩ := h
  exact k _ L H c (Kp.refl H) b
theorem ts_one {X : Cx} {c : Expr} {t : TT'} (h : QT X c t) : QTs X [c] t := pts_one h
/-- [elt for g in wi if tt]: the list at p -/
def wLc (wi : TI') (g : TG') (tt : TT') (te : TE') (vs : List Nat) : TE' := fun τ L Q => wi τ L fun xs st L1 => ∀ p, L1 p = none → ∃ Pv : Nat → Lp → Prop, Pv 0 (up L1 p (.lst [])) ∧ (∀ i L, i ≤ xs.length → Pv i L → st L) ∧
  (∀ i x L, xs[i]? = some x → Pv i L → g x (wipeD τ vs) L fun τ2 L2 => tt τ2 L2 fun b L3 => if b = true then te τ2 L3 fun y L4 => ∃ acc, L4 p = some (.lst acc) ∧ acc.length < sizeLine ∧ Dn (Pv (i + 1)) (up L4 p (.lst (acc ++ [y]))) else Dn (Pv (i + 1)) L3) ∧ ∀ L, Pv xs.length L → Q (.ref p) L
section
variable {X : Cx}
theorem tLc_l {K : PySem.W.Frag} {wi : TI'} {g : TG'} {tt : TT'} {te : TE'} {vs : List Nat} (σ : L2.St) (H : Hp) (Q : VK) (h : lE K (wLc wi g tt te vs) σ H Q) : tLc (lI K wi) (lGv K vs g) (lT K tt) (lE K te) vs σ H Q := by
  obtain ⟨τ, L, Q', a, b, c, k⟩ := h
  refine ⟨τ, L, _, a, b, c, fun xs st L1 J H1 q kp rh ok => ?_⟩
  intro p np
  obtain ⟨Pv, p0, ps, pt, pd⟩ := q p (rh.no np)
  have kn : Kp H1 (upd H1 p (.lst [])) := Kp.new np
  refine ⟨fun i m H => m = xs.length - i ∧ i ≤ xs.length ∧ ∃ L, Kp H1 H ∧ RepH K H L ∧ Pv i L, ⟨xs.length, by simp, Nat.zero_le _, Z.up L1 p (.lst []), kn, rh.new np (o' := .lst []) ⟨[], upd_same, .nil⟩, p0⟩, ?_⟩
  rintro i m H2 ⟨rfl, hi2, L2, kp2, rh2, p2⟩
  have s2 := ps i L2 hi2 p2
  by_cases hlt : i < xs.length
  · refine .inr ⟨ok.go i H2 L2 kp2 rh2 s2 hlt, fun H' => ∃ L, Kp H1 H' ∧ RepH K H' L ∧ Pv (i + 1) L, fun H' p' => ⟨xs.length - (i + 1), by omega, rfl, hlt, p'⟩, fun x H' y => ?_⟩
    obtain ⟨d, ed, rd, kp3, rh3⟩ := ok.yld i H2 L2 x H' kp2 rh2 s2 hlt y
    have rs3 : RepS K H' (wipeD τ vs) (wipe σ vs) := (a.wipe vs).mono (kp.trans (kp2.trans kp3))
    refine ⟨d, wipeD τ vs, L2, _, rd, rs3, rh3, pt i d L2 ed p2, fun τ4 L4 σ4 H4 q4 kp4 rh4 rs4 w4 => ⟨?_, ?_⟩⟩
    · rw [w4]
      exact wipe_idem vs σ
    · refine ⟨τ4, L4, _, rs4, rh4, q4, fun bb L5 H5 q5 kp5 rh5 => ?_⟩
      have kp6 := ((kp2.trans kp3).trans kp4).trans kp5
      cases bb with
      | true =>
        simp only [if_true] at q5 ⊢
        refine ⟨τ4, L5, _, rs4.mono kp5, rh5, q5, fun y L6 v H6 q6 kp7 rh6 ry => ?_⟩
        obtain ⟨acc, ea, za, L7, l7, q7⟩ := q6
        obtain ⟨ws, e2, r⟩ := rh6 _ _ ea
        obtain ⟨kp8, rh8⟩ := put_lst rh6 e2 (r.app (.cons ry .nil))
        exact ⟨ws, e2, by rw [← r.length]; exact za, L7, (kp6.trans kp7).trans kp8, rh8.le l7, q7⟩
      | false =>
        simp only [Bool.false_eq_true, if_false] at q5 ⊢
        obtain ⟨L7, l7, q7⟩ := q5
        exact ⟨L7, kp6, rh5.le l7, q7⟩
  · have e : i = xs.length := by omega
    subst e
    exact .inl ⟨ok.stop _ H2 L2 kp2 rh2 s2 (Nat.le_refl _), k _ L2 _ H2 (pd L2 p2) (kp.trans kp2) rh2 (.ref p)⟩
theorem q_lc {elt tg iter : Expr} {ifs : List Expr} {scope : Scope} (own : List (Str × Nat)) {pos : Pos} {wi : TI'} {g : TG'} {tt : TT'} {te : TE'} (hc : X.calm = true) (hN : X.N.Nodup) (hi : QI X tg iter wi) (ok : BlkOk X.N X.env.scope scope own)
    (hg : ∀ (s : Shared) (H : Hp) (C : Addr) (cl : List (Str × Addr)) (fp : List Addr), QGv (X.blk s H scope (compEnvC scope cl C X.env) fp) (own.map (·.2)) tg g) (ht : ∀ (s : Shared) (H : Hp) (C : Addr) (cl : List (Str × Addr)) (fp : List Addr), QTs (X.blk s H scope (compEnvC scope cl C X.env) fp) ifs tt)
    (he : ∀ (s : Shared) (H : Hp) (C : Addr) (cl : List (Str × Addr)) (fp : List Addr), QE (X.blk s H scope (compEnvC scope cl C X.env) fp) elt te) (hs : ∀ x, foldedSetIterable iter X.env x = pure x := by intro _; rfl) :
    QE X (.ListComp elt [⟨tg, iter, ifs, 0⟩] scope pos) (wLc wi g tt te (own.map (·.2))) := PE.str (pe_lc (g := lGv X.K (own.map fun x : Str × Nat => x.2) g) (tt := lT X.K tt) (te := lE X.K te) hc hN hi ok hg ht he hs) tLc_l
theorem qs_setLc {i : Nat} {y : Str} {py : Pos} {elt tg iter : Expr} {ifs : List Expr} {scope : Scope} (own : List (Str × Nat)) {pos spos : Pos} {wi : TI'} {g : TG'} {tt : TT'} {te : TE'} (hc : X.calm = true) (hN : X.N.Nodup) (hy : X.N[i]? = some y) (hyl : X.env.scope.names.lookup y = some .local)
    (hsw : swapsWith (.ListComp elt [⟨tg, iter, ifs, 0⟩] scope pos) (some (.Name y py)) spos.line X.env = pure true) (hi : QI X tg iter wi) (ok : BlkOk X.N X.env.scope scope own)
    (hg : ∀ (s : Shared) (H : Hp) (C : Addr) (cl : List (Str × Addr)) (fp : List Addr), QGv (X.blk s H scope (compEnvC scope cl C X.env) fp) (own.map (·.2)) tg g) (ht : ∀ (s : Shared) (H : Hp) (C : Addr) (cl : List (Str × Addr)) (fp : List Addr), QTs (X.blk s H scope (compEnvC scope cl C X.env) fp) ifs tt)
    (he : ∀ (s : Shared) (H : Hp) (C : Addr) (cl : List (Str × Addr)) (fp : List Addr), QE (X.blk s H scope (compEnvC scope cl C X.env) fp) elt te) (hs : ∀ x, foldedSetIterable iter X.env x = pure x := by intro _; rfl) :
    QS X (.Assign [.Name y py] (.ListComp elt [⟨tg, iter, ifs, 0⟩] scope pos) spos) (wAsg (wLc wi g tt te (own.map (·.2))) (hName i)) := PS.str (ps_setLc (g := lGv X.K (own.map fun x : Str × Nat => x.2) g) (tt := lT X.K tt) (te := lE X.K te) hc hN hy hyl hsw hi ok hg ht he hs) fun E σ H h => by
  obtain ⟨τ, L, E', a, b, c, k1, k2, k3, k4⟩ := h
  refine tLc_l (wi := wi) (g := g) (tt := tt) (te := te) σ H (fun x H1 => gName i x σ H1 E.nx) ?_
  exact ⟨τ, L, _, a, b, c, fun d L1 v H1 q kp rh rd => k1 _ L1 _ H1 q kp rh ((a.mono kp).set rd i)⟩
end
/-! ### defs -/
/-- what is wanted of an exception: its class, its fields -/
abbrev XK' := Addr → List (Str × D) → Lp → Prop
def X0 : XK' := fun _ _ _ => False
abbrev Sp' := List D → Lp → VK' → XK' → Prop
def ExcAt (K : PySem.W.Frag) (H : Hp) (L : Lp) (od : Option Addr) (fs : List (Str × D)) : Prop := (od = none ∧ fs = []) ∨ ∃ d gs, od = some d ∧ L d = none ∧ H d = some (.xd gs) ∧ RelK K H fs gs ∧ fs ≠ []
def lSp (K : PySem.W.Frag) (sp : Sp') : Sp := fun vs H Q E => ∃ ds L Q' E', RelDs K H ds vs ∧ RepH K H L ∧ sp ds L Q' E' ∧ (∀ d L1 v H1, Q' d L1 → Kp H H1 → RepH K H1 L1 → RelD K H1 d v → Q v H1) ∧
  ∀ C fs L1 od H1, E' C fs L1 → Kp H H1 → RepH K H1 L1 → ExcAt K H1 L1 od fs → E (.ref C) od H1
def start' (N : List Str) (ds : List D) : S' := ds.map some ++ List.replicate (N.length - ds.length) none
theorem start_rep {K : PySem.W.Frag} {H : Hp} {ds : List D} {vs : List V} (r : RelDs K H ds vs) (N : List Str) : RepS K H (start' N ds) (L2.start N vs) := by
  refine ⟨by simp [start', L2.start, r.length], fun i d e => ?_⟩
  unfold start' at e
  unfold L2.start
  by_cases hi : i < ds.length
  · rw [List.getElem?_append_left (by simpa using hi)] at e
    rw [List.getElem?_append_left (by simpa [← r.length] using hi)]
    rw [List.getElem?_map] at e ⊢
    cases q : ds[i]? with
    | none => rw [q] at e; cases e
    | some d' =>
      rw [q] at e
      cases e
      obtain ⟨v, e2, rr⟩ := r.get q
      exact ⟨v, by rw [e2]; rfl, rr⟩
  · rw [List.getElem?_append_right (by simp; omega)] at e
    rw [List.getElem?_replicate] at e
    split at e <;> cases e
section
variable {P : Program} {w : World} {K : PySem.W.Frag} {mg : Str → Option Value} {base : Heap} {x qual : Str} {params : Arguments} {body : List Stmt} {scope : Scope} {dvs : List V} {kws : List (Str × V)} {f : Addr} {fd : FuncData}
/-- a def that lets nothing out -/
theorem okD {N ps : List Str} {k : Nat} {sp : Sp'} {t : TS'} (F : FunD K x qual params body scope dvs kws f fd) (S : FnScope N ps scope) (len : ∀ ds L Q E, sp ds L Q E → ds.length = ps.length)
    (hb : ∀ (cdv : Value) (A : Around) (outer : List Env) (s : Shared) (H : Hp) (E : XK), Room k (A.deeper (envOfC qual scope s.heap.objs.size f cdv)) → QSs (cxOf CX0 P w K mg base N qual scope f cdv A outer s H E) body t)
    (hs : ∀ ds L Q E, sp ds L Q E → t { nx := fun _ L1 => Dn (Q .non) L1, rt := fun d L1 => Dn (Q d) L1 } (start' N ds) L) : FnOk P w K mg base CX0 (k + 1) f fd ps (lSp K sp) := by
  refine F.ok S (fun vs H Q E h => ?_) (fun cdv A outer s H vs Q E hr h => ⟨_, hb cdv A outer s H E hr, ?_⟩)
  · obtain ⟨ds, L, Q', E', r, _, q, _⟩ := h
    rw [← r.length]
    exact len _ _ _ _ q
  · obtain ⟨ds, L, Q', E', r, rh, q, k1, k2⟩ := h
    refine ⟨start' N ds, L, _, start_rep r N, rh, hs _ _ _ _ q, ?_, ?_, fun _ _ _ _ z => z.elim, fun _ _ _ _ z => z.elim⟩
    · rintro τ1 L1 σ1 H1 ⟨L2, l, q2⟩ kp rh1 _
      exact k1 _ L2 _ H1 q2 kp (rh1.le l) .non
    · rintro d L1 v H1 ⟨L2, l, q2⟩ kp rh1 rd
      exact k1 _ L2 _ H1 q2 kp (rh1.le l) rd
end
/-- f(e, ..) -/
def wCall (sp : Sp') (es : List D) (E : XK') (t : TA') : TE' := fun τ L Q => t τ L fun ds L1 => sp (ds ++ es) L1 Q E
section
variable {X : Cx} {k : Nat} {f : Addr} {fd : FuncData} {ps : List Str} {sp : Sp'} {x : Str} {p pos : Pos} {e : Expr} {es : List Expr} {t : TA'}
theorem tCall_l {K : PySem.W.Frag} {n : Nat} {E : XK} {E' : XK'} {des : List D} {dvs : List V} (hd : ∀ H, RelDs K H des dvs) (hE : ∀ C fs L1 od H1, E' C fs L1 → RepH K H1 L1 → ExcAt K H1 L1 od fs → E (.ref C) od H1) (σ : L2.St) (H : Hp) (Q : VK) (h : lE K (wCall sp des E' t) σ H Q) : tCall (lSp K sp) dvs E (lA K n t) σ H Q := by
  obtain ⟨τ, L, Q', a, b, c, k⟩ := h
  refine ⟨τ, L, _, a, b, c, fun ds L1 vs H1 q hl kp rh rd => ?_⟩
  exact ⟨ds ++ des, L1, Q', E', rd.app (hd H1), rh, q, fun d L2 v H2 q2 kp2 => k d L2 v H2 q2 (kp.trans kp2), fun C fs L2 od H2 q2 kp2 rh2 ex => hE C fs L2 od H2 q2 rh2 ex⟩
theorem q_call (F : FnOk X.prog X.w X.K X.mg X.base CX0 k f fd ps (lSp X.K sp)) (hr : Room k X.A) (hg : Gl X x) (hm : X.mg x = some (.ref f)) (hk : PySem.W.keepIn X.K (.ref f) = true) (hb : Binds X.K fd ps []) (ha : QA X (e :: es) t)
    (hdb : (x == ("__debug__" : Str)) = false := by decide) (he : starEach (e :: es) X.env = (false, eval e X.env) :: starEach es X.env := by rfl) (hpl : (backTo pos (starEach es X.env)).any (·.1) = false := by rfl) :
    QE X (.Call (.Name x p) (e :: es) [] pos) (wCall sp [] X0 t) := PE.str (pe_call F hr hg hm hk hb .nil pass0 ha hdb he hpl) (tCall_l (fun _ => .nil) fun _ _ _ _ _ z => z.elim)
theorem q_call0 (F : FnOk X.prog X.w X.K X.mg X.base CX0 k f fd ps (lSp X.K sp)) (hr : Room k X.A) (hg : Gl X x) (hm : X.mg x = some (.ref f)) (hk : PySem.W.keepIn X.K (.ref f) = true) (hb : Binds X.K fd ps [])
    (hdb : (x == ("__debug__" : Str)) = false := by decide) : QE X (.Call (.Name x p) [] [] pos) (wCall sp [] X0 wNil) := PE.str (pe_call0 F hr hg hm hk hb .nil pass0 hdb) fun σ H Q h => by
  obtain ⟨τ, L, Q', a, b, c, k⟩ := h
  exact ⟨[], L, Q', X0, .nil, b, c, k, fun _ _ _ _ _ z => z.elim⟩
end
end Z

/-! the rest of the rules by data -/
namespace Z
open PySem PySem.Spec PyProof.Rows L2 RZ
theorem hu64 {k : Nat} {A : Around} (h : Room k A) : A.units + 64 < cLine := by have := h.un; omega
theorem l_lt {K : PySem.W.Frag} : LR2 K ltD (rI0 fun i j => .bl (decide (i < j))) := l_int0 fun _ _ _ => .bl _
theorem l_le {K : PySem.W.Frag} : LR2 K leD (rI0 fun i j => .bl (decide (i ≤ j))) := l_int0 fun _ _ _ => .bl _
theorem l_gt {K : PySem.W.Frag} : LR2 K gtD (rI0 fun i j => .bl (decide (i > j))) := l_int0 fun _ _ _ => .bl _
theorem l_ge {K : PySem.W.Frag} : LR2 K geD (rI0 fun i j => .bl (decide (i ≥ j))) := l_int0 fun _ _ _ => .bl _
theorem l_mul {K : PySem.W.Frag} : LR2 K mulD rMulG := fun d e L v u H Q Q' rd re rh q k => by
  unfold mulD at q
  cases d <;> cases e <;> try exact q.elim
  case int.int i j => cases rd; cases re; exact .inl ⟨i, j, rfl, rfl, q.1, k _ L _ H q.2 (Kp.refl H) rh (.int _)⟩
  case ref.int a n =>
    cases rd; cases re
    obtain ⟨xs, e1, z1, z2, z3, q⟩ := q
    obtain ⟨vs, h1, r1⟩ := rh _ _ e1
    refine .inr ⟨_, n, vs, rfl, rfl, h1, z1, z2, by rw [← r1.length]; exact z3, fun p np => ?_⟩
    exact k _ _ _ _ (q p (rh.no np)) (Kp.new np) (rh.new np ⟨_, upd_same, (r1.rep _).mono (Kp.new np)⟩) (.ref p)
theorem l_insert {K : PySem.W.Frag} : LRM K "list" insertD (fun x vs H Q => ∃ (l : Addr) (xs : List V) (i : Int) (y : V), x = .ref l ∧ vs = [.int i, y] ∧ H l = some (.lst xs) ∧ xs.length < sizeLine ∧ 0 ≤ i ∧ i < 2 ^ 63 ∧
    Q .non (upd H l (.lst (xs.take i.toNat ++ [y] ++ xs.drop i.toNat)))) := fun d ds L v vs H Q Q' rd rds rh q k => by
  unfold insertD at q
  split at q
  · rename_i a i e
    obtain ⟨xs, e1, z, z0, z1, q⟩ := q
    obtain ⟨ws, e2, r⟩ := rh _ _ e1
    cases rd
    cases rds with
    | cons r1 r2 =>
      cases r1
      cases r2 with
      | cons r2 r3 =>
        cases r3
        have en : min i.toNat xs.length = min i.toNat ws.length := by rw [r.length]
        have t1 : ws.take i.toNat = ws.take (min i.toNat ws.length) := by
          by_cases c : i.toNat ≤ ws.length
          · rw [Nat.min_eq_left c]
          · rw [Nat.min_eq_right (by omega), List.take_of_length_le (by omega), List.take_of_length_le (Nat.le_refl _)]
        have t2 : ws.drop i.toNat = ws.drop (min i.toNat ws.length) := by
          by_cases c : i.toNat ≤ ws.length
          · rw [Nat.min_eq_left c]
          · rw [Nat.min_eq_right (by omega), List.drop_of_length_le (by omega), List.drop_of_length_le (Nat.le_refl _)]
        obtain ⟨kp, rh2⟩ := put_lst (ws := ws.take i.toNat ++ [_] ++ ws.drop i.toNat) rh e2 (by
          rw [t1, t2, ← en, List.append_assoc]
          exact (r.take _).app (.cons r2 (r.drop _)))
        exact ⟨a, ws, i, _, rfl, rfl, e2, by rw [← r.length]; exact z, z0, z1, k _ _ _ _ q kp rh2 .non⟩
  · exact q.elim
/-- isinstance(x, T) -/
abbrev isiW (T : String) : RA' := fun ds L Q => match ds with
  | [d, .ty T'] => T' = T ∧ isiD T [d, .ty T'] L Q
  | _ => False
/-- isinstance(x, (S, T)) -/
def rIsiA (K : PySem.W.Frag) : List V → Hp → VK → Prop := fun xs H Q => ∃ (x : V) (tp : Addr) (cs : List V) (t : Value) (us : List Value) (b : Bool), xs = [x, .ref tp] ∧ SqT K H tp cs ∧ Paired ClsV cs us ∧ TyX K H x t ∧ PySem.W.kitAny K t us = some b ∧ Q (.bl b) H
theorem call_isiA {X : Cx} : CallR X (.builtin "isinstance") (rIsiA X.K) := by
  intro pins s σ H xs us Q I r h
  obtain ⟨x, tp, cs, t, ws, b, rfl, hT, k, ty, e, q⟩ := h
  obtain ⟨u1, u2, rfl, r1, r2⟩ := vals2 r
  cases (show u2 = Value.ref tp from r2)
  obtain ⟨P, Z, p, hx⟩ := kit_of I r1 ty
  obtain ⟨its, rv, ht, _⟩ := I.tuple hT
  obtain ⟨o, h1, h2, n, h3⟩ := ht
  have e3 := ClsV.all k rv
  subst e3
  obtain ⟨oc, od, dt, sl⟩ := o
  simp only at h2 h3
  subst h2 h3
  exact PySem.W.kia_tup Z I.kIn p h1 e hx fun tk => ⟨.bl b, H, I.tok tk, rfl, q⟩
def isiV (n T : String) : Bool := n == T || (n == "bool" && T == "int")
def isi2D : RA' := fun ds L Q => match ds with
  | [d, .tup [.ty S, .ty T]] => tyK (tyD d L) fun n => S ∈ ["bool", "int", "str", "tuple", "list", "dict"] ∧ T ∈ ["bool", "int", "str", "tuple", "list", "dict"] ∧ Q (.bl (isiV n S || isiV n T)) L
  | _ => False
theorem l_isi2 {K : PySem.W.Frag} : LRA K isi2D (rIsiA K) := fun ds L vs H Q Q' rd rh q k => by
  unfold isi2D at q
  split at q
  · rename_i d S T
    cases et : tyD d L with
    | none => rw [et] at q; exact q.elim
    | some n =>
      rw [et] at q
      obtain ⟨hS, hT, q⟩ := q
      cases rd with
      | cons r1 r2 =>
        cases r2 with
        | cons r2 r3 =>
          cases r3
          cases r2 with
          | tup s r =>
            cases r with
            | cons c1 r =>
              cases r with
              | cons c2 r =>
                cases r; cases c1; cases c2
                refine ⟨_, _, _, _, _, _, rfl, .inl (.inl s), .cons (.ty _) (.cons (.ty _) .nil), tyD_rel rh r1 et, ?_, k _ L _ H q (Kp.refl H) rh (.bl _)⟩
                have e1 := kit_ty (K := K) (isi_tab n S (tyD_mem et) hS)
                have e2 := kit_ty (K := K) (isi_tab n T (tyD_mem et) hT)
                refine kitAny_cons e1 (fun h => ?_) (fun h => by show (isiV n S || isiV n T) = true; rw [show isiV n S = true from h]; rfl)
                refine kitAny_cons e2 (fun h2 => ?_) (fun h2 => by show (isiV n S || isiV n T) = true; rw [show isiV n T = true from h2, Bool.or_true])
                rw [kitAny_nil, show isiV n S = false from h, show isiV n T = false from h2]
                rfl
  · exact q.elim
/-- gcd -/
def gcdD : RA' := fun ds L Q => match ds with
  | [.int a, .int b] => Q (.int ((Nat.gcd a.natAbs b.natAbs : Nat) : Int)) L
  | _ => False
theorem q_gcd {X : Cx} {e : Expr} {es : List Expr} {p pos : Pos} {t : TA'} (hm : X.mg "gcd" = some (.builtin "math.gcd")) (ha : QA X (e :: es) t) (hg : Gl X "gcd" := by rfl)
    (he : starEach (e :: es) X.env = (false, eval e X.env) :: starEach es X.env := by rfl) (hpl : (backTo pos (starEach es X.env)).any (·.1) = false := by rfl) : QE X (.Call (.Name "gcd" p) (e :: es) [] pos) (wCB gcdD t) :=
  PE.str (pe_callBfun cr_gcd hg hm ha (by decide) he hpl) (tCB_l fun ds L vs H Q Q' rd rh q k => by
    unfold gcdD at q
    split at q
    · cases rd with
      | cons r1 r2 =>
        cases r1
        cases r2 with
        | cons r2 r3 => cases r2; cases r3; exact ⟨_, _, rfl, k _ L _ H q (Kp.refl H) rh (.int _)⟩
    · exact q.elim)
/-- a constant of the module's -/
theorem q_gint {X : Cx} {x : Str} {i : Int} {pos : Pos} (hm : ∃ t, X.mg x = some (.int i t)) (hg : Gl X x := by rfl) (hd : (x == ("__debug__" : Str)) = false := by decide) : QE X (.Name x pos) (wC (.int i)) := by
  obtain ⟨t, h⟩ := hm
  exact qcon (.int i) (pe_glob (v := .int i) hg h ⟨t, rfl⟩ hd) fun _ => .int i
/-- where a def stands: its function object -/
def fdAt (K : PySem.W.Frag) (p : Str × Option Str) : FuncData := match K.lookup (He.fAd K p) with
  | some ⟨_, _, .func fd, _⟩ => fd
  | _ => ⟨"", "", ⟨[], [], none, [], [], none, []⟩, .stmts [], ⟨.function, [], false, false, []⟩, 0, [], .none, .none, .none, .none, none, .none, .none, 0⟩
theorem fun_at {K : PySem.W.Frag} {d : He.DefD} (h : ∃ fd, FunD K d.name d.qual d.params d.body d.scope (d.dvs K) (d.kws K) (He.fAd K d.at_) fd) : FunD K d.name d.qual d.params d.body d.scope (d.dvs K) (d.kws K) (He.fAd K d.at_) (fdAt K d.at_) := by
  obtain ⟨fd, h⟩ := h
  obtain ⟨oc, od, dV, kV, doc, pm, an, cdv, ct, osl, e, lk, r⟩ := id h.ex
  have z : fdAt K d.at_ = fd := by unfold fdAt; rw [lk]
  rw [z]
  exact h
/-- the head's facts, one Bool more -/
abbrev AlE : Type := He.AlD × Bool
def obsEG (n : Nat) (fa : List He.Fa) (fn : List He.DefD) (ex : PySem.W.Frag → Bool) (g : Addr → Option Obj) : AlE := (He.obsD fa fn (He.frG g (He.asD g n)), ex (He.frG g (He.asD g n)))
def hookE (n : Nat) (fa : List He.Fa) (fn : List He.DefD) (ex : PySem.W.Frag → Bool) : PySem.W.Hook where
  α := AlE
  obs := fun s => obsEG n fa fn ex s.heap.get?
  val := fun _ => (He.valD fn, true)
  says := fun _ h => ∃ K : PySem.W.Frag, K.In h ∧ He.SaysD fa fn K ∧ ex K = true
  of := fun _ _ e => ⟨_, He.frG_in, congrArg (fun z : AlE => z.1) e, congrArg (fun z : AlE => z.2) e⟩
  keeps := fun _ _ _ ⟨K, hK, c⟩ k => ⟨K, PySem.W.Frag.In.keeps hK k, c⟩
theorem obsEG_eq {n : Nat} {fa : List He.Fa} {fn : List He.DefD} {ex : PySem.W.Frag → Bool} {g : Addr → Option Obj} {s : Shared} (h : ∀ a, g a = s.heap.get? a) : obsEG n fa fn ex g = (hookE n fa fn ex).obs s := by
  have e : g = s.heap.get? := funext h
  rw [e] <;> rfl
/-- what the head tells -/
structure Cn (fa : List He.Fa) (fn : List He.DefD) (ex : PySem.W.Frag → Bool) (K : PySem.W.Frag) (mg : Str → Option Value) : Prop where
  says : ∃ h : Heap, K.In h ∧ h.Ns mainGlobals mg ∧ He.SaysD fa fn K ∧ ex K = true
section
variable {fa : List He.Fa} {fn : List He.DefD} {ex : PySem.W.Frag → Bool} {K : PySem.W.Frag} {mg : Str → Option Value}
theorem Cn.fact (C : Cn fa fn ex K mg) (i : Nat) {f : He.Fa} (h : fa[i]? = some f := by rfl) : f.ok K = true := by
  obtain ⟨hp, X, G, c, _⟩ := C.says
  exact c.fact i h
theorem Cn.glo (C : Cn fa fn ex K mg) (i : Nat) {x : Str} (h : fa[i]? = some (.glo x) := by rfl) : mg x = some (.ref (He.ga K x)) := by
  obtain ⟨hp, X, G, c, _⟩ := C.says
  exact He.glo_ok X G (c.fact i h)
theorem Cn.free (C : Cn fa fn ex K mg) (i : Nat) {x : Str} (h : fa[i]? = some (.free x) := by rfl) : mg x = none := by
  obtain ⟨hp, X, G, c, _⟩ := C.says
  exact He.free_ok X G (c.fact i h)
theorem Cn.int (C : Cn fa fn ex K mg) (i : Nat) {x : Str} {n : Int} (h : fa[i]? = some (.int x n) := by rfl) : ∃ t, mg x = some (.int n t) := by
  obtain ⟨hp, X, G, c, _⟩ := C.says
  exact He.int_ok X G (c.fact i h)
theorem Cn.def_ (C : Cn fa fn ex K mg) (i : Nat) {d : He.DefD} (h : fn[i]? = some d := by rfl) : FunD K d.name d.qual d.params d.body d.scope (d.dvs K) (d.kws K) (He.fAd K d.at_) (fdAt K d.at_) := by
  obtain ⟨hp, X, G, c, _⟩ := C.says
  exact fun_at (c.def_ i h)
theorem Cn.more (C : Cn fa fn ex K mg) : ex K = true := by
  obtain ⟨hp, X, G, c, e⟩ := C.says
  exact e
/-- the module's name for a function of another module -/
def extB (K : PySem.W.Frag) (x : Str) (id : String) : Bool := decide (PySem.W.nsIn K mainGlobals x = some (some (.builtin id)))
theorem Cn.ext (C : Cn fa fn ex K mg) {x : Str} {id : String} (h : extB K x id = true) : mg x = some (.builtin id) := by
  obtain ⟨hp, X, G, c, _⟩ := C.says
  exact PySem.W.mg_of X G (of_decide_eq_true h)
end
end Z

/-! readings, computed -/
namespace Z
open PySem PySem.Spec PyProof.Rows L2 RZ
section
variable {L : Lp} {Q : VK'} {R : Bool → Lp → Prop} {a b : Addr} {ds es : List D} {i j : Int} {neg : Bool}
theorem blK_bl {c : Bool} : blK (.bl c) L R = R c L := rfl
theorem tupK_tup {P : List D → Prop} : tupK (.tup ds) P = P ds := rfl
theorem pairK_2 {x y : D} {P : D → D → Prop} : pairK [x, y] P = P x y := rfl
theorem inK_int {P : Int → Prop} : inK (.int i) P = P i := rfl
theorem truD_bl {c : Bool} : truD (.bl c) L R = R c L := rfl
theorem truD_int : truD (.int i) L R = R (i != 0) L := rfl
theorem truD_non : truD .non L R = R false L := rfl
theorem truD_tup : truD (.tup ds) L R = R (!ds.isEmpty) L := rfl
theorem isn_non : isnD neg .non .non L Q = Q (.bl (!neg)) L := rfl
theorem isn_int : isnD neg (.int i) .non L Q = Q (.bl neg) L := rfl
theorem isn_bl {c : Bool} : isnD neg (.bl c) .non L Q = Q (.bl neg) L := rfl
theorem isn_str {x : Str} : isnD neg (.str x) .non L Q = Q (.bl neg) L := rfl
theorem isn_tup : isnD neg (.tup ds) .non L Q = Q (.bl neg) L := rfl
theorem isn_ref : isnD neg (.ref a) .non L Q = Q (.bl neg) L := rfl
theorem add_int : addD (.int i) (.int j) L Q = Q (.int (i + j)) L := rfl
theorem add_tup : addD (.tup ds) (.tup es) L Q = (ds.length + es.length ≤ sizeLine ∧ Q (.tup (ds ++ es)) L) := rfl
theorem add_ref : addD (.ref a) (.ref b) L Q = ∃ xs ys, L a = some (.lst xs) ∧ L b = some (.lst ys) ∧ xs.length + ys.length ≤ sizeLine ∧ ∀ p, L p = none → Q (.ref p) (up L p (.lst (xs ++ ys))) := rfl
theorem intD_eq {C : Int → Int → Prop} {g : Int → Int → D} : intD C g (.int i) (.int j) L Q = (C i j ∧ Q (g i j) L) := rfl
theorem intD0_eq {g : Int → Int → D} : intD0 g (.int i) (.int j) L Q = Q (g i j) L := rfl
theorem mul_int : mulD (.int i) (.int j) L Q = (CMulW i j ∧ Q (.int (i * j)) L) := rfl
theorem eq_int : eqD false (.int i) (.int j) L Q = Q (.bl (decide (i = j))) L := rfl
theorem ne_int : eqD true (.int i) (.int j) L Q = Q (.bl (!decide (i = j))) L := rfl
theorem eq_bl {c d : Bool} : eqD false (.bl c) (.bl d) L Q = Q (.bl (decide (c = d))) L := rfl
theorem ne_bl {c d : Bool} : eqD true (.bl c) (.bl d) L Q = Q (.bl (!decide (c = d))) L := rfl
theorem eq_str {c d : Str} : eqD false (.str c) (.str d) L Q = Q (.bl (decide (c = d))) L := rfl
theorem ne_str {c d : Str} : eqD true (.str c) (.str d) L Q = Q (.bl (!decide (c = d))) L := rfl
theorem eq_non : eqD neg .non .non L Q = Q (.bl (!neg)) L := rfl
theorem eq_tup : eqD neg (.tup ds) (.tup es) L Q = eqDeep neg (.tup ds) (.tup es) L Q := rfl
theorem eq_ref : eqD neg (.ref a) (.ref b) L Q = eqDeep neg (.ref a) (.ref b) L Q := rfl
theorem neg_int : negD (.int i) L Q = Q (.int (-i)) L := rfl
theorem seq_tup : seqD (.tup ds) L = some ds := rfl
theorem seq_ilst : seqD (.ilst ds) L = some ds := rfl
theorem seq_ref (h : L a = some (.lst ds)) : seqD (.ref a) L = some ds := by unfold seqD; simp only [h]
theorem ix_tup : ixD (.tup ds) (.int i) L Q = atK (some ds) i fun x => Q x L := rfl
theorem ix_int {d : D} : ixD d (.int i) L Q = atK (seqD d L) i fun x => Q x L := rfl
theorem sqK_some {P : List D → Prop} : sqK (some ds) P = P ds := rfl
theorem ixK_0 {x : D} {P : D → Prop} : ixK (some (x :: ds)) 0 P = P x := rfl
theorem ixK_s {x : D} {n : Nat} {P : D → Prop} : ixK (some (x :: ds)) (n + 1) P = ixK (some ds) n P := rfl
theorem atK_at {x : D} {P : D → Prop} (h : atI ds i = some x) (p : P x) : atK (some ds) i P := by
  unfold atK
  simp only [h]
  exact p
theorem tyK_some {n : String} {P : String → Prop} : tyK (some n) P = P n := rfl
theorem ty_non : tyD .non L = some "NoneType" := rfl
theorem ty_bl {c : Bool} : tyD (.bl c) L = some "bool" := rfl
theorem ty_int : tyD (.int i) L = some "int" := rfl
theorem ty_str {x : Str} : tyD (.str x) L = some "str" := rfl
theorem ty_tup : tyD (.tup ds) L = some "tuple" := rfl
theorem ty_ilst : tyD (.ilst ds) L = some "list" := rfl
theorem ty_ref (h : L a = some (.lst ds)) : tyD (.ref a) L = some "list" := by unfold tyD; simp only [h]
theorem isi_eq {T : String} {d : D} {T' : String} : isiD T [d, .ty T'] L Q = tyK (tyD d L) fun n => Q (.bl (n == T || (n == "bool" && T == "int"))) L := rfl
theorem isi2_eq {d : D} {S T : String} : isi2D [d, .tup [.ty S, .ty T]] L Q = tyK (tyD d L) fun n => S ∈ ["bool", "int", "str", "tuple", "list", "dict"] ∧ T ∈ ["bool", "int", "str", "tuple", "list", "dict"] ∧ Q (.bl (isiV n S || isiV n T)) L := rfl
theorem len_seq {d : D} {xs : List D} (h : seqD d L = some xs) : lenD [d] L Q = Q (.int xs.length) L := by
  unfold lenD
  split
  · rename_i e
    cases e
    cases h
  · rename_i e
    cases e
    simp only [h, sqK]
  · rename_i z1 z2
    exact absurd rfl (z2 d)
theorem len_tup : lenD [.tup ds] L Q = Q (.int ds.length) L := rfl
theorem intc_int : intcD [.int i] L Q = Q (.int i) L := rfl
theorem abs_int : absD [.int i] L Q = Q (.int (if i < 0 then -i else i)) L := rfl
theorem gcd_int : gcdD [.int i, .int j] L Q = Q (.int ((Nat.gcd i.natAbs j.natAbs : Nat) : Int)) L := rfl
theorem list_seq {d : D} : listD [d] L Q = sqK (seqD d L) fun xs => ∀ p, L p = none → Q (.ref p) (up L p (.lst xs)) := rfl
theorem tuple_seq {d : D} : tupleD [d] L Q = sqK (seqD d L) fun xs => Q (.tup xs) L := rfl
theorem all_ref {f : List Bool → Bool} : allD f [.ref a] L Q = ∃ bs : List Bool, L a = some (.lst (bs.map D.bl)) ∧ Q (.bl (f bs)) L := rfl
theorem sum_ref : sumD [.ref a] L Q = ∃ ns : List Int, L a = some (.lst (ns.map D.int)) ∧ Q (.int ns.sum) L := rfl
theorem sl_tup {lo hi : Option Int} : slD (.tup ds) lo hi L Q = Q (.tup (cutD ds lo hi)) L := rfl
theorem sl_ilst {lo hi : Option Int} : slD (.ilst ds) lo hi L Q = ∀ p, L p = none → Q (.ref p) (up L p (.lst (cutD ds lo hi))) := rfl
theorem sl_ref {lo hi : Option Int} : slD (.ref a) lo hi L Q = ∃ ds, L a = some (.lst ds) ∧ ∀ p, L p = none → Q (.ref p) (up L p (.lst (cutD ds lo hi))) := rfl
theorem walk_tup {P : List D → (Lp → Prop) → Lp → Prop} : walkK (.tup ds) L P = P ds (fun _ => True) L := rfl
theorem walk_ilst {P : List D → (Lp → Prop) → Lp → Prop} : walkK (.ilst ds) L P = P ds (fun _ => True) L := rfl
theorem walk_ref {P : List D → (Lp → Prop) → Lp → Prop} : walkK (.ref a) L P = ∃ ds, L a = some (.lst ds) ∧ P ds (fun L => L a = some (.lst ds)) L := rfl
theorem en_ref {P : List D → (Lp → Prop) → Lp → Prop} : enK (.ref a) L P = ∃ ds, L a = some (.lst ds) ∧ P (enD 0 ds) (fun L => L a = some (.lst ds)) L := rfl
theorem set_at {d : D} {xs : List D} {k : Int} {n : Nat} {P : Lp → Prop} (h : L a = some (.lst xs)) (e : ixN xs.length k = some n) (q : P (up L a (.lst (xs.set n d)))) : setD (.ref a) (.int k) d L P := ⟨xs, n, h, e, q⟩
end
end Z

/-! dicts with tuple keys, sorts, instances, keywords by data -/
namespace Z
open PySem PySem.Spec PyProof.Rows L2 RZ
/-! ### lcm -/
def rLcm : List V → Hp → VK → Prop := fun vs H Q => ∃ a b : Int, vs = [.int a, .int b] ∧ a.natAbs < 2 ^ 64 ∧ b.natAbs < 2 ^ 64 ∧ Q (.int ((Nat.lcm a.natAbs b.natAbs : Nat) : Int)) H
theorem cr_lcm {X : Cx} : CallR X (.builtin "math.lcm") rLcm := by
  intro pins s σ H vs us Q I r h
  obtain ⟨a, b, rfl, ha, hb, q⟩ := h
  obtain ⟨t, u, rfl⟩ := Vals.int2 r
  have e : (Nat.lcm 1 a.natAbs).lcm b.natAbs = Nat.lcm a.natAbs b.natAbs := by rw [Nat.lcm_one_left]
  refine PySem.W.mg_lcm ha hb ?_ ?_
  · rw [e, Int.natAbs_natCast]
    have h1 : Nat.lcm a.natAbs b.natAbs ≤ a.natAbs * b.natAbs := by
      by_cases z : 0 < a.natAbs * b.natAbs
      · exact Nat.le_of_dvd z (Nat.lcm_dvd_mul _ _)
      · have z2 : a.natAbs * b.natAbs = 0 := by omega
        rcases Nat.mul_eq_zero.mp z2 with z3 | z3
        · rw [z3]; simp
        · rw [z3]; simp
    have h2 : Nat.lcm a.natAbs b.natAbs < 2 ^ 128 := Nat.lt_of_le_of_lt h1 (by
      have := Nat.mul_lt_mul'' ha hb
      rw [← Nat.pow_add] at this
      exact this)
    exact Nat.lt_of_lt_of_le (PySem.Flt.log2_lt_of (by decide) h2) (by decide)
  · rw [e]
    exact ⟨.int _, H, I.tok _, ⟨_, rfl⟩, q⟩
def lcmD : RA' := fun ds L Q => match ds with
  | [.int a, .int b] => a.natAbs < 2 ^ 64 ∧ b.natAbs < 2 ^ 64 ∧ Q (.int ((Nat.lcm a.natAbs b.natAbs : Nat) : Int)) L
  | _ => False
theorem lcm_int {L : Lp} {Q : VK'} {a b : Int} : lcmD [.int a, .int b] L Q = (a.natAbs < 2 ^ 64 ∧ b.natAbs < 2 ^ 64 ∧ Q (.int ((Nat.lcm a.natAbs b.natAbs : Nat) : Int)) L) := rfl
theorem q_lcm {X : Cx} {e : Expr} {es : List Expr} {p pos : Pos} {t : TA'} (hm : X.mg "lcm" = some (.builtin "math.lcm")) (ha : QA X (e :: es) t) (hg : Gl X "lcm" := by rfl)
    (he : starEach (e :: es) X.env = (false, eval e X.env) :: starEach es X.env := by rfl) (hpl : (backTo pos (starEach es X.env)).any (·.1) = false := by rfl) : QE X (.Call (.Name "lcm" p) (e :: es) [] pos) (wCB lcmD t) :=
  PE.str (pe_callBfun cr_lcm hg hm ha (by decide) he hpl) (tCB_l fun ds L vs H Q Q' rd rh q k => by
    unfold lcmD at q
    split at q
    · cases rd with
      | cons r1 r2 =>
        cases r1
        cases r2 with
        | cons r2 r3 => cases r2; cases r3; exact ⟨_, _, rfl, q.1, q.2.1, k _ L _ H q.2.2 (Kp.refl H) rh (.int _)⟩
    · exact q.elim)
/-! ### dicts with tuple keys -/
def kD : L2.Key → D
  | .inl i => .int i
  | .inr x => .str x
theorem kD_rel {K : PySem.W.Frag} {H : Hp} (k : L2.Key) : RelD K H (kD k) (kV k) := by cases k <;> constructor
theorem kD_eq {K : PySem.W.Frag} {H : Hp} : ∀ {ks : List L2.Key} {vs : List V}, RelDs K H (ks.map kD) vs → vs = ks.map kV
  | [], _, .nil => rfl
  | k :: ks, _, .cons h r => by
    have e := kD_eq r
    subst e
    cases k <;> cases h <;> rfl
theorem kD_rels {K : PySem.W.Frag} {H : Hp} : ∀ ks : List L2.Key, RelDs K H (ks.map kD) (ks.map kV)
  | [] => .nil
  | k :: ks => .cons (kD_rel k) (kD_rels ks)
section
variable {κ : Type} [DecidableEq κ]
def valD (kvs : List (κ × D)) (k : κ) : Option D := (kvs.find? fun kv => decide (kv.1 = k)).map (·.2)
def putD (kvs : List (κ × D)) (k : κ) (v : D) : List (κ × D) :=
  if (kvs.any fun kv => decide (kv.1 = k)) = true then kvs.map (fun kv => if kv.1 = k then (kv.1, v) else kv) else kvs ++ [(k, v)]
variable {K : PySem.W.Frag} {H : Hp}
theorem RelK.val (k : κ) : ∀ {fs : List (κ × D)} {gs : List (κ × V)}, RelK K H fs gs → (valD fs k = none ∧ valV gs k = none) ∨ ∃ d v, valD fs k = some d ∧ valV gs k = some v ∧ RelD K H d v
  | _, _, .nil => .inl ⟨rfl, rfl⟩
  | p :: fs, q :: gs, .cons h r => by
    by_cases e : p.1 = k
    · right
      refine ⟨p.2, q.2, ?_, valV_pos (by rw [← h.1]; exact e), h.2⟩
      simp [valD, List.find?_cons, e]
    · have e2 : ¬ q.1 = k := by rw [← h.1]; exact e
      have z : valD (p :: fs) k = valD fs k := by simp [valD, List.find?_cons, e]
      rw [z, valV_neg e2]
      exact RelK.val k r
theorem RelK.any (k : κ) : ∀ {fs : List (κ × D)} {gs : List (κ × V)}, RelK K H fs gs → (fs.any fun kv => decide (kv.1 = k)) = gs.any fun kv => decide (kv.1 = k)
  | _, _, .nil => rfl
  | p :: fs, q :: gs, .cons h r => by rw [List.any_cons, List.any_cons, h.1, RelK.any k r]
theorem RelK.app : ∀ {fs fs2 : List (κ × D)} {gs gs2 : List (κ × V)}, RelK K H fs gs → RelK K H fs2 gs2 → RelK K H (fs ++ fs2) (gs ++ gs2)
  | _, _, _, _, .nil, s => s
  | _, _, _, _, .cons h r, s => .cons h (RelK.app r s)
theorem RelK.length : ∀ {fs : List (κ × D)} {gs : List (κ × V)}, RelK K H fs gs → fs.length = gs.length
  | _, _, .nil => rfl
  | _, _, .cons _ r => by rw [List.length_cons, List.length_cons, RelK.length r]
theorem RelK.upd {k : κ} {d : D} {v : V} (rd : RelD K H d v) : ∀ {fs : List (κ × D)} {gs : List (κ × V)}, RelK K H fs gs → RelK K H (fs.map (fun kv => if kv.1 = k then (kv.1, d) else kv)) (gs.map (fun kv => if kv.1 = k then (kv.1, v) else kv))
  | _, _, .nil => .nil
  | p :: fs, q :: gs, .cons h r => by
    rw [List.map_cons, List.map_cons]
    refine .cons ?_ (RelK.upd rd r)
    by_cases e : p.1 = k
    · rw [if_pos e, if_pos (by rw [← h.1]; exact e)]
      exact ⟨h.1, rd⟩
    · rw [if_neg e, if_neg (by rw [← h.1]; exact e)]
      exact h
theorem RelK.put {k : κ} {d : D} {v : V} (rd : RelD K H d v) {fs : List (κ × D)} {gs : List (κ × V)} (r : RelK K H fs gs) : RelK K H (putD fs k d) (putK gs k v) := by
  unfold putD putK
  rw [r.any k]
  split
  · exact RelK.upd rd r
  · exact RelK.app r (.cons ⟨rfl, rd⟩ .nil)
end
theorem put_dT {K : PySem.W.Frag} {H : Hp} {L : Lp} {a : Addr} {ws ws' : List (List L2.Key × V)} {kvs : List (List L2.Key × D)} (rh : RepH K H L) (e : H a = some (.dT ws)) (r : RelK K H kvs ws') : Kp H (upd H a (.dT ws')) ∧ RepH K (upd H a (.dT ws')) (up L a (.dT kvs)) := by
  have nf : ¬ isFix (H a) := by rw [e]; exact id
  exact ⟨Kp.upd nf, rh.put nf ⟨ws', upd_same, RelK.mono (Kp.upd nf) r⟩⟩
section
variable {X : Cx}
def wDnewT : TE' := fun _ L Q => ∀ p, L p = none → Q (.ref p) (up L p (.dT []))
theorem q_dnewT {pos : Pos} : QE X (.Dict [] [] pos) wDnewT := PE.str pe_dnewT fun σ H Q h => by
  obtain ⟨τ, L, Q', a, b, c, k⟩ := h
  exact fun p np => k _ _ _ _ (c p (b.no np)) (Kp.new np) (b.new np ⟨[], upd_same, .nil⟩) (.ref p)
/-- the dict, the key -/
def dkK (x y : D) (L : Lp) (P : Addr → List (List L2.Key × D) → List L2.Key → Prop) : Prop := match x, y with
  | .ref a, .tup ks => ∃ kvs k, L a = some (.dT kvs) ∧ ks = k.map kD ∧ P a kvs k
  | _, _ => False
theorem dkK_eq {a : Addr} {ks : List D} {L : Lp} {P : Addr → List (List L2.Key × D) → List L2.Key → Prop} : dkK (.ref a) (.tup ks) L P = ∃ kvs k, L a = some (.dT kvs) ∧ ks = k.map kD ∧ P a kvs k := rfl
theorem dkK_rel {K : PySem.W.Frag} {H : Hp} {L : Lp} {x y : D} {v u : V} {P : Addr → List (List L2.Key × D) → List L2.Key → Prop} (rh : RepH K H L) (rx : RelD K H x v) (ry : RelD K H y u) (h : dkK x y L P) :
    ∃ a kvs k ws b, v = .ref a ∧ u = .ref b ∧ L a = some (.dT kvs) ∧ H a = some (.dT ws) ∧ RelK K H kvs ws ∧ H b = some (.tup (k.map kV)) ∧ P a kvs k := by
  unfold dkK at h
  split at h
  · obtain ⟨kvs, k, e, rfl, p⟩ := h
    obtain ⟨ws, e2, r⟩ := rh _ _ e
    cases rx
    cases ry with
    | tup s r2 =>
      have z := kD_eq r2
      subst z
      exact ⟨_, kvs, k, ws, _, rfl, rfl, e, e2, r, s, p⟩
  · exact h.elim
def wDget (td tk : TE') : TE' := fun τ L Q => td τ L fun x L1 => tk τ L1 fun y L2 => dkK x y L2 fun a kvs k => ∃ d, valD kvs k = some d ∧ Q d L2
theorem q_dget {o i : Expr} {pos : Pos} {td tk : TE'} (hu : X.A.units + 1 < cLine) (ho : QE X o td) (hi : QE X i tk) (hs : NoSl i := by exact fun _ _ => rfl) : QE X (.Subscript o i pos) (wDget td tk) := PE.str (pe_dget hu ho hi hs) fun σ H Q h => by
  obtain ⟨τ, L, Q', a, b, c, k⟩ := h
  refine ⟨τ, L, _, a, b, c, fun x L1 v H1 q kp rh rd => ?_⟩
  refine ⟨τ, L1, _, a.mono kp, rh, q, fun y L2 u H2 q2 kp2 rh2 rd2 => ?_⟩
  obtain ⟨a1, kvs, key, ws, b1, rfl, rfl, e, e2, r, s, d, ed, q3⟩ := dkK_rel rh2 (rd.mono kp2) rd2 q2
  rcases r.val key with ⟨z, _⟩ | ⟨d', v', z1, z2, rr⟩
  · rw [z] at ed; cases ed
  · rw [z1] at ed
    cases ed
    exact ⟨a1, v', rfl, by rw [← z2]; exact DGet.t e2 s, k _ L2 _ H2 q3 (kp.trans kp2) rh2 rr⟩
/-- a dict stands there -/
def isDct (x : D) (L : Lp) : Prop := match x with
  | .ref a => ∃ kvs, L a = some (.dT kvs)
  | _ => False
theorem isDct_eq {a : Addr} {L : Lp} : isDct (.ref a) L = ∃ kvs, L a = some (.dT kvs) := rfl
def wDget2 (td tk tx : TE') : TE' := fun τ L Q => td τ L fun x L1 => isDct x L1 ∧ tk τ L1 fun y L2 => tx τ L2 fun z L3 => dkK x y L3 fun a kvs k => Q ((valD kvs k).getD z) L3
theorem q_dget2 {o e f : Expr} {apos cpos : Pos} {td tk tx : TE'} (hu : X.A.units + 1 < cLine) (ho : QE X o td) (he : QE X e tk) (hf : QE X f tx) (m : M2 X o "get" apos e f cpos) : QE X (.Call (.Attribute o "get" apos) [e, f] [] cpos) (wDget2 td tk tx) := PE.str (pe_dget2 hu ho he hf m) fun σ H Q h => by
  obtain ⟨τ, L, Q', a, b, c, k⟩ := h
  refine ⟨τ, L, _, a, b, c, fun x L1 v H1 q kp rh rd => ?_⟩
  obtain ⟨isd, q⟩ := q
  unfold isDct at isd
  split at isd
  · obtain ⟨kvs0, e0⟩ := isd
    cases rd
    obtain ⟨ws0, e1, _⟩ := rh _ _ e0
    refine ⟨_, rfl, .inr ⟨ws0, .inl e1⟩, ?_⟩
    refine ⟨τ, L1, _, a.mono kp, rh, q, fun y L2 u H2 q2 kp2 rh2 rd2 => ?_⟩
    refine ⟨τ, L2, _, a.mono (kp.trans kp2), rh2, q2, fun z L3 w H3 q3 kp3 rh3 rd3 => ?_⟩
    obtain ⟨a1, kvs, key, ws, b1, e3, rfl, e, e2, r, s, q4⟩ := dkK_rel rh3 (.ref _) (rd2.mono kp3) q3
    cases e3
    rcases r.val key with ⟨z1, z2⟩ | ⟨d', v', z1, z2, rr⟩
    · rw [z1] at q4
      exact ⟨none, by rw [← z2]; exact DGet.t e2 s, k _ L3 _ H3 q4 ((kp.trans kp2).trans kp3) rh3 rd3⟩
    · rw [z1] at q4
      exact ⟨some v', by rw [← z2]; exact DGet.t e2 s, k _ L3 _ H3 q4 ((kp.trans kp2).trans kp3) rh3 rr⟩
  · exact isd.elim
def wDput (td tk tv : TE') : TS' := fun E τ L => tv τ L fun v L1 => td τ L1 fun x L2 => tk τ L2 fun y L3 => dkK x y L3 fun a kvs k => kvs.length < sizeLine ∧ E.nx τ (up L3 a (.dT (putD kvs k v)))
theorem qs_dput {o i value : Expr} {pos pos' : Pos} {td tk tv : TE'} (hu : X.A.units + 1 < cLine) (ho : QE X o td) (hi : QE X i tk) (hv : QE X value tv) (hs : swapsWith value (some (.Subscript o i pos')) pos.line X.env = pure false := by rfl) :
    QS X (.Assign [.Subscript o i pos'] value pos) (wDput td tk tv) := PS.str (ps_dput hu ho hi hv hs) fun E σ H h => by
  obtain ⟨τ, L, E', a, b, c, k1, k2, k3, k4⟩ := h
  refine ⟨τ, L, _, a, b, c, fun d L1 v H1 q kp rh rd => ?_⟩
  refine ⟨τ, L1, _, a.mono kp, rh, q, fun x L2 u H2 q2 kp2 rh2 rd2 => ?_⟩
  refine ⟨τ, L2, _, a.mono (kp.trans kp2), rh2, q2, fun y L3 w H3 q3 kp3 rh3 rd3 => ?_⟩
  obtain ⟨a1, kvs, key, ws, b1, rfl, rfl, e, e2, r, s, z, q4⟩ := dkK_rel rh3 (rd2.mono kp3) rd3 q3
  obtain ⟨kp4, rh4⟩ := put_dT rh3 e2 (r.put (k := key) (rd.mono (kp2.trans kp3)))
  have kp5 := ((kp.trans kp2).trans kp3).trans kp4
  exact ⟨a1, _, rfl, DPut.t e2 s (by rw [← r.length]; exact z), k1 _ _ _ _ q4 kp5 rh4 (a.mono kp5)⟩
/-- list(d), d a dict with tuple keys -/
def listdT : RA' := fun ds L Q => match ds with
  | [.ref a] => ∃ kvs, L a = some (.dT kvs) ∧ ∀ p, L p = none → Q (.ref p) (up L p (.lst (kvs.map fun kv => .tup (kv.1.map kD))))
  | _ => False
theorem listdT_eq {a : Addr} {L : Lp} {Q : VK'} : listdT [.ref a] L Q = ∃ kvs, L a = some (.dT kvs) ∧ ∀ p, L p = none → Q (.ref p) (up L p (.lst (kvs.map fun kv => .tup (kv.1.map kD)))) := rfl
theorem keys_rel {K : PySem.W.Frag} {H : Hp} : ∀ {kvs : List (List L2.Key × D)} {ws : List (List L2.Key × V)} {bs : List Addr}, RelK K H kvs ws → IsKeys H ws bs → RelDs K H (kvs.map fun kv => .tup (kv.1.map kD)) (bs.map V.ref)
  | _, _, _, .nil, ik => by cases ik; exact .nil
  | p :: fs, q :: gs, bs, .cons h r, ik => by
    cases ik with
    | cons i1 i2 =>
      rw [List.map_cons, List.map_cons]
      refine .cons ?_ (keys_rel r i2)
      rw [h.1]
      exact .tup i1 (kD_rels _)
theorem l_listdT {K : PySem.W.Frag} : LRA K listdT (fun xs H Q => ∃ d kvs, xs = [V.ref d] ∧ Rd H d (.dT kvs) ∧ ∀ p bs, H p = none → IsKeys H kvs bs → Q (.ref p) (upd H p (.lst (bs.map V.ref)))) := fun ds L vs H Q Q' rd rh q k => by
  unfold listdT at q
  split at q
  · cases rd with
    | cons r1 r2 =>
      cases r1; cases r2
      obtain ⟨kvs, e, q⟩ := q
      obtain ⟨ws, e2, r⟩ := rh _ _ e
      refine ⟨_, ws, rfl, .inl e2, fun p bs np ik => ?_⟩
      refine k _ _ _ _ (q p (rh.no np)) (Kp.new np) (rh.new np ⟨_, upd_same, RelDs.mono (Kp.new np) (keys_rel r ik)⟩) (.ref p)
  · exact q.elim
/-! ### sorted -/
def sortedI : RA' := fun ds L Q => match ds with
  | [.ref a] => ∃ ns : List Int, L a = some (.lst (ns.map D.int)) ∧ ∀ ms : List Int, ms.Perm ns → ms.Pairwise (· ≤ ·) → ∀ p, L p = none → Q (.ref p) (up L p (.lst (ms.map D.int)))
  | _ => False
theorem sortedI_eq {a : Addr} {L : Lp} {Q : VK'} : sortedI [.ref a] L Q = ∃ ns : List Int, L a = some (.lst (ns.map D.int)) ∧ ∀ ms : List Int, ms.Perm ns → ms.Pairwise (· ≤ ·) → ∀ p, L p = none → Q (.ref p) (up L p (.lst (ms.map D.int))) := rfl
theorem l_sortedI {K : PySem.W.Frag} : LRA K sortedI (rSortedI K) := fun ds L vs H Q Q' rd rh q k => by
  unfold sortedI at q
  split at q
  · cases rd with
    | cons r1 r2 =>
      cases r1; cases r2
      obtain ⟨ns, e, q⟩ := q
      obtain ⟨ws, e2, r⟩ := rh _ _ e
      have e3 := r.ints
      subst e3
      exact ⟨_, ns, rfl, .inl (.inl e2), fun ms p h1 h2 np => k _ _ _ _ (q ms h1 h2 p (rh.no np)) (Kp.new np) (rh.new np ⟨_, upd_same, RelDs.of_ints ms⟩) (.ref p)⟩
  · exact q.elim
end
/-! ### sorted(d.items()), keys pairs of ints, values ints -/
abbrev T3 : Type := Int × Int × Int
def le3 (p q : T3) : Bool := decide (p.1 < q.1 ∨ (p.1 = q.1 ∧ (p.2.1 < q.2.1 ∨ (p.2.1 = q.2.1 ∧ p.2.2 ≤ q.2.2))))
def ent3 (e : T3) : List L2.Key × V := ([.inl e.1, .inl e.2.1], .int e.2.2)
def ent3D (e : T3) : List L2.Key × D := ([.inl e.1, .inl e.2.1], .int e.2.2)
def d3 (e : T3) : D := .tup [.tup [.int e.1, .int e.2.1], .int e.2.2]
def enc3 (b : Addr × T3) : PyData := .tuple [.tuple [.int b.2.1, .int b.2.2.1], .int b.2.2.2]
open PySem.W in
theorem lt_i (x y : Int) : dataLt (.int x) (.int y) = decide (x < y) := by
  have h := congrFun (congrFun (dataLe_int (β := Int) id) y) x
  rw [dataLe_eq] at h
  have h2 : (!dataLt (.int x) (.int y)) = decide (y ≤ x) := h
  have h3 : dataLt (.int x) (.int y) = !decide (y ≤ x) := by rw [← h2, Bool.not_not]
  rw [h3]
  by_cases c : y ≤ x
  · rw [decide_eq_true c, decide_eq_false (by omega)]; rfl
  · rw [decide_eq_false c, decide_eq_true (by omega)]; rfl
open PySem.W in
theorem enc3_le : dataLe false enc3 = fun p q => le3 p.2 q.2 := by
  funext p q
  show (!dataLt (enc3 q) (enc3 p)) = _
  unfold enc3
  rw [dataLt_pair (by simp [alike, alikeAll]) (by simp [alike]), dataLt_pair (by simp [alike]) (by simp [alike])]
  simp only [lt_i, PyData.eqv, PyData.eqvAll, Bool.and_true, Bool.and_eq_true, beq_iff_eq]
  unfold le3
  obtain ⟨a, p1, p2, p3⟩ := p
  obtain ⟨b, q1, q2, q3⟩ := q
  simp only
  split
  · rename_i h
    split
    · simp; omega
    · rw [← decide_not]; congr 1; simp; omega
  · rename_i h
    split
    · rename_i h2
      split
      · rename_i h3; exact absurd ⟨h2, h3⟩ h
      · rw [← decide_not]; congr 1; simp; omega
    · rename_i h2
      rw [← decide_not]; congr 1; simp; omega
/-! the rule -/
namespace SI
open PySem.W PySem.Calls L2.DX DT
/-- ents: keys, values; the result: new pairs in the order -/
def rSortIt3 : List V → Hp → VK → Prop := fun vs H Q => ∃ (p a : Addr) (ents : List T3), vs = [.ref p] ∧ H p = some (itemsO p a) ∧ H a = some (.dT (ents.map ent3)) ∧
  ∀ (H' : Hp) (l : Addr) (zs : List (Addr × T3)), (∀ b o, H b = some o → H' b = some o) → H l = none → zs.map (·.2) = ents.mergeSort le3 → H' l = some (.lst (zs.map fun z => V.ref z.1)) →
    (∀ z ∈ zs, ∃ q, H' z.1 = some (.tup [.ref q, .int z.2.2.2]) ∧ H' q = some (.tup [.int z.2.1, .int z.2.2.1])) → Q (.ref l) H'
end SI
end Z

/-! sorted(d.items()) -/
namespace Z
open PySem PySem.Spec PyProof.Rows L2 RZ
namespace SI
open PySem.W PySem.Calls L2.DX DT
theorem each_of {α β : Type} {R : α → β → Prop} : ∀ {as : List α} {bs : List β}, as.length = bs.length → (∀ (j : Nat) (a : α) (b : β), as[j]? = some a → bs[j]? = some b → R a b) → EachIs R as bs
  | [], [], _, _ => .nil
  | a :: as, b :: bs, hl, h => .cons (h 0 a b rfl rfl) (each_of (by simpa using hl) fun j x y hx hy => h (j + 1) x y (by simpa using hx) (by simpa using hy))
  | [], _ :: _, hl, _ => by simp at hl
  | _ :: _, [], hl, _ => by simp at hl
theorem each_get {α β : Type} {R : α → β → Prop} : ∀ {as : List α} {bs : List β}, EachIs R as bs → ∀ (j : Nat) (a : α), as[j]? = some a → ∃ b, bs[j]? = some b ∧ R a b
  | _, _, .nil, j, a, h => by simp at h
  | _, _, .cons r _, 0, a, h => by simp at h; subst h; exact ⟨_, rfl, r⟩
  | _, _, .cons _ t, j + 1, a, h => by
    obtain ⟨b, h1, h2⟩ := each_get t j a (by simpa using h)
    exact ⟨b, by simpa using h1, h2⟩
theorem vals_of_each : ∀ {out : List Value} {zs : List (Addr × T3)}, EachIs (fun v b => v = Value.ref b.1) out zs → Vals (zs.map fun z => V.ref z.1) out
  | _, _, .nil => .nil
  | _, _, .cons h t => .cons h (vals_of_each t)
section
variable {X : L2.Cx}
theorem cr_sortIt3 (hc : X.calm = true) (hu : X.A.units + 100 < cLine) : CallR X (.builtin "sorted") rSortIt3 := by
  intro pins s σ H xs us Q I r h
  obtain ⟨p, a, ks, rfl, hp, ha, q⟩ := h
  obtain rfl := Vals.ref1 r
  have view : s.heap.IsItemsView p a := (show ObjOk X.prog X.w H s.heap p (itemsO p a) from I.hok p _ hp).1
  obtain ⟨z, hd, xs', rel, o, es, ep, ho, hx, hdat, hes, his, hn⟩ := dt_of I.hok ha
  have l1 : (ks.map ent3).length = xs'.length := Paired.length rel
  rw [List.length_map] at l1 z
  have l2 : es.size = xs'.length := size_of_entries hes
  have hh : X.A.handled = none := I.ok.hd hc
  refine DT.sortedI (es := es) (ep := ep) hh view ⟨o, ho, hx, hdat⟩ (by omega) fun h' tk as hk hlt hl hG => ?_
  have lak : as.length = ks.length := by omega
  have nd : as.Nodup := List.Pairwise.imp (fun h => Nat.ne_of_lt h) hG.rise
  have pr : ∀ (j : Nat) (b : Addr), as[j]? = some b → ∃ (e : T3) (kq : Addr) (tv : Tok), ks[j]? = some e ∧ H kq = some (.tup [.int e.1, .int e.2.1]) ∧ h'.get? b = some { cls := .type "tuple", data := .seq #[Value.ref kq, Value.int e.2.2 tv] } := by
    intro j b hj
    obtain ⟨en, he, hg⟩ := hG.pairs j b hj
    rw [entry_at hes j] at he
    cases hxj : xs'[j]? with
    | none =>
      rw [hxj] at he
      exact nomatch (show (none : Option DictEntry) = some en from he)
    | some x =>
      rw [hxj] at he
      have een : entryOfKey (tupleKind (mixKind X.prog X.w)) x = en := Option.some.inj he
      obtain ⟨e0, he0, r1, r2, r3⟩ := pget rel hxj
      rw [List.getElem?_map] at he0
      cases hkj : ks[j]? with
      | none =>
        rw [hkj] at he0
        exact nomatch (show (none : Option (List L2.Key × V)) = some e0 from he0)
      | some e =>
        rw [hkj] at he0
        have ee : ent3 e = e0 := Option.some.inj he0
        rw [← ee] at r2 r3
        obtain ⟨tv, r3'⟩ : ∃ t, x.2.2 = Value.int e.2.2 t := r3
        refine ⟨e, x.2.1, tv, rfl, r2, ?_⟩
        rw [hg, ← een, ← r3']
        all_goals rfl
  have hob : (h'.push { cls := .type "list", data := .seq (as.map Value.ref).toArray }).get? h'.objs.size = some (seqObj "list" (as.map Value.ref).toArray 0) := Heap.get?_push_size _ rfl
  have kb : ∀ b o, s.heap.get? b = some o → (h'.push { cls := .type "list", data := .seq (as.map Value.ref).toArray }).get? b = some o := fun b o e => Heap.get?_push_of_some _ (hk b o e)
  have ne0 : ∀ b o, h'.get? b = some o → b ≠ h'.objs.size := fun b o e => Nat.ne_of_lt (Heap.lt_size e)
  generalize hh2 : h'.push { cls := .type "list", data := .seq (as.map Value.ref).toArray } = h2 at hob kb ⊢
  have ka : ∀ b o, h'.get? b = some o → h2.get? b = some o := fun b o e => by rw [← hh2]; exact Heap.get?_push_of_some _ e
  -- what the pairs read as
  have rdp : ∀ (j : Nat) (v : Value) (b : Addr × T3), (as.map Value.ref)[j]? = some v → (as.zip ks)[j]? = some b → v = Value.ref b.1 ∧ ∃ rs, Reads h2 v (enc3 b) rs ∧ h'.objs.size ∉ rs := by
    intro j v b hv hb
    obtain ⟨b1, b2⟩ := List.getElem?_zip_eq_some.mp hb
    rw [List.getElem?_map, b1] at hv
    have ev : v = Value.ref b.1 := (Option.some.inj hv).symm
    subst ev
    obtain ⟨e, kq, tv, he, hkq, hg⟩ := pr j b.1 b1
    have ee : e = b.2 := Option.some.inj (he.symm.trans b2)
    subst ee
    obtain ⟨_, its, rv, ot, hot, hct, nt, hdt⟩ := (show ObjOk X.prog X.w H s.heap kq (.tup [.int b.2.1, .int b.2.2.1]) from I.hok kq _ hkq)
    obtain ⟨t1, t2, rfl⟩ : ∃ t1 t2, its = [Value.int b.2.1 t1, Value.int b.2.2.1 t2] := by
      cases rv with
      | cons r1 r2 =>
        cases r2 with
        | cons r2 r3 =>
          cases r3
          obtain ⟨t1, rfl⟩ := r1
          obtain ⟨t2, rfl⟩ := r2
          exact ⟨t1, t2, rfl⟩
    refine ⟨rfl, [], ?_, by simp⟩
    exact .tuple (as := []) (ka _ _ hg) rfl rfl (.cons (as := []) (bs := []) (.tuple (as := []) (kb _ _ hot) hct hdt (.cons (as := []) (bs := []) (.int _ _) (.cons (as := []) (bs := []) (.int _ _) .nil))) (.cons (as := []) (bs := []) (.int _ _) .nil))
  have lz : (as.map Value.ref).length = (as.zip ks).length := by rw [List.length_map, List.length_zip, lak, Nat.min_self]
  have e1 : EachIs (fun v b => v = Value.ref b.1) (as.map Value.ref) (as.zip ks) := each_of lz fun j v b hv hb => (rdp j v b hv hb).1
  have e2 : EachIs (fun v b => ∃ rs, Reads h2 v (enc3 b) rs ∧ h'.objs.size ∉ rs) (as.map Value.ref) (as.zip ks) := each_of lz fun j v b hv hb => (rdp j v b hv hb).2
  refine list_sort_data (s := { s with heap := h2, toks := tk }) hob e1 e2 (AllAlike.of fun b b' => by unfold enc3; simp [alike, alikeAll]) (Sortable.tuples fun b => ⟨_, _, rfl⟩) (by rw [List.length_zip]; omega) (fun b _ => ?_) fun out hol heo => ?_
  · have dp : (enc3 b).depth ≤ 3 := by unfold enc3; simp [PyData.depth, PyData.depthAll]
    show X.A.units + 1 + 1 + (enc3 b).depth < cLine
    omega
  · show EP X pins σ Q (.ref h'.objs.size) { s with heap := sortedHeap h2 h'.objs.size (as.map Value.ref) (List.toArray out), toks := tk }
    generalize hzs : (as.zip ks).mergeSort (dataLe false enc3) = zs at heo
    have pz : zs.Perm (as.zip ks) := by rw [← hzs]; exact List.mergeSort_perm _ _
    have hz2 : zs.map (·.2) = ks.mergeSort le3 := by
      rw [← hzs, enc3_le]
      have m2 : (as.zip ks).map (·.2) = ks := List.map_snd_zip (by rw [lak]; exact Nat.le_refl _)
      rw [sort_maps (s := le3) (fun z : Addr × T3 => z.2) (fun _ _ _ _ => rfl), m2]
    have idx : ∀ z ∈ zs, ∃ j : Nat, as[j]? = some z.1 ∧ ks[j]? = some z.2 := by
      intro z' hz'
      obtain ⟨j, hj⟩ := List.mem_iff_getElem?.mp (pz.mem_iff.mp hz')
      exact ⟨j, List.getElem?_zip_eq_some.mp hj⟩
    have kF : ∀ b o, b ≠ h'.objs.size → h2.get? b = some o → (sortedHeap h2 h'.objs.size (as.map Value.ref) (List.toArray out)).get? b = some o := fun b o hb e => (PyProof.Rows.sortedHeap_old hb (Heap.lt_size e)).trans e
    have kS : ∀ b o, s.heap.get? b = some o → (sortedHeap h2 h'.objs.size (as.map Value.ref) (List.toArray out)).get? b = some o := fun b o e => kF b o (ne0 _ _ (hk b o e)) (kb b o e)
    obtain ⟨eF, heF⟩ := PyProof.Rows.sortedHeap_at (vs := as.map Value.ref) (out := List.toArray out) hob
    have I1 : Inv X pins σ H { s with heap := sortedHeap h2 h'.objs.size (as.map Value.ref) (List.toArray out), toks := tk } := I.kept (t' := tk) kS
    have hn0 : H h'.objs.size = none := I.hok.fresh (Nat.le_of_lt hlt)
    have hlen : (zs.map fun z => V.ref z.1).length ≤ sizeLine := by
      rw [List.length_map, pz.length_eq, List.length_zip]
      omega
    have rv : Vals (zs.map fun z => V.ref z.1) out := vals_of_each heo
    have I2 : Inv X pins σ (upd H h'.objs.size (.lst (zs.map fun z => V.ref z.1))) { s with heap := sortedHeap h2 h'.objs.size (as.map Value.ref) (List.toArray out), toks := tk } :=
      I1.take (h' := sortedHeap h2 h'.objs.size (as.map Value.ref) (List.toArray out)) (t' := tk) (fun b ob _ e => e) (I.fpOk (Nat.le_of_lt hlt) hn0) ⟨hlen, out, eF, rv, heF⟩
    obtain ⟨H2, I3, g, qt⟩ := takeT (P := fun b vs => ∃ (j : Nat) (e : T3) (kq : Addr), as[j]? = some b ∧ ks[j]? = some e ∧ vs = [.ref kq, .int e.2.2] ∧ H kq = some (.tup [.int e.1, .int e.2.1])) I as _ I2 nd fun b hb => by
      obtain ⟨j, hj⟩ := List.mem_iff_getElem?.mp hb
      obtain ⟨e, kq, tv, he, hkq, hg⟩ := pr j b hj
      have hbl : s.heap.objs.size ≤ b := Nat.le_of_lt (hG.above b hb)
      refine ⟨hbl, ?_, [.ref kq, .int e.2.2], ⟨j, e, kq, hj, he, rfl, hkq⟩, fun H3 => ⟨(by rw [sizeLine_eq]; show 2 ≤ 16777216; omega), [Value.ref kq, Value.int e.2.2 tv], .cons rfl (.cons ⟨tv, rfl⟩ .nil), ⟨_, kF _ _ (ne0 _ _ hg) (ka _ _ hg), rfl, 0, rfl⟩⟩⟩
      rw [upd_ne (ne0 _ _ hg)]
      exact I.hok.fresh hbl
    have gr : ∀ b o, H b = some o → H2 b = some o := fun b o e => g b o (by rw [upd_ne (ne_of_none e hn0)]; exact e)
    refine ⟨.ref h'.objs.size, H2, I3, rfl, q H2 h'.objs.size zs gr hn0 hz2 (g _ _ upd_same) fun z' hz' => ?_⟩
    obtain ⟨i, i1, i2⟩ := idx z' hz'
    obtain ⟨vs, ⟨j, e, kq, j1, j2, ev, hkq⟩, hH⟩ := qt z'.1 (List.mem_of_getElem? i1)
    have eij : i = j := (List.getElem?_inj (List.getElem?_eq_some_iff.mp i1).1 nd).mp (i1.trans j1.symm)
    subst eij
    have ee : e = z'.2 := Option.some.inj (j2.symm.trans i2)
    rw [ev, ee] at hH
    rw [ee] at hkq
    exact ⟨kq, hH, gr _ _ hkq⟩
end
end SI
/-- the reading by data -/
def sortItK (d : D) (L : Lp) (Q : VK') : Prop := match d with
  | .ref a => ∃ ents : List T3, L a = some (.dT (ents.map ent3D)) ∧ ∀ p, L p = none → Q (.ref p) (up L p (.lst ((ents.mergeSort le3).map d3)))
  | _ => False
theorem sortItK_eq {a : Addr} {L : Lp} {Q : VK'} : sortItK (.ref a) L Q = ∃ ents : List T3, L a = some (.dT (ents.map ent3D)) ∧ ∀ p, L p = none → Q (.ref p) (up L p (.lst ((ents.mergeSort le3).map d3))) := rfl
def wSortIt (td : TE') : TE' := fun τ L Q => td τ L fun d L1 => sortItK d L1 Q
theorem ent3_rel {K : PySem.W.Frag} {H : Hp} : ∀ {ents : List T3} {ws : List (List L2.Key × V)}, RelK K H (ents.map ent3D) ws → ws = ents.map ent3
  | [], _, .nil => rfl
  | e :: ents, q :: ws, .cons h r => by
    rw [List.map_cons, ent3_rel r]
    obtain ⟨k, v⟩ := q
    obtain ⟨h1, h2⟩ := h
    have h1 : ([.inl e.1, .inl e.2.1] : List L2.Key) = k := h1
    subst h1
    have h2 : RelD K H (.int e.2.2) v := h2
    cases h2
    rfl
theorem refs_rel {K : PySem.W.Frag} {H : Hp} : ∀ zs : List (Addr × T3), (∀ z ∈ zs, ∃ q, H z.1 = some (.tup [.ref q, .int z.2.2.2]) ∧ H q = some (.tup [.int z.2.1, .int z.2.2.1])) → RelDs K H ((zs.map (·.2)).map d3) (zs.map fun z => V.ref z.1)
  | [], _ => .nil
  | z :: zs, h => by
    obtain ⟨q, h1, h2⟩ := h z (List.mem_cons_self ..)
    refine .cons ?_ (refs_rel zs fun y hy => h y (List.mem_cons_of_mem _ hy))
    exact .tup h1 (.cons (.tup h2 (.cons (.int _) (.cons (.int _) .nil))) (.cons (.int _) .nil))
theorem q_sortIt {X : Cx} {o : Expr} {apos cpos p pos : Pos} {td : TE'} (hc : X.calm = true) (hu : X.A.units + 100 < cLine) (ho : QE X o td) (hg : Gl X "sorted") (hm : X.mg "sorted" = none)
    (hbase : attributeBase o "items" X.env (eval o X.env) = eval o X.env := by rfl) (hline : (apos.endLine == cpos.line) = true := by rfl)
    (he : starEach [(.Call (.Attribute o "items" apos) [] [] cpos : Expr)] X.env = (false, eval (.Call (.Attribute o "items" apos) [] [] cpos) X.env) :: starEach [] X.env := by rfl) (hpl : (backTo pos (starEach [] X.env)).any (·.1) = false := by rfl) :
    QE X (.Call (.Name "sorted" p) [.Call (.Attribute o "items" apos) [] [] cpos] [] pos) (wSortIt td) :=
  PE.str (pe_callB (SI.cr_sortIt3 hc hu) hg hm (by decide +kernel) (pa_cons (pe_bm0 PySem.F.plainAttrs_dict PySem.F.slot_dict_items PySem.F.type_dict_items L2.DX.mt_itemsT ho hbase hline) pa_nil he) (by decide) (by decide) he hpl) fun σ H Q h => by
    obtain ⟨τ, L, Q', a, b, c, k⟩ := h
    refine ⟨τ, L, _, a, b, c, fun d L1 v H1 q kp rh rd => ?_⟩
    unfold sortItK at q
    split at q
    · obtain ⟨ents, e, q⟩ := q
      cases rd
      obtain ⟨ws, e2, r⟩ := rh _ _ e
      have ew := ent3_rel r
      subst ew
      refine ⟨.inr (.inr (.inl ⟨rfl, .inr ⟨_, e2⟩⟩)), _, _, rfl, rfl, e2, fun p np => ?_⟩
      refine ⟨p, _, ents, rfl, upd_same, ?_, fun H' l zs g nl ez el hz => ?_⟩
      · rw [upd_ne (ne_of_none e2 np)]; exact e2
      · have nl1 : H1 l = none := by
          by_cases z : l = p
          · subst z; exact np
          · rw [upd_ne z] at nl; exact nl
        have g1 : ∀ b o, H1 b = some o → H' b = some o := fun b o z => g b o (by rw [upd_ne (ne_of_none z np)]; exact z)
        have kp1 : Kp H1 H' := ⟨fun a xs z => g1 _ _ z, fun a ob xs z => g1 _ _ z⟩
        refine k _ _ _ _ (q l (rh.no nl1)) (kp.trans kp1) (fun a o z => ?_) (.ref l)
        by_cases za : a = l
        · subst za
          rw [up_same] at z
          cases z
          exact ⟨_, el, by rw [← ez]; exact refs_rel zs hz⟩
        · rw [up_ne za] at z
          have ro := rh a o z
          cases o with
          | lst ds => obtain ⟨vs, e, r⟩ := ro; exact ⟨vs, g1 _ _ e, r.mono kp1⟩
          | ins C fs => obtain ⟨dx, gs, e, r⟩ := ro; exact ⟨dx, gs, g1 _ _ e, RelK.mono kp1 r⟩
          | dT kvs => obtain ⟨ws, e, r⟩ := ro; exact ⟨ws, g1 _ _ e, RelK.mono kp1 r⟩
          | dK kvs => obtain ⟨ws, e, r⟩ := ro; exact ⟨ws, g1 _ _ e, RelK.mono kp1 r⟩
          | tab q => exact LamX.TabS.ext ro g1
          | xd fs => obtain ⟨gs, e, r⟩ := ro; exact ⟨gs, g1 _ _ e, RelK.mono kp1 r⟩
    · exact q.elim
end Z

/-! instances, keywords, stars by data -/
namespace Z
open PySem PySem.Spec PyProof.Rows L2 RZ
/-! ### three targets -/
def trioK (ds : List D) (Q : D → D → D → Prop) : Prop := match ds with
  | [u, v, w] => Q u v w
  | _ => False
theorem trioK_3 {x y z : D} {P : D → D → D → Prop} : trioK [x, y, z] P = P x y z := rfl
def wPar3 (i j l : Nat) (ta : TA') : TS' := fun E τ L => ta τ L fun ds L1 => trioK ds fun u v w => E.nx (((τ.set i (some u)).set j (some v)).set l (some w)) L1
section
variable {X : Cx}
theorem qs_par3 {i j l : Nat} {x y z : Str} {a b c : Expr} {ta : TA'} {px py pz pt pos : Pos} {kt k2 pt2} (hc : X.calm = true) (hN : X.N.Nodup) (hi : X.N[i]? = some x) (hj : X.N[j]? = some y) (hl : X.N[l]? = some z) (hij : i ≠ j) (hil : i ≠ l) (hjl : j ≠ l)
    (hx : X.env.scope.names.lookup x = some .local) (hy : X.env.scope.names.lookup y = some .local) (hz : X.env.scope.names.lookup z = some .local) (ha : QA X [a, b, c] ta)
    (hw : swappedStores [.Tuple [.Name x px, .Name y py, .Name z pz] kt pt] (.Tuple [a, b, c] k2 pt2) X.env = pure (some [x, y, z]))
    (hs : swapsWithSole [.Tuple [.Name x px, .Name y py, .Name z pz] kt pt] (.Tuple [a, b, c] k2 pt2) pos.line X.env = pure false := by rfl) :
    QS X (.Assign [.Tuple [.Name x px, .Name y py, .Name z pz] kt pt] (.Tuple [a, b, c] k2 pt2) pos) (wPar3 i j l ta) := PS.str (ps_par3 hc hN hi hj hl hij hil hjl hx hy hz ha hw hs) fun D σ H h => by
  obtain ⟨τ, L, D', a, b, c, k1, k2, k3, k4⟩ := h
  refine ⟨τ, L, _, a, b, c, fun ds L1 vs H1 q hl kp rh rd => ?_⟩
  match ds, hl, rd with
  | [u, v, w], _, .cons r1 (.cons r2 (.cons r3 .nil)) => exact ⟨_, _, _, rfl, k1 _ L1 _ H1 q kp rh ((((a.mono kp).set r1 i).set r2 j).set r3 l)⟩
/-! ### fields -/
theorem RelK.lookup {K : PySem.W.Frag} {H : Hp} {f : Str} : ∀ {fs : List (Str × D)} {gs : List (Str × V)} {d : D}, RelK K H fs gs → fs.lookup f = some d → ∃ v, gs.lookup f = some v ∧ RelD K H d v
  | _, _, _, .nil, h => by simp at h
  | p :: fs, q :: gs, d, .cons h r, e => by
    obtain ⟨p1, p2⟩ := p
    obtain ⟨q1, q2⟩ := q
    obtain ⟨h1, h2⟩ := h
    have h1 : p1 = q1 := h1
    subst h1
    by_cases c : (f == p1) = true
    · rw [List.lookup_cons, c] at e ⊢
      cases e
      exact ⟨q2, rfl, h2⟩
    · have c2 : (f == p1) = false := by simpa using c
      rw [List.lookup_cons, c2] at e ⊢
      exact RelK.lookup r e
def putFD (f : Str) (v : D) : List (Str × D) → List (Str × D)
  | [] => [(f, v)]
  | (g, x) :: r => if g = f then (g, v) :: r else (g, x) :: putFD f v r
theorem RelK.putF {K : PySem.W.Frag} {H : Hp} {f : Str} {d : D} {v : V} (rd : RelD K H d v) : ∀ {fs : List (Str × D)} {gs : List (Str × V)}, RelK K H fs gs → RelK K H (putFD f d fs) (L2.putF f v gs)
  | _, _, .nil => .cons ⟨rfl, rd⟩ .nil
  | p :: fs, q :: gs, .cons h r => by
    obtain ⟨p1, p2⟩ := p
    obtain ⟨q1, q2⟩ := q
    obtain ⟨h1, h2⟩ := h
    have h1 : p1 = q1 := h1
    subst h1
    unfold putFD L2.putF
    by_cases c : p1 = f
    · rw [if_pos c, if_pos c]; exact .cons ⟨rfl, rd⟩ r
    · rw [if_neg c, if_neg c]; exact .cons ⟨rfl, h2⟩ (RelK.putF rd r)
/-- o.f, o an instance of the class at C -/
def fldK (K : PySem.W.Frag) (d : D) (f : Str) (L : Lp) (Q : D → Prop) : Prop := match d with
  | .ref a => ∃ C fs v, L a = some (.ins C fs) ∧ Cls K C ∧ NoAttr K C f ∧ fs.lookup f = some v ∧ Q v
  | _ => False
theorem fldK_eq {K : PySem.W.Frag} {a : Addr} {f : Str} {L : Lp} {Q : D → Prop} : fldK K (.ref a) f L Q = ∃ C fs v, L a = some (.ins C fs) ∧ Cls K C ∧ NoAttr K C f ∧ fs.lookup f = some v ∧ Q v := rfl
def wFld (K : PySem.W.Frag) (t : TE') (f : Str) : TE' := fun τ L Q => t τ L fun d L1 => fldK K d f L1 fun v => Q v L1
theorem q_fld {e : Expr} {f : Str} {pos : Pos} {t : TE'} (he : QE X e t) (hb : attributeBase e f X.env (eval e X.env) = eval e X.env := by rfl) : QE X (.Attribute e f pos) (wFld X.K t f) := PE.str (pe_fld he hb) fun σ H Q h => by
  obtain ⟨τ, L, Q', a, b, c, k⟩ := h
  refine ⟨τ, L, _, a, b, c, fun d L1 v H1 q kp rh rd => ?_⟩
  unfold fldK at q
  split at q
  · obtain ⟨C, fs, w, e1, h1, h2, h3, q⟩ := q
    cases rd
    obtain ⟨dx, gs, e2, r⟩ := rh _ _ e1
    obtain ⟨u, h4, r2⟩ := RelK.lookup r h3
    exact ⟨_, C, dx, gs, u, rfl, e2, h1, h2, h4, k _ L1 _ H1 q kp rh r2⟩
  · exact q.elim
def sfldK (K : PySem.W.Frag) (d : D) (f : Str) (v : D) (L : Lp) (Q : Lp → Prop) : Prop := match d with
  | .ref a => ∃ C fs, L a = some (.ins C fs) ∧ Cls K C ∧ NoAttr K C f ∧ fs.length < 1000 ∧ Q (up L a (.ins C (putFD f v fs)))
  | _ => False
theorem sfldK_eq {K : PySem.W.Frag} {a : Addr} {f : Str} {v : D} {L : Lp} {Q : Lp → Prop} : sfldK K (.ref a) f v L Q = ∃ C fs, L a = some (.ins C fs) ∧ Cls K C ∧ NoAttr K C f ∧ fs.length < 1000 ∧ Q (up L a (.ins C (putFD f v fs))) := rfl
def wFldS (K : PySem.W.Frag) (to tv : TE') (f : Str) : TS' := fun E τ L => tv τ L fun v L1 => to τ L1 fun d L2 => sfldK K d f v L2 fun L3 => E.nx τ L3
theorem qs_fld {o value : Expr} {f : Str} {pos pos' : Pos} {to tv : TE'} (ho : QE X o to) (hv : QE X value tv) (hs : swapsWith value (some (.Attribute o f pos')) pos.line X.env = pure false := by rfl) : QS X (.Assign [.Attribute o f pos'] value pos) (wFldS X.K to tv f) := PS.str (ps_fld ho hv hs) fun E σ H h => by
  obtain ⟨τ, L, E', a, b, c, k1, k2, k3, k4⟩ := h
  refine ⟨τ, L, _, a, b, c, fun v L1 y H1 q kp rh rd => ?_⟩
  refine ⟨τ, L1, _, a.mono kp, rh, q, fun d L2 x H2 q2 kp2 rh2 rd2 => ?_⟩
  unfold sfldK at q2
  split at q2
  · rename_i aa
    obtain ⟨C, fs, e1, h1, h2, h3, q2⟩ := q2
    cases rd2
    obtain ⟨dx, gs, e2, r⟩ := rh2 _ _ e1
    have nf : ¬ isFix (H2 aa) := by rw [e2]; exact id
    have kn := Kp.upd (o := .ins C dx (_root_.L2.putF f y gs)) nf
    refine ⟨_, C, dx, gs, rfl, e2, h1, h2, by rw [← RelK.length r]; exact h3, k1 _ _ _ _ q2 ((kp.trans kp2).trans kn) (rh2.put nf ⟨dx, _, upd_same, RelK.mono kn (RelK.putF (rd.mono kp2) r)⟩) (a.mono ((kp.trans kp2).trans kn))⟩
  · exact q2.elim
/-- C(..): a new instance, then __init__ -/
def wMake (C : Addr) (sp : Sp') (E : XK') (t : TA') : TE' := fun τ L Q => t τ L fun ds L1 => ∀ x, L1 x = none → sp (.ref x :: ds) (up L1 x (.ins C [])) (fun d L2 => d = .non ∧ Q (.ref x) L2) E
theorem tMake_l {K : PySem.W.Frag} {C : Addr} {sp : Sp'} {n : Nat} {E : XK} {E' : XK'} {t : TA'} (hE : ∀ C fs L1 od H1, E' C fs L1 → RepH K H1 L1 → ExcAt K H1 L1 od fs → E (.ref C) od H1) (σ : L2.St) (H : Hp) (Q : VK) (h : lE K (wMake C sp E' t) σ H Q) : tMake C (lSp K sp) [] E (lA K n t) σ H Q := by
  obtain ⟨τ, L, Q', a, b, c, k⟩ := h
  refine ⟨τ, L, _, a, b, c, fun ds L1 vs H1 q hl kp rh rd x dx nx ndx ne => ?_⟩
  have n1 : upd H1 dx (.own x) x = none := by rw [upd_ne (Ne.symm ne)]; exact nx
  have k1 : Kp H1 (upd H1 dx (.own x)) := Kp.new ndx
  have k2 : Kp (upd H1 dx (.own x)) (upd (upd H1 dx (.own x)) x (.ins C dx [])) := Kp.new n1
  refine ⟨.ref x :: ds, _, _, E', ?_, ?_, q x (rh.no nx), fun d L2 v H2 q2 kp2 rh2 rd2 => ?_, fun C fs L2 od H2 q2 kp2 rh2 ex => hE C fs L2 od H2 q2 rh2 ex⟩
  · rw [List.append_nil]
    exact .cons (.ref x) (rd.mono (k1.trans k2))
  · exact (rh.hid ndx).new n1 ⟨dx, [], upd_same, .nil⟩
  · obtain ⟨rfl, q2⟩ := q2
    cases rd2
    exact ⟨rfl, k _ _ _ _ q2 ((kp.trans (k1.trans k2)).trans kp2) rh2 (.ref x)⟩
theorem q_make {C f : Addr} {k : Nat} {fd : FuncData} {ps : List Str} {sp : Sp'} {x : Str} {p pos : Pos} {e : Expr} {es : List Expr} {t : TA'} (M : Mk X.K C f) (F : FnOk X.prog X.w X.K X.mg X.base CX0 k f fd ps (lSp X.K sp)) (hr : Room (k + 1) X.A) (hg : Gl X x) (hm : X.mg x = some (.ref C)) (hb : Binds X.K fd ps []) (ha : QA X (e :: es) t)
    (hdb : (x == ("__debug__" : Str)) = false := by decide) (he : starEach (e :: es) X.env = (false, eval e X.env) :: starEach es X.env := by rfl) (hpl : (backTo pos (starEach es X.env)).any (·.1) = false := by rfl) :
    QE X (.Call (.Name x p) (e :: es) [] pos) (wMake C sp X0 t) := PE.str (pe_make M F hr hg hm hb .nil pass0 ha hdb he hpl) (tMake_l fun _ _ _ _ _ z => z.elim)
/-! ### keywords: f(k = e, ..) -/
def QK (X : Cx) (kws : List Keyword) (t : TA') : Prop := PK X kws (lA X.K kws.length t)
theorem PK.str {X : Cx} {e : List Keyword} {t u : TA} (h : PK X e t) (k : ∀ σ H Q, u σ H Q → t σ H Q) : PK X e u := ⟨fun p pins s σ H Q I q => h.run p pins s σ H Q I (k σ H Q q)⟩
theorem k_nil : QK X [] wNil := PK.str pk_nil fun σ H Q h => by
  obtain ⟨τ, L, Q', a, b, c, k⟩ := h
  exact k [] L [] H c rfl (Kp.refl H) b .nil
theorem k_cons {nm : Option Str} {e : Expr} {kpos : Pos} {kws : List Keyword} {ta : TE'} {tr : TA'} (h : QE X e ta) (r : QK X kws tr) : QK X (⟨nm, e, kpos⟩ :: kws) (wCons ta tr) := PK.str (pk_cons h r) fun σ H Q h => by
  obtain ⟨τ, L, Q', a, b, c, k⟩ := h
  refine ⟨τ, L, _, a, b, c, fun d L1 v H1 q kp rh rd => ?_⟩
  refine ⟨τ, L1, _, a.mono kp, rh, q, fun ds L2 vs H2 q2 hl kp2 rh2 rd2 => ?_⟩
  exact k (d :: ds) L2 (v :: vs) H2 q2 (by rw [List.length_cons, hl, List.length_cons]) (kp.trans kp2) rh2 (.cons (rd.mono kp2) rd2)
theorem pe_callK0 {CX : CXT} {k : Nat} {f : Addr} {fd : FuncData} {ps ks : List Str} {sp : Sp} {E : XK} {x : Str} {p pos : Pos} {kws : List Keyword} {tk : TA} {g : List Value → List Value → List Value} {gV : List V → List V → List V}
    (F : FnOk X.prog X.w X.K X.mg X.base CX k f fd ps sp) (hr : Room k X.A) (hg : Gl X x) (hm : X.mg x = some (.ref f)) (hk : PySem.W.keepIn X.K (.ref f) = true) (hb : KBinds X.K fd ps ks g gV) (hx : Passes CX X E)
    (hkw : PK X kws tk) (hall : (backToKw pos (keywordEach kws X.env)).all (·.1.isSome) = true := by rfl) (hks : (backToKw pos (keywordEach kws X.env)).filterMap (·.1) = ks := by rfl)
    (hdb : (x == ("__debug__" : Str)) = false := by decide)
    (hpl : ((backTo pos (starEach [] X.env)).any (·.1) || (backToKw pos (keywordEach kws X.env)).any (·.1.isNone)) = false := by rfl) :
    PE X (.Call (.Name x p) [] kws pos) (fun σ H Q => tk σ H fun zs H2 => sp (gV [] zs) H2 Q E) := by
  refine ⟨fun pins s σ H Q I h => ?_⟩
  refine wpAny_Call_Name_kw (ld_glob I hg hm ?_ hdb)
  refine PySem.W.callWith_KW0 (h₀ := X.base) I.ok.mod.kin hk hall ?_ hpl
  refine thn (hkw.run pos pins s σ H _ I h) fun ws s2 ⟨zs, H2, I2, rz, q2⟩ => ⟨I2.kIn, ?_⟩
  rw [hks]
  exact run_fnk F hr hb hx I2 .nil rz q2
/-- keywords in the order π: the i-th parameter is the π-th keyword's -/
def wCallK (sp : Sp') (g : {α : Type} → List α → List α) (E : XK') (t : TA') : TE' := fun τ L Q => t τ L fun ds L1 => sp (g ds) L1 Q E
/-- a permutation that keeps what goes together -/
structure Rg (g : {α : Type} → List α → List α) : Prop where
  vals : ∀ {vs : List V} {us : List Value}, Vals vs us → Vals (g vs) (g us)
  rels : ∀ {K : PySem.W.Frag} {H : Hp} {ds : List D} {vs : List V}, RelDs K H ds vs → RelDs K H (g ds) (g vs)
theorem q_callK0 {k : Nat} {f : Addr} {fd : FuncData} {ps ks : List Str} {sp : Sp'} {x : Str} {p pos : Pos} {kws : List Keyword} {t : TA'} (g : {α : Type} → List α → List α) (R : Rg g)
    (F : FnOk X.prog X.w X.K X.mg X.base CX0 k f fd ps (lSp X.K sp)) (hr : Room k X.A) (hg : Gl X x) (hm : X.mg x = some (.ref f)) (hk : PySem.W.keepIn X.K (.ref f) = true) (hb : KBinds X.K fd ps ks (fun us ws => us ++ g ws) (fun vs zs => vs ++ g zs))
    (hkw : QK X kws t) (hall : (backToKw pos (keywordEach kws X.env)).all (·.1.isSome) = true := by rfl) (hks : (backToKw pos (keywordEach kws X.env)).filterMap (·.1) = ks := by rfl)
    (hdb : (x == ("__debug__" : Str)) = false := by decide)
    (hpl : ((backTo pos (starEach [] X.env)).any (·.1) || (backToKw pos (keywordEach kws X.env)).any (·.1.isNone)) = false := by rfl) :
    QE X (.Call (.Name x p) [] kws pos) (wCallK sp g X0 t) := PE.str (pe_callK0 F hr hg hm hk hb pass0 hkw hall hks hdb hpl) fun σ H Q h => by
  obtain ⟨τ, L, Q', a, b, c, k⟩ := h
  refine ⟨τ, L, _, a, b, c, fun ds L1 vs H1 q hl kp rh rd => ?_⟩
  exact ⟨g ds, L1, Q', X0, R.rels rd, rh, q, fun d L2 v H2 q2 kp2 => k d L2 v H2 q2 (kp.trans kp2), fun _ _ _ _ _ z => z.elim⟩
theorem rg_id : Rg (fun l => l) := ⟨fun h => h, fun h => h⟩
end
/-- how keywords bind, where the def has no defaults -/
theorem kbinds_of {K : PySem.W.Frag} {x qual : Str} {params : Arguments} {body : List Stmt} {scope : Scope} {f : Addr} {fd : FuncData} {ps ks : List Str} {kws : List (Str × V)} (F : FunD K x qual params body scope [] kws f fd) (g : {α : Type} → List α → List α) (R : Rg g)
    (h : ∀ (kV doc pm : Value) (an : Option Addr) (cdv ct : Value) (us ws : List Value), (us ++ g ws).length = ps.length → ∀ s : Shared, BindsTo s (PySem.W.fnOf x qual params body scope .none kV doc pm an cdv ct) ⟨us, ks.zip ws⟩ (ps.zip (us ++ g ws))) : KBinds K fd ps ks (fun us ws => us ++ g ws) (fun vs zs => vs ++ g zs) := by
  obtain ⟨oc, od, dV, kV, doc, pm, an, cdv, ct, osl, rfl, lk, hcd, hD, hK⟩ := F.ex
  rcases hD with ⟨_, rfl⟩ | ⟨e, _⟩
  · exact ⟨fun s us ws _ hl => h kV doc pm an cdv ct us ws hl s, fun r rz => r.append (R.vals rz)⟩
  · exact absurd rfl e
end Z

namespace Z
open PySem PySem.Spec PyProof.Rows L2
/-! ### l.extend(t), t a tuple -/
theorem ext_lt (l : Addr) (items : Array Value) (n : Nat) (b : Addr) (items2 : Array Value) (n2 : Nat) (od : Option Addr) (sl : Array (Option Value)) (hs0 : ¬(!items.isEmpty && Builtin.List.listTooLong (items.size + items2.size)) = true) (hs1 : items.size ≤ sizeLine) (hs2 : items.size + items2.size ≤ sizeLine + 1) :
    Meets (Builtin.«list.extend» ⟨[.ref l, .ref b], []⟩) (fun _ R s => s.heap.get? l = some { cls := .type "list", dict := none, data := .seq items n, slots := #[] } ∧ s.heap.get? b = some { cls := .type "tuple", dict := od, data := .seq items2 n2, slots := sl } ∧ R (.ok (.ret Value.none)) { s with heap := s.heap.update l (Obj.mapSeq fun x => x ++ items2), toks := s.toks }) :=
  .of_wp fun prog w A R s h => by
    obtain ⟨hp, g, d, tk, os⟩ := s; obtain ⟨hl, hb, h⟩ := h; have f1 := AutoSeq1.idx_int; have f2 := AutoSeq1.sub_tuple_tuple; have f3 := AutoSeq1.sub_list_list; have f4 := AutoSeq1.sub_tuple_list; have f5 := AutoSeq1.sub_list_tuple;
    have hz' : (items ++ items2).size ≤ sizeLine + 1 := by rw [Array.size_append]; exact hs2
    wp_walk using (wpAny_updateSeq hl rfl (hz := hs1) (_hz' := hz')), AutoSeq1.wpAny_loadPart' hl, AutoSeq1.wpAny_loadPart' hb; exact ⟨_, rfl, h⟩
def rExtT : V → List V → Hp → VK → Prop := fun x vs H Q => ∃ l b xs zs, x = .ref l ∧ vs = [.ref b] ∧ H l = some (.lst xs) ∧ H b = some (.tup zs) ∧ xs.length + zs.length ≤ sizeLine ∧ Q .non (upd H l (.lst (xs ++ zs)))
theorem mt_extT {X : Cx} : MtM X "list.extend" rExtT := by
  intro pins s σ H x vs v us Q I rx rv h
  obtain ⟨l, b, xs, zs, rfl, rfl, hH, hB, hz, q⟩ := h
  cases rx
  obtain ⟨u, rfl, ru⟩ := rv.one
  cases ru
  obtain ⟨z, its, n, r, hl, e⟩ := I.lstM hH
  obtain ⟨its2, r2, ⟨o, e2, oc, n2, od⟩, z2⟩ := I.tuple (.inl (.inl hB))
  have hl2 := r2.length
  obtain ⟨c, dd, da, sl⟩ := o
  cases oc; cases od
  have hsz : its.toArray.size + its2.toArray.size ≤ sizeLine := by rw [List.size_toArray, List.size_toArray]; omega
  have hlong : ¬ (!its.toArray.isEmpty && Builtin.List.listTooLong (its.toArray.size + its2.toArray.size)) = true := by
    rw [notLongL hsz, Bool.and_false]
    exact Bool.false_ne_true
  refine call_meets F.slot_list_extend ⟨_, e, rfl⟩ F.entry_list_extend (F.args_list_extend_2 _ _)
    (ext_lt l its.toArray n b its2.toArray n2 dd sl hlong (by rw [List.size_toArray]; omega) (by omega)) ⟨e, e2, ?_⟩
  refine ⟨.non, _, I.lset (its' := its ++ its2) hH e (by simp) (r.append r2) ?_, rfl, q⟩
  rw [List.length_append]
  omega
def extTD : RM' := fun d ds L Q => match d, ds with
  | .ref a, [.tup ys] => ∃ xs, L a = some (.lst xs) ∧ xs.length + ys.length ≤ sizeLine ∧ Q .non (up L a (.lst (xs ++ ys)))
  | _, _ => False
theorem l_extT {K : PySem.W.Frag} : LRM K "list" extTD rExtT := fun d ds L v vs H Q Q' rd rds rh q k => by
  unfold extTD at q
  split at q
  · rename_i a ys
    obtain ⟨xs, e1, z, q⟩ := q
    obtain ⟨ws, e2, r⟩ := rh _ _ e1
    cases rd
    cases rds with
    | cons r1 r2 =>
      cases r2
      cases r1 with
      | tup hb s =>
        obtain ⟨kp, rh2⟩ := put_lst rh e2 (r.app s)
        exact ⟨a, _, ws, _, rfl, rfl, e2, hb, by rw [← r.length, ← s.length]; exact z, k _ _ _ _ q kp rh2 .non⟩
  · exact q.elim
/-! ### def f(*v) -/
def Fs (sp : Sp') : Sp' := fun ds L Q E => ds.length ≤ sizeLine ∧ sp [.tup ds] L Q E
theorem cxup0 : StX.CXUp CX0 := StX.cxUp_none
theorem okStar {P : Program} {w : World} {K : PySem.W.Frag} {mg : Str → Option Value} {base : Heap} {x qual pv : Str} {params : Arguments} {body : List Stmt} {scope : Scope} {f : Addr} {fd : FuncData} {N : List Str} {k : Nat} {sp : Sp'} {t : TS'} (F : FunD K x qual params body scope [] [] f fd) (S : FnScope N [pv] scope)
    (h0 : ∀ (kV doc pm : Value) (an : Option Addr) (cdv ct : Value), bindArgs (PySem.W.fnOf x qual params body scope .none kV doc pm an cdv ct) ⟨[], []⟩ = (newTuple [] >>= fun t => pure [(pv, t)]))
    (h1 : ∀ (kV doc pm : Value) (an : Option Addr) (cdv ct : Value) (r : Value) (rs : List Value), bindArgs (PySem.W.fnOf x qual params body scope .none kV doc pm an cdv ct) ⟨r :: rs, []⟩ = (newTuple (r :: rs) >>= fun t => pure [(pv, t)]))
    (hb : ∀ (cdv : Value) (A : Around) (outer : List Env) (s : Shared) (H : Hp) (E : XK), Room k (A.deeper (envOfC qual scope s.heap.objs.size f cdv)) → QSs (cxOf CX0 P w K mg base N qual scope f cdv A outer s H E) body t)
    (hs : ∀ ds L Q E, sp ds L Q E → t { nx := fun _ L1 => Dn (Q .non) L1, rt := fun d L1 => Dn (Q d) L1 } (start' N ds) L) : FnR P w K mg base CX0 (k + 1) f (lSp K (Fs sp)) := by
  obtain ⟨oc, od, dV, kV, doc, pm, an, cdv, ct, osl, rfl, lk, hcd, hD, hK⟩ := F.ex
  rcases hD with ⟨_, rfl⟩ | ⟨e, _⟩
  · refine FnR.imp (StX.fn_star (ps := []) (sp := lSp K sp) lk hcd S cxup0 (fun us rest hl => ?_) fun A outer s H vs Q E hr h => ⟨_, hb _ A outer s H E hr, ?_⟩) ?_
    · cases us with
      | cons a b => cases hl
      | nil =>
        cases rest with
        | nil => exact h0 ..
        | cons r rs => exact h1 ..
    · obtain ⟨ds, L, Q', E', r, rh, q, k1, k2⟩ := h
      refine ⟨start' N ds, L, _, start_rep r N, rh, hs _ _ _ _ q, ?_, ?_, fun _ _ _ _ z => z.elim, fun _ _ _ _ z => z.elim⟩
      · rintro τ1 L1 σ1 H1 ⟨L2, l, q2⟩ kp rh1 _
        exact k1 _ L2 _ H1 q2 kp (rh1.le l) .non
      · rintro d L1 v H1 ⟨L2, l, q2⟩ kp rh1 rd
        exact k1 _ L2 _ H1 q2 kp (rh1.le l) rd
    · rintro vs H Q E ⟨ds, L, Q', E', r, rh, ⟨hz, q⟩, k1, k2⟩
      refine ⟨[], vs, rfl, rfl, by rw [← r.length]; exact hz, fun p hp => ?_⟩
      have kp : Kp H (upd H p (.tup vs)) := Kp.new hp
      exact ⟨[.tup ds], L, Q', E', .cons (.tup upd_same (r.mono kp)) .nil, rh.hid hp, q, fun d L1 v H1 q1 kp1 => k1 d L1 v H1 q1 (kp.trans kp1), fun C fs L1 od H1 q1 kp1 => k2 C fs L1 od H1 q1 (kp.trans kp1)⟩
  · exact absurd rfl e
section
variable {X : Cx} {k : Nat} {f : Addr} {sp : Sp'} {x : Str} {p pos : Pos} {e : Expr} {es : List Expr} {t : TA'}
theorem pe_callR {CX : CXT} {sp : Sp} {E : XK} {t : TA} (F : FnR X.prog X.w X.K X.mg X.base CX k f sp) (hr : Room k X.A) (hg : Gl X x) (hm : X.mg x = some (.ref f)) (hk : PySem.W.keepIn X.K (.ref f) = true) (hx : Passes CX X E) (ha : PA X (e :: es) t)
    (hdb : (x == ("__debug__" : Str)) = false := by decide) (he : starEach (e :: es) X.env = (false, eval e X.env) :: starEach es X.env := by rfl) (hpl : (backTo pos (starEach es X.env)).any (·.1) = false := by rfl) :
    PE X (.Call (.Name x p) (e :: es) [] pos) (fun σ H Q => t σ H fun vs H1 => sp vs H1 Q E) := by
  refine ⟨fun pins s σ H Q I h => ?_⟩
  refine wpAny_Call_Name_kw (ld_glob I hg hm ?_ hdb)
  refine PySem.W.callWith_K (h₀ := X.base) I.ok.mod.kin hk (thn (ha.run pos pins s σ H _ I h) fun us s1 ⟨vs, H1, I1, r, q⟩ => ⟨I1.kIn, ?_⟩) he hpl
  exact wpAny_call (run_fnR F hr hx I1 r q)
theorem pe_callR0 {CX : CXT} {sp : Sp} {E : XK} (F : FnR X.prog X.w X.K X.mg X.base CX k f sp) (hr : Room k X.A) (hg : Gl X x) (hm : X.mg x = some (.ref f)) (hk : PySem.W.keepIn X.K (.ref f) = true) (hx : Passes CX X E)
    (hdb : (x == ("__debug__" : Str)) = false := by decide) : PE X (.Call (.Name x p) [] [] pos) (fun σ H Q => sp [] H Q E) := by
  refine ⟨fun pins s σ H Q I h => ?_⟩
  refine wpAny_Call_Name_kw (ld_glob I hg hm ?_ hdb)
  exact PySem.W.callWith_K0 I.kIn hk (wpAny_call (run_fnR F hr hx I .nil h))
theorem q_callR (F : FnR X.prog X.w X.K X.mg X.base CX0 k f (lSp X.K sp)) (hr : Room k X.A) (hg : Gl X x) (hm : X.mg x = some (.ref f)) (hk : PySem.W.keepIn X.K (.ref f) = true) (ha : QA X (e :: es) t)
    (hdb : (x == ("__debug__" : Str)) = false := by decide) (he : starEach (e :: es) X.env = (false, eval e X.env) :: starEach es X.env := by rfl) (hpl : (backTo pos (starEach es X.env)).any (·.1) = false := by rfl) :
    QE X (.Call (.Name x p) (e :: es) [] pos) (wCall sp [] X0 t) := PE.str (pe_callR F hr hg hm hk pass0 ha hdb he hpl) fun σ H Q h => by
  obtain ⟨τ, L, Q', a, b, c, k⟩ := h
  refine ⟨τ, L, _, a, b, c, fun ds L1 vs H1 q hl kp rh rd => ?_⟩
  rw [List.append_nil] at q
  exact ⟨ds, L1, Q', X0, rd, rh, q, fun d L2 v H2 q2 kp2 => k d L2 v H2 q2 (kp.trans kp2), fun _ _ _ _ _ z => z.elim⟩
theorem q_callR0 (F : FnR X.prog X.w X.K X.mg X.base CX0 k f (lSp X.K sp)) (hr : Room k X.A) (hg : Gl X x) (hm : X.mg x = some (.ref f)) (hk : PySem.W.keepIn X.K (.ref f) = true)
    (hdb : (x == ("__debug__" : Str)) = false := by decide) : QE X (.Call (.Name x p) [] [] pos) (wCall sp [] X0 wNil) := PE.str (pe_callR0 F hr hg hm hk pass0 hdb) fun σ H Q h => by
  obtain ⟨τ, L, Q', a, b, c, k⟩ := h
  exact ⟨[], L, Q', X0, .nil, b, c, k, fun _ _ _ _ _ z => z.elim⟩
end
theorem hu1 {k : Nat} {A : Around} (h : Room k A) : A.units + 1 < cLine := by have := h.un; omega
theorem hu100 {k : Nat} {A : Around} (h : Room k A) : A.units + 100 < cLine := by have := h.un; omega
theorem hpN {P : Program} {w : World} {K : PySem.W.Frag} {mg : Str → Option Value} {base : Heap} {N : List Str} {qual : Str} {scope : Scope} {f : Addr} {cdv : Value} {A : Around} {outer : List Env} {s : Shared} {H : Hp} {E : XK} :
    PassesOwn (model (cxOf CX0 P w K mg base N qual scope f cdv A outer s H E).prog (cxOf CX0 P w K mg base N qual scope f cdv A outer s H E).w) (cxOf CX0 P w K mg base N qual scope f cdv A outer s H E).A (cxOf CX0 P w K mg base N qual scope f cdv A outer s H E).env (cxOf CX0 P w K mg base N qual scope f cdv A outer s H E).xe := PassesOwn.leaving
end Z

namespace Z
open PySem PySem.Spec PyProof.Rows L2
/-! heaps that grow, but at b; comprehensions over typed items -/
def Ext (b : Addr) (L L' : Lp) : Prop := ∀ a o, a ≠ b → L a = some o → L' a = some o
theorem Ext.refl (b : Addr) (L : Lp) : Ext b L L := fun _ _ _ h => h
theorem Ext.trans {b : Addr} {A B C : Lp} (h : Ext b A B) (k : Ext b B C) : Ext b A C := fun a o n e => k a o n (h a o n e)
theorem Le.ext {b : Addr} {L L' : Lp} (h : Le L L') : Ext b L L' := fun a o _ e => h a o e
theorem Ext.at_ {b : Addr} {L : Lp} {o : O} : Ext b L (up L b o) := fun a u n e => by rw [up_ne n]; exact e
theorem Ext.new {b a : Addr} {L L' : Lp} {o : O} (h : Ext b L L') (n : L a = none) : Ext b L (up L' a o) := fun c u nb e => by
  by_cases hc : c = a
  · subst hc; rw [n] at e; cases e
  · rw [up_ne hc]; exact h c u nb e
theorem Le.new1 {L : Lp} {a : Addr} {o : O} (n : L a = none) : Le L (Z.up L a o) := Le.new (Le.refl L) n
theorem up_up {L : Lp} {a : Addr} {o u : O} : up (up L a o) a u = up L a u := by
  funext b
  by_cases h : b = a
  · subst h; rw [up_same, up_same]
  · rw [up_ne h, up_ne h, up_ne h]
theorem ne_no {L : Lp} {a p : Addr} {o : O} (h : L a = some o) (n : L p = none) : a ≠ p := fun e => by subst e; rw [h] at n; cases n
/-- pure: the items' values are F's, what is none is left out -/
theorem lc_t {α : Type} {wi : TI'} {g : TG'} {tt : TT'} {te : TE'} {vs : List Nat} {τ : S'} {L L1 : Lp} {Q : VK'} (zs : List α) (enc : α → D) (F : α → Option D) (hz : zs.length ≤ sizeLine)
    (hi : ∀ R : List D → (Lp → Prop) → Lp → Prop, (∀ st : Lp → Prop, (∀ L', Le L1 L' → st L') → R (zs.map enc) st L1) → wi τ L R)
    (step : ∀ (z : α) (L' : Lp) (Q' : VK') (R' : Lp → Prop), z ∈ zs → Le L1 L' → (∀ y, F z = some y → ∀ L4, Le L' L4 → Q' y L4) → (F z = none → ∀ L4, Le L' L4 → R' L4) →
      g (enc z) (wipeD τ vs) L' fun τ2 L2 => tt τ2 L2 fun b L3 => if b = true then te τ2 L3 Q' else R' L3)
    (hq : ∀ p, L1 p = none → Q (.ref p) (up L1 p (.lst (zs.filterMap F)))) : wLc wi g tt te vs τ L Q := by
  refine hi _ fun st hst p np => ?_
  refine ⟨fun i L' => L' = up L1 p (.lst ((zs.take i).filterMap F)), by simp, fun i L' _ e => by rw [e]; exact hst _ (Le.new1 np), fun i x L' hx e => ?_, fun L' e => ?_⟩
  · subst e
    rw [List.getElem?_map] at hx
    cases hz2 : zs[i]? with
    | none => rw [hz2] at hx; cases hx
    | some z =>
      rw [hz2] at hx
      cases hx
      have hlt : i < zs.length := by
        rcases Nat.lt_or_ge i zs.length with h | h
        · exact h
        · rw [List.getElem?_eq_none h] at hz2; cases hz2
      have et : zs.take (i + 1) = zs.take i ++ [z] := by
        rw [List.take_add_one, hz2]; rfl
      have hlen : ((zs.take i).filterMap F).length < sizeLine := by
        have h1 := List.length_filterMap_le F (zs.take i)
        rw [List.length_take] at h1
        omega
      refine step z _ _ _ (List.mem_of_getElem? hz2) (Le.new1 np) (fun y hy L4 l4 => ?_) (fun hn L4 l4 => ?_)
      · refine ⟨_, l4 _ _ up_same, hlen, _, ?_, rfl⟩
        rw [et, List.filterMap_append, List.filterMap_cons, hy]
        intro a o ea
        by_cases h : a = p
        · subst h; rw [up_same] at ea ⊢; exact ea
        · rw [up_ne h] at ea ⊢
          exact l4 a o (by rw [up_ne h]; exact ea)
      · refine ⟨_, ?_, rfl⟩
        rw [et, List.filterMap_append, List.filterMap_cons, hn]
        rw [List.filterMap_nil, List.append_nil]
        exact l4
  · subst e
    rw [List.length_map, List.take_length]
    exact hq p np
theorem lc_m {α : Type} {wi : TI'} {g : TG'} {tt : TT'} {te : TE'} {vs : List Nat} {τ : S'} {L L1 : Lp} {Q : VK'} (zs : List α) (enc : α → D) (f : α → D) (hz : zs.length ≤ sizeLine)
    (hi : ∀ R : List D → (Lp → Prop) → Lp → Prop, (∀ st : Lp → Prop, (∀ L', Le L1 L' → st L') → R (zs.map enc) st L1) → wi τ L R)
    (step : ∀ (z : α) (L' : Lp) (Q' : VK') (R' : Lp → Prop), z ∈ zs → Le L1 L' → (∀ L4, Le L' L4 → Q' (f z) L4) →
      g (enc z) (wipeD τ vs) L' fun τ2 L2 => tt τ2 L2 fun b L3 => if b = true then te τ2 L3 Q' else R' L3)
    (hq : ∀ p, L1 p = none → Q (.ref p) (up L1 p (.lst (zs.map f)))) : wLc wi g tt te vs τ L Q :=
  lc_t zs enc (fun z => some (f z)) hz hi (fun z L' Q' R' hm l hy _ => step z L' Q' R' hm l (hy _ rfl)) fun p np => by
    rw [List.filterMap_eq_map']
    exact hq p np
/-- the items' values are found one behind another; the object at b may change: B i stands behind i of them -/
theorem lc_b {α β : Type} {wi : TI'} {g : TG'} {tt : TT'} {te : TE'} {vs : List Nat} {τ : S'} {L L1 : Lp} {Q : VK'} {b : Addr} (zs : List α) (enc : α → D) (enc2 : β → D) (A : Nat → List β → Prop) (B : Nat → Lp → Prop) (hz : zs.length ≤ sizeLine) (hb : L1 b ≠ none)
    (hB : ∀ i p L' o, L1 p = none → B i L' → B i (up L' p o))
    (hi : ∀ R : List D → (Lp → Prop) → Lp → Prop, (∀ st : Lp → Prop, (∀ L', Ext b L1 L' → st L') → R (zs.map enc) st L1) → wi τ L R)
    (a0 : A 0 []) (b0 : B 0 L1)
    (step : ∀ (i : Nat) (z : α) (bs : List β) (L' : Lp) (Q' : VK') (R' : Lp → Prop), zs[i]? = some z → Ext b L1 L' → B i L' → A i bs → (∀ y L4, Ext b L' L4 → B (i + 1) L4 → A (i + 1) (bs ++ [y]) → Q' (enc2 y) L4) →
      g (enc z) (wipeD τ vs) L' fun τ2 L2 => tt τ2 L2 fun b L3 => if b = true then te τ2 L3 Q' else R' L3)
    (hq : ∀ p bs L', L1 p = none → Ext b L1 L' → B zs.length L' → A zs.length bs → bs.length = zs.length → L' p = some (.lst (bs.map enc2)) → Q (.ref p) L') : wLc wi g tt te vs τ L Q := by
  refine hi _ fun st hst p np => ?_
  have nb : p ≠ b := fun e => by subst e; exact hb np
  refine ⟨fun i L' => i ≤ zs.length ∧ ∃ bs, bs.length = i ∧ L' p = some (.lst (bs.map enc2)) ∧ Ext b L1 L' ∧ B i L' ∧ A i bs, ⟨Nat.zero_le _, [], rfl, up_same, (Ext.refl b L1).new np, hB _ _ _ _ np b0, a0⟩,
    fun i L' _ ⟨_, bs, _, _, e, _⟩ => hst _ e, fun i x L' hx e => ?_, fun L' e => ?_⟩
  · obtain ⟨hle, bs, hl, hp, e, b1, a1⟩ := e
    rw [List.getElem?_map] at hx
    cases hz2 : zs[i]? with
    | none => rw [hz2] at hx; cases hx
    | some z =>
      rw [hz2] at hx
      cases hx
      have hlt : i < zs.length := by
        rcases Nat.lt_or_ge i zs.length with h | h
        · exact h
        · rw [List.getElem?_eq_none h] at hz2; cases hz2
      refine step i z bs L' _ _ hz2 e b1 a1 fun y L4 e4 b4 a4 => ?_
      refine ⟨_, e4 _ _ nb hp, by rw [List.length_map]; omega, Dn.mk ⟨hlt, bs ++ [y], by simp [hl], ?_, ?_, hB _ _ _ _ np b4, a4⟩⟩
      · rw [up_same]; simp
      · exact (e.trans e4).new np
  · rw [List.length_map] at e
    obtain ⟨_, bs, hl, hp, e, b1, a1⟩ := e
    exact hq p bs L' np e b1 a1 hl hp
theorem it_tup {τ : S'} {L L1 : Lp} {t : TE'} {ds : List D} {b : Addr} (R : List D → (Lp → Prop) → Lp → Prop) (h : ∀ Q : VK', Q (.tup ds) L1 → t τ L Q) (k : R ds (fun _ => True) L1) : vSeq t τ L R := h _ k
theorem wIfS_h {c : TT'} {t u : TS'} {E : Ends'} {τ : S'} {L : Lp} : wIfS c t u E τ L = c τ L fun b L1 => if b = true then hold (t E) τ L1 else hold (u E) τ L1 := rfl
theorem wVar_0 {d : D} {τ : S'} {L : Lp} {Q : VK'} : wVar 0 (some d :: τ) L Q = Q d L := rfl
theorem wVar_s {n : Nat} {o : Option D} {τ : S'} {L : Lp} {Q : VK'} : wVar (n + 1) (o :: τ) L Q = wVar n τ L Q := rfl
theorem hNil_e {τ : S'} {L : Lp} {Q : S' → Lp → Prop} : hNil [] τ L Q = Q τ L := rfl
end Z

namespace Z
open PySem PySem.Spec PyProof.Rows L2
theorem wC_e {d : D} {x0 L Q} : wC d x0 L Q = (Q d L) := rfl
theorem wNil_e  {x0 L Q} : wNil  x0 L Q = (Q [] L) := rfl
theorem wCons_e {ta : TE'} {tr : TA'} {τ L Q} : wCons ta tr τ L Q = (ta τ L fun d L1 => tr τ L1 fun ds L2 => Q (d :: ds) L2) := rfl
theorem wTup_e {t : TA'} {τ L Q} : wTup t τ L Q = (t τ L fun ds L1 => Q (.tup ds) L1) := rfl
theorem wLst_e {t : TA'} {τ L Q} : wLst t τ L Q = (t τ L fun ds L1 => ∀ p, L1 p = none → Q (.ref p) (up L1 p (.lst ds))) := rfl
theorem wOp_e {r : R2'} {ta tb : TE'} {τ L Q} : wOp r ta tb τ L Q = (ta τ L fun d L1 => tb τ L1 fun e L2 => r d e L2 Q) := rfl
theorem wUn_e {r : R1'} {ta : TE'} {τ L Q} : wUn r ta τ L Q = (ta τ L fun d L1 => r d L1 Q) := rfl
theorem wIf_e {t : TT'} {ta tb : TE'} {τ L Q} : wIf t ta tb τ L Q = (t τ L fun c L1 => if c = true then ta τ L1 Q else tb τ L1 Q) := rfl
theorem wAndV_e {ta tb : TE'} {τ L Q} : wAndV ta tb τ L Q = (ta τ L fun d L1 => blK d L1 fun c L1 => if c = true then tb τ L1 Q else Q (.bl false) L1) := rfl
theorem wOrV_e {ta tb : TE'} {τ L Q} : wOrV ta tb τ L Q = (ta τ L fun d L1 => blK d L1 fun c L1 => if c = true then Q (.bl true) L1 else tb τ L1 Q) := rfl
theorem wNotV_e {ta : TE'} {τ L Q} : wNotV ta τ L Q = (ta τ L fun d L1 => blK d L1 fun c L1 => Q (.bl (!c)) L1) := rfl
theorem wB_e {t : TE'} {τ L Q} : wB t τ L Q = (t τ L fun d L1 => blK d L1 Q) := rfl
theorem wAnd_e {t u : TT'} {τ L Q} : wAnd t u τ L Q = (t τ L fun c L1 => if c = true then u τ L1 Q else Q false L1) := rfl
theorem wOr_e {t u : TT'} {τ L Q} : wOr t u τ L Q = (t τ L fun c L1 => if c = true then Q true L1 else u τ L1 Q) := rfl
theorem zNot_e {t : TT'} {τ L Q} : zNot t τ L Q = (t τ L fun c L1 => Q (!c) L1) := rfl
theorem zTru_e {t : TE'} {τ L Q} : zTru t τ L Q = (t τ L fun d L1 => truD d L1 Q) := rfl
theorem wChain_e {r r' : R2'} {ta tb tc : TE'} {τ L Q} : wChain r r' ta tb tc τ L Q = (ta τ L fun x L1 => tb τ L1 fun y L2 => r x y L2 fun z L3 => blK z L3 fun k L3 => if k = true then tc τ L3 fun u L4 => r' y u L4 Q else Q (.bl false) L3) := rfl
theorem hName_e {i : Nat} {d τ L Q} : hName i d τ L Q = (Q (τ.set i (some d)) L) := rfl
theorem hTup_e {n : Nat} {t : TGs'} {d τ L Q} : hTup n t d τ L Q = (tupK d fun ds => ds.length = n ∧ t ds τ L Q) := rfl
theorem hSub_e {to ti : TE'} {t : D → D → D → Lp → (Lp → Prop) → Prop} {d τ L Q} : hSub to ti t d τ L Q = (to τ L fun o L1 => ti τ L1 fun i L2 => t o i d L2 fun L3 => Q τ L3) := rfl
theorem wNext_e  {E τ L} : wNext  E τ L = (E.nx τ L) := rfl
theorem wSeq_e {t u : TS'} {E τ L} : wSeq t u E τ L = (t { E with nx := hold (u E) } τ L) := rfl
theorem wBreak_e  {E τ L} : wBreak  E τ L = (E.bk τ L) := rfl
theorem wCont_e  {E τ L} : wCont  E τ L = (E.ct τ L) := rfl
theorem wDrop_e {t : TE'} {E τ L} : wDrop t E τ L = (t τ L fun _ L1 => E.nx τ L1) := rfl
theorem wRet_e {t : TE'} {E τ L} : wRet t E τ L = (t τ L E.rt) := rfl
theorem wRetN_e  {E x1 L} : wRetN  E x1 L = (E.rt .non L) := rfl
theorem wNever_e  {x0 x1 x2} : wNever  x0 x1 x2 = (False) := rfl
theorem wAsg_e {t : TE'} {g : TG'} {E τ L} : wAsg t g E τ L = (t τ L fun d L1 => g d τ L1 E.nx) := rfl
theorem wPar_e {i j : Nat} {ta : TA'} {E τ L} : wPar i j ta E τ L = (ta τ L fun ds L1 => pairK ds fun v w => E.nx ((τ.set i (some v)).set j (some w)) L1) := rfl
theorem wIxk_e {n : Nat} {t : TE'} {τ L Q} : wIxk n t τ L Q = (t τ L fun d L1 => ixK (seqD d L1) n fun x => Q x L1) := rfl
theorem wNoPart_e  {x0 L Q} : wNoPart  x0 L Q = (Q none L) := rfl
theorem wPart_e {t : TE'} {τ L Q} : wPart t τ L Q = (t τ L fun d L1 => inK d fun i => Q (some i) L1) := rfl
theorem wSl_e {te : TE'} {tl th : TO'} {τ L Q} : wSl te tl th τ L Q = (te τ L fun d L1 => tl τ L1 fun l L2 => th τ L2 fun u L3 => slD d l u L3 Q) := rfl
theorem wCB_e {r : RA'} {t : TA'} {τ L Q} : wCB r t τ L Q = (t τ L fun ds L1 => r ds L1 Q) := rfl
theorem wBM_e {T : String} {r : RM'} {to : TE'} {t : TA'} {τ L Q} : wBM T r to t τ L Q = (to τ L fun d L1 => kindD T d L1 ∧ t τ L1 fun ds L2 => r d ds L2 Q) := rfl
theorem wBM0_e {T : String} {r : RM'} {to : TE'} {τ L Q} : wBM0 T r to τ L Q = (to τ L fun d L1 => kindD T d L1 ∧ r d [] L1 Q) := rfl
theorem vSeq_e {t : TE'} {τ L R} : vSeq t τ L R = (t τ L fun d L1 => walkK d L1 R) := rfl
theorem vRng1_e {t : TE'} {τ L R} : vRng1 t τ L R = (t τ L fun d L1 => inK d fun j => -(2 ^ 62) ≤ j ∧ j < 2 ^ 62 ∧ R (rgD 0 j.toNat) (fun _ => True) L1) := rfl
theorem vRng2_e {t u : TE'} {τ L R} : vRng2 t u τ L R = (t τ L fun d L1 => u τ L1 fun e L2 => inK d fun i => inK e fun j => (-(2 ^ 62) ≤ i ∧ i < 2 ^ 62 ∧ -(2 ^ 62) ≤ j ∧ j < 2 ^ 62) ∧ R (rgD i (j - i).toNat) (fun _ => True) L2) := rfl
theorem vEnum_e {t : TE'} {τ L R} : vEnum t τ L R = (t τ L fun d L1 => enK d L1 R) := rfl
theorem wYes_e  {x0 L Q} : wYes  x0 L Q = (Q true L) := rfl
theorem wCall_e {sp : Sp'} {es : List D} {E : XK'} {t : TA'} {τ L Q} : wCall sp es E t τ L Q = (t τ L fun ds L1 => sp (ds ++ es) L1 Q E) := rfl
theorem wDnewT_e  {x0 L Q} : wDnewT  x0 L Q = (∀ p, L p = none → Q (.ref p) (up L p (.dT []))) := rfl
theorem wDget_e {td tk : TE'} {τ L Q} : wDget td tk τ L Q = (td τ L fun x L1 => tk τ L1 fun y L2 => dkK x y L2 fun a kvs k => ∃ d, valD kvs k = some d ∧ Q d L2) := rfl
theorem wDget2_e {td tk tx : TE'} {τ L Q} : wDget2 td tk tx τ L Q = (td τ L fun x L1 => isDct x L1 ∧ tk τ L1 fun y L2 => tx τ L2 fun z L3 => dkK x y L3 fun a kvs k => Q ((valD kvs k).getD z) L3) := rfl
theorem wDput_e {td tk tv : TE'} {E τ L} : wDput td tk tv E τ L = (tv τ L fun v L1 => td τ L1 fun x L2 => tk τ L2 fun y L3 => dkK x y L3 fun a kvs k => kvs.length < sizeLine ∧ E.nx τ (up L3 a (.dT (putD kvs k v)))) := rfl
theorem wSortIt_e {td : TE'} {τ L Q} : wSortIt td τ L Q = (td τ L fun d L1 => sortItK d L1 Q) := rfl
theorem wPar3_e {i j l : Nat} {ta : TA'} {E τ L} : wPar3 i j l ta E τ L = (ta τ L fun ds L1 => trioK ds fun u v w => E.nx (((τ.set i (some u)).set j (some v)).set l (some w)) L1) := rfl
theorem wFld_e {K : PySem.W.Frag} {t : TE'} {f : Str} {τ L Q} : wFld K t f τ L Q = (t τ L fun d L1 => fldK K d f L1 fun v => Q v L1) := rfl
theorem wFldS_e {K : PySem.W.Frag} {to tv : TE'} {f : Str} {E τ L} : wFldS K to tv f E τ L = (tv τ L fun v L1 => to τ L1 fun d L2 => sfldK K d f v L2 fun L3 => E.nx τ L3) := rfl
theorem wMake_e {C : Addr} {sp : Sp'} {E : XK'} {t : TA'} {τ L Q} : wMake C sp E t τ L Q = (t τ L fun ds L1 => ∀ x, L1 x = none → sp (.ref x :: ds) (up L1 x (.ins C [])) (fun d L2 => d = .non ∧ Q (.ref x) L2) E) := rfl
theorem wCallK_e {sp : Sp'} {g : {α : Type} → List α → List α} {E : XK'} {t : TA'} {τ L Q} : wCallK sp g E t τ L Q = (t τ L fun ds L1 => sp (g ds) L1 Q E) := rfl
theorem hCons_e {t : TG'} {u : TGs'} {d : D} {ds : List D} {τ L Q} : hCons t u (d :: ds) τ L Q = t d τ L fun τ2 L2 => u ds τ2 L2 Q := rfl
theorem hold_eq {α : Type} (x : α) : hold x = x := rfl
end Z

/-! what is never written again becomes a value -/
namespace Z
open PySem PySem.Spec PyProof.Rows L2
/-! ### at the hand layer -/
/-- behind an expression one thing may be locked for good -/
def frzQ (Q : VK) : VK := fun v H => Q v H ∨ ∃ d u, H d = some u ∧ Mut (some u) ∧ ∀ od, Q v (upd H d (.frz od u))
theorem pe_frz {X : Cx} {e : Expr} {t : TE} (h : PE X e t) : PE X e (fun σ H Q => t σ H (frzQ Q)) := by
  refine ⟨fun pins s σ H Q I hw => ?_⟩
  refine thn (h.run pins s σ H _ I hw) fun v s1 ⟨x, H1, I1, r, q⟩ => ?_
  rcases q with q | ⟨d, u, hd, mu, q⟩
  · exact ⟨x, H1, I1, r, q⟩
  · obtain ⟨od, I2⟩ := I1.lock hd mu
    exact ⟨x, _, I2, r, q od⟩
/-- locked twice: nobody reads it -/
def lk (od : Obj) (u : HO) : HO := .frz od (.frz od u)
section
variable {X : Cx} {pins : List (Addr × Obj)} {σ : L2.St} {H : Hp} {s : Shared}
theorem lock2 {d : Addr} {u : HO} (I : Inv X pins σ H s) (h : H d = some u) (mu : Mut (some u)) : ∃ od, Inv X pins σ (upd H d (lk od u)) s := by
  have x := I.hok d u h
  have ex : ∃ od, s.heap.get? d = some od := by
    cases u with
    | lst xs => obtain ⟨_, _, _, _, e⟩ := x; exact ⟨_, e⟩
    | dK kvs => obtain ⟨_, _, _, _, o, _, _, e, _⟩ := x; exact ⟨o, e⟩
    | dT kvs => obtain ⟨_, _, _, _, o, _, _, e, _⟩ := x; exact ⟨o, e⟩
    | set S n => obtain ⟨o, _, _, _, e, _⟩ := x; exact ⟨o, e⟩
    | ins C dx fs => obtain ⟨_, _, _, e, _⟩ := x; exact ⟨_, e⟩
    | ext φ => obtain ⟨_, ⟨_, e⟩, _⟩ := x; exact ⟨_, e⟩
    | _ => exact False.elim mu
  obtain ⟨od, e⟩ := ex
  have new : ObjOk X.prog X.w (upd H d (lk od u)) s.heap d (lk od u) := by
    refine ⟨e, e, x.stay (fun b v _ q => q) (fun b q => ?_) fun b xs q => ?_⟩
    · rw [upd_ne (fun z => by rw [z, h] at q; cases q; exact mu)]; exact q
    · rw [upd_ne (fun z => by rw [z, h] at q; cases q; exact mu)]; exact q
  exact ⟨od, I.write (x := d) (e := d) (t' := s.toks) (h' := s.heap) (by rw [h]; exact mu) (.inl rfl) (fun b v _ q => q) ⟨od, e⟩ new⟩
theorem unlock2 {d : Addr} {od : Obj} {u : HO} (I : Inv X pins σ H s) (h : H d = some (lk od u)) (hn : ∀ o' u', X.H_0 d ≠ some (.frz o' u')) : Inv X pins σ (upd H d u) s := by
  have I1 : Inv X pins σ (upd H d (.frz od u)) s := by
    have z := I.unlock (u := .frz od u) h hn
    exact z
  have I2 := I1.unlock (u := u) (od := od) upd_same hn
  rw [upd_upd] at I2
  exact I2
end
def tLk (t : TE) : TE := fun σ H Q => ∃ d u, H d = some u ∧ Mut (some u) ∧ ∀ od, t σ (upd H d (lk od u)) fun v H' => H' d = some (lk od u) ∧ Q v (upd H' d u)
def tLkT (t : TT) : TT := fun σ H Q => ∃ d u, H d = some u ∧ Mut (some u) ∧ ∀ od, t σ (upd H d (lk od u)) fun v H' => H' d = some (lk od u) ∧ Q v (upd H' d u)
theorem pe_lk {X : Cx} {e : Expr} {t : TE} (h : PE X e t) : PE X e (tLk t) := by
  refine ⟨fun pins s σ H Q I hw => ?_⟩
  obtain ⟨d, u, hd, mu, hw⟩ := hw
  obtain ⟨od, I1⟩ := lock2 I hd mu
  refine thn (h.run pins s σ _ _ I1 (hw od)) fun v s1 ⟨x, H1, I2, r, e2, q⟩ => ?_
  exact ⟨x, _, unlock2 I2 e2 (I.nofrz hd mu), r, q⟩
theorem pts_lk {X : Cx} {ifs : List Expr} {t : TT} (h : PTs X ifs t) : PTs X ifs (tLkT t) := by
  refine ⟨fun pins s σ H Q I hw => ?_⟩
  obtain ⟨d, u, hd, mu, hw⟩ := hw
  obtain ⟨od, I1⟩ := lock2 I hd mu
  refine thn (h.run pins s σ _ _ I1 (hw od)) fun v s1 ⟨H1, I2, e2, q⟩ => ?_
  exact ⟨_, unlock2 I2 e2 (I.nofrz hd mu), q⟩
/-! lists that may be locked -/
section
variable {X : Cx}
theorem lstR {pins : List (Addr × Obj)} {σ : L2.St} {H : Hp} {s : Shared} {l : Addr} {xs : List V} (I : Inv X pins σ H s) (h : Rd H l (.lst xs)) : xs.length ≤ sizeLine ∧ ∃ (its : List Value) (n : Nat), Vals xs its ∧ xs.length = its.length ∧ s.heap.get? l = some { cls := .type "list", data := .seq its.toArray n } := by
  obtain ⟨z, its, n, r, e⟩ := h.ok I.hok
  exact ⟨z, its, n, r, r.length, e⟩
def rCatR : R2 := fun x y H Q => ∃ l b xs zs, x = .ref l ∧ y = .ref b ∧ Rd H l (.lst xs) ∧ Rd H b (.lst zs) ∧ xs.length + zs.length ≤ sizeLine ∧ ∀ p, H p = none → Q (.ref p) (upd H p (.lst (xs ++ zs)))
theorem op_catR : OpR X (binaryOp .Add) rCatR := by
  intro pins s σ H x y v u Q I rx ry h
  obtain ⟨l, b, xs, zs, rfl, rfl, hH, hB, hz, q⟩ := h
  cases rx
  cases ry
  obtain ⟨z, its, n, r, hl, e⟩ := lstR I hH
  obtain ⟨z2, its2, n2, r2, hl2, e2⟩ := lstR I hB
  refine PySem.P.add_list e e2 ?_ (by rw [List.size_toArray, List.size_toArray]; omega)
  have ea : its.toArray ++ its2.toArray = (its ++ its2).toArray := by simp
  rw [ea]
  exact ⟨.ref _, _, I.lnew (t' := s.toks) (r.append r2) (by rw [List.length_append]; omega), rfl, q _ I.fresh⟩
def rRepR : R2 := fun x y H Q => ∃ l k xs, x = .ref l ∧ y = .int k ∧ Rd H l (.lst xs) ∧ -(2 ^ 63) ≤ k ∧ k < 2 ^ 63 ∧ xs.length * k.toNat ≤ sizeLine ∧
  ∀ p, H p = none → Q (.ref p) (upd H p (.lst (List.replicate k.toNat xs).flatten))
theorem op_repR : OpR X (binaryOp .Mult) rRepR := by
  intro pins s σ H x y v u Q I rx ry h
  obtain ⟨l, k, xs, rfl, rfl, hH, h1, h2, hz, q⟩ := h
  cases rx
  obtain ⟨t, rfl⟩ := ry
  obtain ⟨z, its, n, r, hl, e⟩ := lstR I hH
  have hlen : its.toArray.size * k.toNat ≤ sizeLine := by rw [List.size_toArray, ← hl]; exact hz
  have hcap : ¬ its.toArray.size * k.toNat > (2 ^ 63 - 1) / 8 := by
    have : (sizeLine : Nat) ≤ (2 ^ 63 - 1) / 8 := by decide
    omega
  have hfit : ¬ (!Builtin.List.listFitsIndex k) = true := by
    rw [fitsIndex_both h1 h2]
    exact Bool.false_ne_true
  have hlong : ¬ Builtin.List.listTooLong (its.toArray.size * k.toNat) = true := by
    rw [notLongL hlen]
    exact Bool.false_ne_true
  have hnew : List.foldl (fun x1 x2 => x1 ++ x2) #[] (List.replicate (if its.toArray.isEmpty = true then 0 else k.toNat) its.toArray) = (List.replicate k.toNat its).flatten.toArray := by
    have f0 : ∀ m : Nat, List.foldl (fun x1 x2 => x1 ++ x2) #[] (List.replicate m its.toArray) = (List.replicate m its).flatten.toArray := fun m => by
      have := foldl_rep its m []
      rw [List.nil_append] at this
      exact this
    rw [f0]
    cases its with
    | nil => simp
    | cons a r' => rw [if_neg (by simp)]
  refine wpAny_binaryOp_repeat_ref (T := "list") (U := "int") (by decide) ⟨_, e, rfl⟩ (fun s' => typeIs_int s' k t) noFill_list_mul F.fills_int_mul F.slot_int_rmul repeat_list F.slot_int_index.lookup
    (call_meets F.slot_int_rmul (typeIs_int s k t) F.entry_int_rmul (F.args_int_rmul_2 _ _) (int___rmul___int_list k t l its.toArray n)
      ⟨e, rfl, ⟨_, e, rfl⟩, call_meets F.slot_list_mul ⟨_, e, rfl⟩ F.entry_list_mul (F.args_list_mul_2 _ _) (AutoListH.list___mul___list_int_3 l its.toArray n k t hfit hcap hlong) ⟨e, ?_⟩⟩)
  rw [hnew]
  exact ⟨.ref _, _, I.lnew (t' := s.toks) (r.rep k.toNat) (by rw [PyProof.Rows.lm_len_rep_flat, Nat.mul_comm]; exact hz), rfl, q _ I.fresh⟩
def rExtR : V → List V → Hp → VK → Prop := fun x vs H Q => ∃ l b xs zs, x = .ref l ∧ vs = [.ref b] ∧ H l = some (.lst xs) ∧ Rd H b (.lst zs) ∧ xs.length + zs.length ≤ sizeLine ∧ Q .non (upd H l (.lst (xs ++ zs)))
theorem mt_extR : MtM X "list.extend" rExtR := by
  intro pins s σ H x vs v us Q I rx rv h
  obtain ⟨l, b, xs, zs, rfl, rfl, hH, hB, hz, q⟩ := h
  cases rx
  obtain ⟨u, rfl, ru⟩ := rv.one
  cases ru
  obtain ⟨z, its, n, r, hl, e⟩ := I.lstM hH
  obtain ⟨z2, its2, n2, r2, hl2, e2⟩ := lstR I hB
  have hsz : its.toArray.size + its2.toArray.size ≤ sizeLine := by rw [List.size_toArray, List.size_toArray]; omega
  have hlong : ¬ (!its.toArray.isEmpty && Builtin.List.listTooLong (its.toArray.size + its2.toArray.size)) = true := by
    rw [notLongL hsz, Bool.and_false]
    exact Bool.false_ne_true
  refine call_meets F.slot_list_extend ⟨_, e, rfl⟩ F.entry_list_extend (F.args_list_extend_2 _ _)
    (AutoSeq1.list_extend_list_list_0 l its.toArray n b its2.toArray n2 hlong (by rw [List.size_toArray]; omega) (by omega)) ⟨e, e2, ?_⟩
  refine ⟨.non, _, I.lset (its' := its ++ its2) hH e (by simp) (r.append r2) ?_, rfl, q⟩
  rw [List.length_append]
  omega
/-- a locked thing, seen unlocked -/
theorem thaw {H : Hp} {P : Program} {w : World} {h : Heap} {d : Addr} {od : Obj} {u : HO} (ok : HOk P w H h) (e : H d = some (.frz od u)) : HOk P w (upd H d u) h := fun b o q => by
  have neH : ∀ b o, H b = some o → (∀ o' u', o ≠ .frz o' u') → b ≠ d := fun b o e' hne z => by
    rw [z, e] at e'
    cases e'
    exact hne _ _ rfl
  by_cases hb : b = d
  · rw [hb, upd_same] at q
    cases q
    rw [hb]
    obtain ⟨_, x⟩ := ok d _ e
    exact x.stay (fun c v _ q => q) (fun c q => by rw [upd_ne (neH c _ q (fun _ _ z => nomatch z))]; exact q) fun c xs q => by rw [upd_ne (neH c _ q (fun _ _ z => nomatch z))]; exact q
  · rw [upd_ne hb] at q
    exact (ok b o q).stay (fun c v _ q => q) (fun c q => by rw [upd_ne (neH c _ q (fun _ _ z => nomatch z))]; exact q) fun c xs q => by rw [upd_ne (neH c _ q (fun _ _ z => nomatch z))]; exact q
theorem ins_getR {H : Hp} {P : Program} {w : World} {h : Heap} {a C dx : Addr} {fs : List (Str × V)} (hok : HOk P w H h) (e : Rd H a (.ins C dx fs)) : ∃ mA, ObjM h a dx C mA ∧ (∀ f, RelO (fs.lookup f) (mA f)) ∧ PySem.Within mA (fs.map (·.1)) := by
  rcases e with e | ⟨od, e⟩
  · obtain ⟨mA, a1, a2, a3, _⟩ := ins_get hok e
    exact ⟨mA, a1, a2, a3⟩
  · obtain ⟨mA, a1, a2, a3, _⟩ := ins_get (thaw hok e) upd_same
    exact ⟨mA, a1, a2, a3⟩
def tFldR (K : PySem.W.Frag) (ta : TE) (f : Str) : TE := fun σ H Q => ta σ H fun x H1 => ∃ a C dx fs v, x = .ref a ∧ Rd H1 a (.ins C dx fs) ∧ Cls K C ∧ NoAttr K C f ∧ fs.lookup f = some v ∧ Q v H1
theorem pe_fldR {e : Expr} {ta : TE} {f : Str} {pos : Pos} (he : PE X e ta) (hb : attributeBase e f X.env (eval e X.env) = eval e X.env) : PE X (.Attribute e f pos) (tFldR X.K ta f) := by
  refine ⟨fun pins s σ H Q I h => ?_⟩
  refine attr_of hb (thn (he.run pins s σ H _ I h) fun u s1 ⟨x, H1, I1, rx, a, C, dx, fs, v, ex, ea, c, n, l, q⟩ => ?_)
  subst ex
  obtain rfl : u = Value.ref a := rx
  obtain ⟨mA, O, r, _⟩ := ins_getR I1.hok ea
  obtain ⟨u', hu, ru⟩ := RelO.some_of (v := v) (o := mA f) (by rw [← l]; exact r f)
  exact get_map I1.kIn O (c.get f) c.hd n hu (handed_of ru) ⟨v, H1, I1.tok _, ru, q⟩
end
end Z

/-! values for good, by data -/
namespace Z
open PySem PySem.Spec PyProof.Rows L2
/-! ### heaps less one -/
def del (L : Lp) (a : Addr) : Lp := fun b => if b = a then none else L b
theorem del_same {L : Lp} {a : Addr} : del L a a = none := if_pos rfl
theorem del_ne {L : Lp} {a b : Addr} (h : b ≠ a) : del L a b = L b := if_neg h
theorem del_up {L : Lp} {a : Addr} {o : O} : del (up L a o) a = del L a := by
  funext b
  by_cases h : b = a
  · subst h; rw [del_same, del_same]
  · rw [del_ne h, del_ne h, up_ne h]
theorem del_no {L : Lp} {a : Addr} (h : L a = none) : del L a = L := by
  funext b
  by_cases e : b = a
  · subst e; rw [del_same, h]
  · rw [del_ne e]
theorem del_upn {L : Lp} {a : Addr} {o : O} (h : L a = none) : del (up L a o) a = L := by rw [del_up, del_no h]
theorem up_del {L : Lp} {a : Addr} {o : O} (h : L a = some o) : up (del L a) a o = L := by
  funext b
  by_cases e : b = a
  · subst e; rw [up_same, h]
  · rw [up_ne e, del_ne e]
theorem Le.del {L : Lp} {a : Addr} : Le (del L a) L := fun b o e => by
  by_cases h : b = a
  · subst h; rw [del_same] at e; cases e
  · rw [del_ne h] at e; exact e
theorem RelFs.of {K : PySem.W.Frag} {H : Hp} : ∀ {fs : List (Str × D)} {gs : List (Str × V)}, RelK K H fs gs → RelFs K H fs gs
  | _, _, .nil => .nil
  | (p, d) :: _, (q, v) :: _, .cons h r => by
    obtain ⟨h1, h2⟩ := h
    have h1 : p = q := h1
    subst h1
    exact .cons h2 (RelFs.of r)
theorem RelFs.k {K : PySem.W.Frag} {H : Hp} : ∀ {fs : List (Str × D)} {gs : List (Str × V)}, RelFs K H fs gs → RelK K H fs gs
  | _, _, .nil => .nil
  | _, _, .cons h r => .cons ⟨rfl, h⟩ (RelFs.k r)
theorem RepH.hid2 {K : PySem.W.Frag} {H : Hp} {L : Lp} {p : Addr} {u : HO} (h : RepH K H L) (n : L p = none) (k : Kp H (upd H p u)) (hx : ¬ isFix (H p)) : RepH K (upd H p u) L := fun a o e =>
  (h a o e).upd (fun z => by subst z; rw [n] at e; cases e) k fun φ z => hx (by rw [z]; exact trivial)
theorem RepH.frz {K : PySem.W.Frag} {H : Hp} {L : Lp} {p : Addr} {u : HO} (h : RepH K H L) (hx : ¬ isFix (H p)) : RepH K (upd H p u) (del L p) := RepH.hid2 (h.le Le.del) del_same (Kp.upd hx) hx
/-! ### freezing -/
abbrev PostD (K : PySem.W.Frag) (H : Hp) (Q' : VK') (Q : VK) : Prop := ∀ d1 L1 v1 H1, Q' d1 L1 → Kp H H1 → RepH K H1 L1 → RelD K H1 d1 v1 → Q v1 H1
def frzK (d : D) (L : Lp) (Q : VK') : Prop := match d with
  | .ref a => (match L a with
    | some (.lst ds) => Q (.ilst ds) (del L a)
    | some (.ins C fs) => Q (.obj C fs) (del L a)
    | _ => False)
  | d => Q d L
theorem frzK_lst {L : Lp} {a : Addr} {ds : List D} {Q : VK'} (h : L a = some (.lst ds)) : frzK (.ref a) L Q = Q (.ilst ds) (del L a) := by
  unfold frzK; simp only [h]
theorem frzK_ins {L : Lp} {a C : Addr} {fs : List (Str × D)} {Q : VK'} (h : L a = some (.ins C fs)) : frzK (.ref a) L Q = Q (.obj C fs) (del L a) := by
  unfold frzK; simp only [h]
theorem frz_rel {K : PySem.W.Frag} {H : Hp} {L : Lp} {d : D} {v : V} {Q' : VK'} {Q : VK} (rd : RelD K H d v) (rh : RepH K H L) (q : frzK d L Q') (k : PostD K H Q' Q) : frzQ Q v H := by
  cases d with
  | ref a =>
    cases rd
    cases e : L a with
    | none => unfold frzK at q; simp only [e] at q
    | some o =>
      cases o with
      | lst ds =>
        rw [frzK_lst e] at q
        obtain ⟨vs, e2, r⟩ := rh _ _ e
        refine .inr ⟨a, _, e2, trivial, fun od => ?_⟩
        have nf : ¬ isFix (H a) := by rw [e2]; exact id
        have kp : Kp H (upd H a (.frz od (.lst vs))) := Kp.upd nf
        exact k _ _ _ _ q kp (rh.frz nf) (.ilst ⟨od, upd_same⟩ (r.mono kp))
      | ins C fs =>
        rw [frzK_ins e] at q
        obtain ⟨dx, gs, e2, r⟩ := rh _ _ e
        refine .inr ⟨a, _, e2, trivial, fun od => ?_⟩
        have nf : ¬ isFix (H a) := by rw [e2]; exact id
        have kp : Kp H (upd H a (.frz od (.ins C dx gs))) := Kp.upd nf
        exact k _ _ _ _ q kp (rh.frz nf) (.obj upd_same (RelFs.mono kp (RelFs.of r)))
      | dT kvs => unfold frzK at q; simp only [e] at q
      | dK kvs => unfold frzK at q; simp only [e] at q
      | tab t => unfold frzK at q; simp only [e] at q
      | xd fs => unfold frzK at q; simp only [e] at q
  | _ => exact .inl (k _ L _ H q (Kp.refl H) rh rd)
/-- a new list, frozen at once -/
theorem frz_lst {K : PySem.W.Frag} {H : Hp} {L : Lp} {p : Addr} {ds : List D} {vs : List V} {Q' : VK'} {Q : VK} (rh : RepH K H L) (np : H p = none) (r : RelDs K H ds vs) (q : Q' (.ilst ds) L) (k : PostD K H Q' Q) : frzQ Q (.ref p) (upd H p (.lst vs)) := by
  refine .inr ⟨p, _, upd_same, trivial, fun od => ?_⟩
  rw [upd_upd]
  exact k _ _ _ _ q (Kp.new np) (rh.hid np) (.ilst ⟨od, upd_same⟩ (r.mono (Kp.new np)))
def wFz (t : TE') : TE' := fun τ L Q => t τ L fun d L1 => frzK d L1 Q
theorem wFz_e {t : TE'} {τ : S'} {L : Lp} {Q : VK'} : wFz t τ L Q = t τ L fun d L1 => frzK d L1 Q := rfl
def wFg (t : TE') : TE' := fun τ L Q => t τ L fun d L1 => Dn (Q d) L1
theorem wFg_e {t : TE'} {τ : S'} {L : Lp} {Q : VK'} : wFg t τ L Q = t τ L fun d L1 => Dn (Q d) L1 := rfl
section
variable {X : Cx}
theorem q_fz {e : Expr} {t : TE'} (h : QE X e t) : QE X e (wFz t) := PE.str (pe_frz h) fun σ H Q h => by
  obtain ⟨τ, L, Q', a, b, c, k⟩ := h
  exact ⟨τ, L, _, a, b, c, fun d L1 v H1 q kp rh rd => frz_rel rd rh q fun d2 L2 v2 H2 q2 kp2 => k d2 L2 v2 H2 q2 (kp.trans kp2)⟩
/-- less is known from here on -/
theorem q_fg {e : Expr} {t : TE'} (h : QE X e t) : QE X e (wFg t) := PE.str h fun σ H Q h => by
  obtain ⟨τ, L, Q', a, b, c, k⟩ := h
  exact ⟨τ, L, _, a, b, c, fun d L1 v H1 ⟨L2, l, q⟩ kp rh rd => k d L2 v H1 q kp (rh.le l) rd⟩
def wLstF (t : TA') : TE' := fun τ L Q => t τ L fun ds L1 => Q (.ilst ds) L1
theorem wLstF_e {t : TA'} {τ : S'} {L : Lp} {Q : VK'} : wLstF t τ L Q = t τ L fun ds L1 => Q (.ilst ds) L1 := rfl
theorem q_lstF {es : List Expr} {pos} {t : TA'} (h : QA X es t) (hz : Nat.ble es.length 1000 = true := by rfl) : QE X (.List es pos) (wLstF t) := PE.str (pe_frz (pe_lst h)) fun σ H Q h => by
  obtain ⟨τ, L, Q', a, b, c, k⟩ := h
  refine ⟨τ, L, _, a, b, c, fun ds L1 vs H1 q hl kp rh rd => ⟨?_, fun p np => ?_⟩⟩
  · rw [← rd.length, hl]
    exact Nat.le_of_lt (small1000 (Nat.le_of_ble_eq_true hz))
  · exact frz_lst rh np rd q fun d2 L2 v2 H2 q2 kp2 => k d2 L2 v2 H2 q2 (kp.trans kp2)
/-! operators, built-ins that freeze -/
def LR2F (K : PySem.W.Frag) (r' : R2') (r : R2) : Prop := LR2 K r' fun v u H Q => r v u H (frzQ Q)
theorem q_opF {op : Operator} {r : R2} {r' : R2'} {a b : Expr} {pos} {ta tb : TE'} (ho : OpR X (binaryOp op) r) (hr : LR2F X.K r' r) (ha : QE X a ta) (hb : QE X b tb) : QE X (.BinOp a op b pos) (wOp r' ta tb) := PE.str (pe_frz (pe_op ho ha hb)) fun σ H Q h => tOp_l (r := fun v u H Q => r v u H (frzQ Q)) hr σ H Q h
def LRAF (K : PySem.W.Frag) (r' : RA') (r : List V → Hp → VK → Prop) : Prop := LRA K r' fun vs H Q => r vs H (frzQ Q)
theorem q_cbF {id : String} {x : Str} {e : Expr} {es : List Expr} {p pos : Pos} {t : TA'} {r : List V → Hp → VK → Prop} {r' : RA'} (hc : CallR X (.builtin id) r) (hr : LRAF X.K r' r) (hg : Gl X x) (hm : X.mg x = none) (hv : bootBuiltins x = some (.builtin id)) (ha : QA X (e :: es) t)
    (hn : x ≠ "__name__" := by decide) (hdb : (x == ("__debug__" : Str)) = false := by decide)
    (he : starEach (e :: es) X.env = (false, eval e X.env) :: starEach es X.env := by rfl) (hpl : (backTo pos (starEach es X.env)).any (·.1) = false := by rfl) : QE X (.Call (.Name x p) (e :: es) [] pos) (wCB r' t) :=
  PE.str (pe_frz (pe_callB hc hg hm hv ha hn hdb he hpl)) fun σ H Q h => tCB_l (r := fun vs H Q => r vs H (frzQ Q)) hr σ H Q h
theorem q_ctyF {T : String} {x : Str} {e : Expr} {es : List Expr} {p pos : Pos} {t : TA'} {r : List V → Hp → VK → Prop} {r' : RA'} (hc : CallR X (.type T) r) (hr : LRAF X.K r' r) (hg : Gl X x) (hm : X.mg x = none) (hv : bootBuiltins x = some (.type T)) (ha : QA X (e :: es) t)
    (hn : x ≠ "__name__" := by decide) (hdb : (x == ("__debug__" : Str)) = false := by decide)
    (he : starEach (e :: es) X.env = (false, eval e X.env) :: starEach es X.env := by rfl) (hpl : (backTo pos (starEach es X.env)).any (·.1) = false := by rfl) : QE X (.Call (.Name x p) (e :: es) [] pos) (wCB r' t) :=
  PE.str (pe_frz (pe_callTy hc hg hm hv ha hn hdb he hpl)) fun σ H Q h => tCB_l (r := fun vs H Q => r vs H (frzQ Q)) hr σ H Q h
end
/-- a list's items -/
def seqL (d : D) (L : Lp) : Option (List D) := match d with
  | .ilst ds => some ds
  | .ref a => (match L a with
    | some (.lst ds) => some ds
    | _ => none)
  | _ => none
theorem seqL_ilst {ds : List D} {L : Lp} : seqL (.ilst ds) L = some ds := rfl
theorem seqL_ref {a : Addr} {ds : List D} {L : Lp} (h : L a = some (.lst ds)) : seqL (.ref a) L = some ds := by unfold seqL; simp only [h]
theorem seqL_rel {K : PySem.W.Frag} {H : Hp} {L : Lp} {d : D} {v : V} {ds : List D} (rh : RepH K H L) (rd : RelD K H d v) (e : seqL d L = some ds) : ∃ a vs, v = .ref a ∧ RelDs K H ds vs ∧ Rd H a (.lst vs) := by
  unfold seqL at e
  split at e
  · cases e
    cases rd with
    | ilst s r => exact ⟨_, _, rfl, r, .inr s⟩
  · cases rd
    split at e
    · cases e
      rename_i q
      obtain ⟨vs, e2, r⟩ := rh _ _ q
      exact ⟨_, vs, rfl, r, .inl e2⟩
    · cases e
  · cases e
theorem seqL_D {d : D} {L : Lp} {ds : List D} (e : seqL d L = some ds) : seqD d L = some ds := by
  unfold seqL at e
  unfold seqD
  split at e
  · exact e
  · exact e
  · cases e
def sq2 (o o' : Option (List D)) (P : List D → List D → Prop) : Prop := match o, o' with
  | some x, some y => P x y
  | _, _ => False
theorem sq2_some {x y : List D} {P : List D → List D → Prop} : sq2 (some x) (some y) P = P x y := rfl
def rAddR (K : PySem.W.Frag) : R2 := rOr (rI0 fun i j => .int (i + j)) (rOr rAddS (rOr (rCatA K) rCatR))
theorem o_addR {X : Cx} : OpR X (binaryOp .Add) (rAddR X.K) := OpR.or op_add (OpR.or op_add_str (OpR.or op_catA op_catR))
def addF : R2' := fun d e L Q => match d, e with
  | .int i, .int j => Q (.int (i + j)) L
  | .str a, .str b => a.length + b.length ≤ sizeLine ∧ Q (.str (a ++ b)) L
  | .tup as, .tup bs => as.length + bs.length ≤ sizeLine ∧ Q (.tup (as ++ bs)) L
  | d, e => sq2 (seqL d L) (seqL e L) fun xs ys => xs.length + ys.length ≤ sizeLine ∧ Q (.ilst (xs ++ ys)) L
theorem l_addF {K : PySem.W.Frag} : LR2F K addF (rAddR K) := fun d e L v u H Q Q' rd re rh q k => by
  have kk : PostD K H Q' (frzQ Q) := fun d1 L1 v1 H1 a b c d => .inl (k d1 L1 v1 H1 a b c d)
  unfold addF at q
  split at q
  · cases rd; cases re; exact .inl ⟨_, _, rfl, rfl, kk _ L _ H q (Kp.refl H) rh (.int _)⟩
  · cases rd; cases re; exact .inr (.inl ⟨_, _, rfl, rfl, q.1, kk _ L _ H q.2 (Kp.refl H) rh (.str _)⟩)
  · rename_i as bs
    cases rd with
    | tup h1 r1 =>
      cases re with
      | tup h2 r2 =>
        refine .inr (.inr (.inl ⟨_, _, _, _, rfl, rfl, .inl (.inl h1), .inl (.inl h2), by rw [← r1.length, ← r2.length]; exact q.1, fun e => ?_, fun _ e => ?_, fun _ _ p np => ?_⟩))
        · subst e
          cases r1
          exact kk _ L _ H q.2 (Kp.refl H) rh (.tup h2 r2)
        · subst e
          cases r2
          have q2 := q.2
          rw [List.append_nil] at q2
          exact kk _ L _ H q2 (Kp.refl H) rh (.tup h1 r1)
        · exact kk _ L _ _ q.2 (Kp.new np) (rh.hid np) (.tup upd_same ((r1.app r2).mono (Kp.new np)))
  · cases e1 : seqL d L with
    | none => rw [e1] at q; exact q.elim
    | some xs =>
      cases e2 : seqL e L with
      | none => rw [e1, e2] at q; exact q.elim
      | some ys =>
        rw [e1, e2, sq2_some] at q
        obtain ⟨a1, vs, rfl, r1, h1⟩ := seqL_rel rh rd e1
        obtain ⟨a2, us, rfl, r2, h2⟩ := seqL_rel rh re e2
        exact .inr (.inr (.inr ⟨_, _, _, _, rfl, rfl, h1, h2, by rw [← r1.length, ← r2.length]; exact q.1, fun p np => frz_lst rh np (r1.app r2) q.2 k⟩))
theorem addF_int {i j : Int} {L : Lp} {Q : VK'} : addF (.int i) (.int j) L Q = Q (.int (i + j)) L := rfl
theorem addF_str {a b : Str} {L : Lp} {Q : VK'} : addF (.str a) (.str b) L Q = (a.length + b.length ≤ sizeLine ∧ Q (.str (a ++ b)) L) := rfl
theorem addF_tup {as bs : List D} {L : Lp} {Q : VK'} : addF (.tup as) (.tup bs) L Q = (as.length + bs.length ≤ sizeLine ∧ Q (.tup (as ++ bs)) L) := rfl
theorem addF_l {as bs : List D} {L : Lp} {Q : VK'} : addF (.ilst as) (.ilst bs) L Q = (as.length + bs.length ≤ sizeLine ∧ Q (.ilst (as ++ bs)) L) := rfl
def rMulR : R2 := rOr (rI CMulW fun i j => .int (i * j)) rRepR
theorem o_mulR {X : Cx} : OpR X (binaryOp .Mult) rMulR := OpR.or op_mulW op_repR
def mulF : R2' := fun d e L Q => match d, e with
  | .int i, .int j => CMulW i j ∧ Q (.int (i * j)) L
  | d, .int k => sqK (seqL d L) fun xs => -(2 ^ 63) ≤ k ∧ k < 2 ^ 63 ∧ xs.length * k.toNat ≤ sizeLine ∧ Q (.ilst (List.replicate k.toNat xs).flatten) L
  | _, _ => False
theorem l_mulF {K : PySem.W.Frag} : LR2F K mulF rMulR := fun d e L v u H Q Q' rd re rh q k => by
  unfold mulF at q
  split at q
  · cases rd; cases re; exact .inl ⟨_, _, rfl, rfl, q.1, .inl (k _ L _ H q.2 (Kp.refl H) rh (.int _))⟩
  · cases e1 : seqL d L with
    | none => rw [e1] at q; exact q.elim
    | some xs =>
      rw [e1, sqK_some] at q
      obtain ⟨z1, z2, z3, q⟩ := q
      obtain ⟨a1, vs, rfl, r1, h1⟩ := seqL_rel rh rd e1
      cases re
      exact .inr ⟨_, _, vs, rfl, rfl, h1, z1, z2, by rw [← r1.length]; exact z3, fun p np => frz_lst rh np (r1.rep _) q k⟩
  · exact q.elim
theorem mulF_int {i j : Int} {L : Lp} {Q : VK'} : mulF (.int i) (.int j) L Q = (CMulW i j ∧ Q (.int (i * j)) L) := rfl
theorem mulF_l {xs : List D} {k : Int} {L : Lp} {Q : VK'} : mulF (.ilst xs) (.int k) L Q = (-(2 ^ 63) ≤ k ∧ k < 2 ^ 63 ∧ xs.length * k.toNat ≤ sizeLine ∧ Q (.ilst (List.replicate k.toNat xs).flatten) L) := rfl
/-! slices -/
def slF (d : D) (lo hi : Option Int) (L : Lp) (Q : VK') : Prop := match d with
  | .tup ds => Q (.tup (cutD ds lo hi)) L
  | .str z => z.length ≤ sizeLine ∧ Q (.str (cutS z lo hi)) L
  | .scr ns => Q (.ilst (cutD (ns.map D.int) lo hi)) L
  | d => sqK (seqL d L) fun ds => Q (.ilst (cutD ds lo hi)) L
theorem slF_tup {ds : List D} {lo hi : Option Int} {L : Lp} {Q : VK'} : slF (.tup ds) lo hi L Q = Q (.tup (cutD ds lo hi)) L := rfl
theorem slF_str {z : Str} {lo hi : Option Int} {L : Lp} {Q : VK'} : slF (.str z) lo hi L Q = (z.length ≤ sizeLine ∧ Q (.str (cutS z lo hi)) L) := rfl
theorem slF_scr {ns : List Int} {lo hi : Option Int} {L : Lp} {Q : VK'} : slF (.scr ns) lo hi L Q = Q (.ilst (cutD (ns.map D.int) lo hi)) L := rfl
theorem slF_l {ds : List D} {lo hi : Option Int} {L : Lp} {Q : VK'} : slF (.ilst ds) lo hi L Q = Q (.ilst (cutD ds lo hi)) L := rfl
theorem slF_ref {a : Addr} {lo hi : Option Int} {L : Lp} {Q : VK'} : slF (.ref a) lo hi L Q = sqK (seqL (.ref a) L) fun ds => Q (.ilst (cutD ds lo hi)) L := rfl
def wSlF (te : TE') (tl th : TO') : TE' := fun τ L Q => te τ L fun d L1 => tl τ L1 fun l L2 => th τ L2 fun u L3 => slF d l u L3 Q
theorem wSlF_e {te : TE'} {tl th : TO'} {τ : S'} {L : Lp} {Q : VK'} : wSlF te tl th τ L Q = te τ L fun d L1 => tl τ L1 fun l L2 => th τ L2 fun u L3 => slF d l u L3 Q := rfl
section
variable {X : Cx}
theorem q_slF {e : Expr} {lo hi : Option Expr} {p2 pos} {te : TE'} {tl th : TO'} (he : QE X e te) (hl : QO X lo tl) (hu : QO X hi th) : QE X (.Subscript e (.Slice lo hi none p2) pos) (wSlF te tl th) := PE.str (pe_frz (pe_slice sl_G he hl hu)) fun σ H Q h => by
  obtain ⟨τ, L, Q', a, b, c, k⟩ := h
  refine ⟨τ, L, _, a, b, c, fun d L1 v H1 q kp rh rd => ?_⟩
  refine ⟨τ, L1, _, a.mono kp, rh, q, fun l L2 H2 q2 kp2 rh2 => ?_⟩
  refine ⟨τ, L2, _, a.mono (kp.trans kp2), rh2, q2, fun u L3 H3 q3 kp3 rh3 => ?_⟩
  have rd3 := rd.mono (kp2.trans kp3)
  have kp4 := (kp.trans kp2).trans kp3
  have k4 : PostD X.K H3 Q' Q := fun d2 L2 v2 H2 q2 kp2 => k d2 L2 v2 H2 q2 (kp4.trans kp2)
  unfold slF at q3
  split at q3
  · rename_i ds
    cases rd3 with
    | tup s r =>
      refine .inl ⟨_, _, rfl, .inl (.inl s), fun e => ?_, fun _ p np => ?_⟩
      · have e1 : cutD ds l u = ds := by
          unfold cutD
          rw [r.length, e.1, e.2, ← r.length]
          simp
        rw [e1] at q3
        exact .inl (k4 _ L3 _ H3 q3 (Kp.refl _) rh3 (.tup s r))
      · exact .inl (k4 _ L3 _ _ q3 (Kp.new np) (rh3.hid np) (.tup upd_same ((r.cut l u).mono (Kp.new np))))
  · cases rd3
    exact .inr (.inr ⟨_, rfl, q3.1, .inl (k4 _ L3 _ H3 q3.2 (Kp.refl _) rh3 (.str _))⟩)
  · cases rd3 with
    | scr hs => exact .inr (.inl ⟨_, _, rfl, hs H3, fun p np => frz_lst rh3 np ((RelDs.of_ints _).cut l u) q3 k4⟩)
  · cases e1 : seqL d L3 with
    | none => rw [e1] at q3; exact q3.elim
    | some ds =>
      rw [e1, sqK_some] at q3
      obtain ⟨a1, vs, rfl, r1, h1⟩ := seqL_rel rh3 rd3 e1
      exact .inr (.inl ⟨_, _, rfl, .inl h1, fun p np => frz_lst rh3 np (r1.cut l u) q3 k4⟩)
end
/-! list(x), sorted(x), sum, all -/
def listF : RA' := fun ds L Q => match ds with
  | [d] => sqK (seqD d L) fun xs => Q (.ilst xs) L
  | _ => False
theorem listF_eq {d : D} {L : Lp} {Q : VK'} : listF [d] L Q = sqK (seqD d L) fun xs => Q (.ilst xs) L := rfl
theorem l_listF {K : PySem.W.Frag} : LRAF K listF (fun xs H Q => ∃ p ys, xs = [.ref p] ∧ (SqL K H p ys ∨ SqT K H p ys) ∧ ∀ l, H l = none → Q (.ref l) (upd H l (.lst ys))) := fun ds L vs H Q Q' rd rh q k => by
  unfold listF at q
  split at q
  · rename_i d
    cases rd with
    | cons r1 r2 =>
      cases r2
      cases es : seqD d L with
      | none => rw [es] at q; exact q.elim
      | some xs =>
        simp only [es, sqK] at q
        obtain ⟨a, ws, rfl, r, s⟩ := seqD_rel rh r1 es
        exact ⟨a, ws, rfl, s, fun p np => frz_lst rh np r q k⟩
  · exact q.elim
def listdF : RA' := fun ds L Q => match ds with
  | [.ref a] => ∃ kvs, L a = some (.dT kvs) ∧ Q (.ilst (kvs.map fun kv => .tup (kv.1.map kD))) L
  | _ => False
theorem listdF_eq {a : Addr} {L : Lp} {Q : VK'} : listdF [.ref a] L Q = ∃ kvs, L a = some (.dT kvs) ∧ Q (.ilst (kvs.map fun kv => .tup (kv.1.map kD))) L := rfl
theorem l_listdF {K : PySem.W.Frag} : LRAF K listdF (fun xs H Q => ∃ d kvs, xs = [V.ref d] ∧ Rd H d (.dT kvs) ∧ ∀ p bs, H p = none → IsKeys H kvs bs → Q (.ref p) (upd H p (.lst (bs.map V.ref)))) := fun ds L vs H Q Q' rd rh q k => by
  unfold listdF at q
  split at q
  · cases rd with
    | cons r1 r2 =>
      cases r1; cases r2
      obtain ⟨kvs, e, q⟩ := q
      obtain ⟨ws, e2, r⟩ := rh _ _ e
      exact ⟨_, ws, rfl, .inl e2, fun p bs np ik => frz_lst rh np (keys_rel r ik) q k⟩
  · exact q.elim
def sortedF : RA' := fun ds L Q => match ds with
  | [d] => ∃ ns : List Int, seqL d L = some (ns.map D.int) ∧ ∀ ms : List Int, ms.Perm ns → ms.Pairwise (· ≤ ·) → Q (.ilst (ms.map D.int)) L
  | _ => False
theorem sortedF_eq {d : D} {L : Lp} {Q : VK'} : sortedF [d] L Q = ∃ ns : List Int, seqL d L = some (ns.map D.int) ∧ ∀ ms : List Int, ms.Perm ns → ms.Pairwise (· ≤ ·) → Q (.ilst (ms.map D.int)) L := rfl
theorem l_sortedF {K : PySem.W.Frag} : LRAF K sortedF (rSortedI K) := fun ds L vs H Q Q' rd rh q k => by
  unfold sortedF at q
  split at q
  · cases rd with
    | cons r1 r2 =>
      cases r2
      obtain ⟨ns, e, q⟩ := q
      obtain ⟨a, ws, rfl, r, h⟩ := seqL_rel rh r1 e
      have e3 := r.ints
      subst e3
      exact ⟨_, ns, rfl, .inl h, fun ms p h1 h2 np => frz_lst rh np (RelDs.of_ints ms) (q ms h1 h2) k⟩
  · exact q.elim
def allF (f : List Bool → Bool) : RA' := fun ds L Q => match ds with
  | [d] => ∃ bs : List Bool, seqL d L = some (bs.map D.bl) ∧ Q (.bl (f bs)) L
  | _ => False
theorem allF_eq {f : List Bool → Bool} {d : D} {L : Lp} {Q : VK'} : allF f [d] L Q = ∃ bs : List Bool, seqL d L = some (bs.map D.bl) ∧ Q (.bl (f bs)) L := rfl
theorem l_allF {K : PySem.W.Frag} : LRA K (allF fun bs => bs.all id) (rAll K) := fun ds L vs H Q Q' rd rh q k => by
  unfold allF at q
  split at q
  · cases rd with
    | cons r1 r2 =>
      cases r2
      obtain ⟨bs, e, q⟩ := q
      obtain ⟨a, ws, rfl, r, h⟩ := seqL_rel rh r1 e
      have e3 := r.bls
      subst e3
      exact ⟨_, bs, rfl, .inl h, k _ L _ H q (Kp.refl H) rh (.bl _)⟩
  · exact q.elim
theorem l_anyF {K : PySem.W.Frag} : LRA K (allF fun bs => bs.any id) (rAny K) := fun ds L vs H Q Q' rd rh q k => by
  unfold allF at q
  split at q
  · cases rd with
    | cons r1 r2 =>
      cases r2
      obtain ⟨bs, e, q⟩ := q
      obtain ⟨a, ws, rfl, r, h⟩ := seqL_rel rh r1 e
      have e3 := r.bls
      subst e3
      exact ⟨_, bs, rfl, .inl h, k _ L _ H q (Kp.refl H) rh (.bl _)⟩
  · exact q.elim
def sumF : RA' := fun ds L Q => match ds with
  | [d] => ∃ ns : List Int, seqL d L = some (ns.map D.int) ∧ Q (.int ns.sum) L
  | _ => False
theorem sumF_eq {d : D} {L : Lp} {Q : VK'} : sumF [d] L Q = ∃ ns : List Int, seqL d L = some (ns.map D.int) ∧ Q (.int ns.sum) L := rfl
theorem l_sumF {K : PySem.W.Frag} : LRA K sumF (rSum K) := fun ds L vs H Q Q' rd rh q k => by
  unfold sumF at q
  split at q
  · cases rd with
    | cons r1 r2 =>
      cases r2
      obtain ⟨bs, e, q⟩ := q
      obtain ⟨a, ws, rfl, r, h⟩ := seqL_rel rh r1 e
      have e3 := r.ints
      subst e3
      exact ⟨_, bs, rfl, .inl h, k _ L _ H q (Kp.refl H) rh (.int _)⟩
  · exact q.elim
/-! extend -/
def rExtG : V → List V → Hp → VK → Prop := fun x vs H Q => rExtR x vs H Q ∨ rExtT x vs H Q
theorem mt_extG {X : Cx} : MtM X "list.extend" rExtG := fun pins s σ H x vs v us Q I rx rv h => h.elim (mt_extR pins s σ H x vs v us Q I rx rv) (mt_extT pins s σ H x vs v us Q I rx rv)
def extF : RM' := fun d ds L Q => match d, ds with
  | .ref a, [e] => ∃ xs ys, L a = some (.lst xs) ∧ seqD e L = some ys ∧ xs.length + ys.length ≤ sizeLine ∧ Q .non (up L a (.lst (xs ++ ys)))
  | _, _ => False
theorem extF_eq {a : Addr} {e : D} {L : Lp} {Q : VK'} : extF (.ref a) [e] L Q = ∃ xs ys, L a = some (.lst xs) ∧ seqD e L = some ys ∧ xs.length + ys.length ≤ sizeLine ∧ Q .non (up L a (.lst (xs ++ ys))) := rfl
theorem l_extF {K : PySem.W.Frag} : LRM K "list" extF rExtG := fun d ds L v vs H Q Q' rd rds rh q k => by
  unfold extF at q
  split at q
  · rename_i a e
    obtain ⟨xs, ys, e1, es, z, q⟩ := q
    obtain ⟨ws, e2, r⟩ := rh _ _ e1
    cases rd
    cases rds with
    | cons r1 r2 =>
      cases r2
      cases e with
      | tup ds =>
        cases es
        cases r1 with
        | tup hb s =>
          obtain ⟨kp, rh2⟩ := put_lst rh e2 (r.app s)
          exact .inr ⟨a, _, ws, _, rfl, rfl, e2, hb, by rw [← r.length, ← s.length]; exact z, k _ _ _ _ q kp rh2 .non⟩
      | ilst ds =>
        obtain ⟨b, us, rfl, s, hb⟩ := seqL_rel rh r1 (show seqL (.ilst ds) L = some ys from es)
        obtain ⟨kp, rh2⟩ := put_lst rh e2 (r.app s)
        exact .inl ⟨a, _, ws, _, rfl, rfl, e2, hb, by rw [← r.length, ← s.length]; exact z, k _ _ _ _ q kp rh2 .non⟩
      | ref c =>
        obtain ⟨b, us, rfl, s, hb⟩ := seqL_rel rh r1 (show seqL (.ref c) L = some ys from es)
        obtain ⟨kp, rh2⟩ := put_lst rh e2 (r.app s)
        exact .inl ⟨a, _, ws, _, rfl, rfl, e2, hb, by rw [← r.length, ← s.length]; exact z, k _ _ _ _ q kp rh2 .non⟩
      | _ => cases es
  · exact q.elim
/-! enumerate -/
def enF (d : D) (L1 : Lp) (R : List D → (Lp → Prop) → Lp → Prop) : Prop := sqK (seqL d L1) fun ds => R (enD 0 ds) (fun L => seqL d L = some ds) L1
def vEnumF (t : TE') : TI' := fun τ L R => t τ L fun d L1 => enF d L1 R
theorem vEnumF_e {t : TE'} {τ : S'} {L : Lp} {R : List D → (Lp → Prop) → Lp → Prop} : vEnumF t τ L R = t τ L fun d L1 => enF d L1 R := rfl
theorem enF_l {ds : List D} {L : Lp} {R : List D → (Lp → Prop) → Lp → Prop} : enF (.ilst ds) L R = R (enD 0 ds) (fun _ => some ds = some ds) L := rfl
theorem i_enumF {X : Cx} {e : Expr} {t : TE'} {p pos tpos : Pos} {elts : List Expr} {kk : Nat} (ha : QE X e t) (hg : Gl X "enumerate") (hm : X.mg "enumerate" = none) (hs : starEach [e] X.env = [(false, eval e X.env)] := by rfl) :
    QI X (.Tuple elts kk tpos) (.Call (.Name "enumerate" p) [e] [] pos) (vEnumF t) := PI.str (pi_enum hg hm (pa_cons ha pa_nil hs) hs) fun σ H R h => by
  obtain ⟨τ, L, R', a, b, c, k⟩ := h
  refine ⟨τ, L, _, a, b, c, fun d L1 v H1 q kp rh rd => ?_⟩
  unfold enF at q
  cases es : seqL d L1 with
  | none => rw [es] at q; exact q.elim
  | some ds =>
    rw [es, sqK_some] at q
    obtain ⟨p, vs, rfl, r, h⟩ := seqL_rel rh rd es
    exact ⟨_, vs, rfl, .inl h, k _ _ L1 _ H1 q kp rh (itOk_e _ fun H L k2 rh2 e3 => by
      obtain ⟨b2, ws, e4, r4, h4⟩ := seqL_rel rh2 (rd.mono k2) e3
      cases e4
      exact ⟨ws, .inl h4, r4⟩)⟩
/-! attributes -/
def fldF (K : PySem.W.Frag) (d : D) (f : Str) (L : Lp) (Q : D → Prop) : Prop := match d with
  | .obj C fs => Cls K C ∧ NoAttr K C f ∧ ∃ v, fs.lookup f = some v ∧ Q v
  | .ref a => ∃ C fs v, L a = some (.ins C fs) ∧ Cls K C ∧ NoAttr K C f ∧ fs.lookup f = some v ∧ Q v
  | _ => False
theorem fldF_obj {K : PySem.W.Frag} {C : Addr} {fs : List (Str × D)} {f : Str} {L : Lp} {Q : D → Prop} : fldF K (.obj C fs) f L Q = (Cls K C ∧ NoAttr K C f ∧ ∃ v, fs.lookup f = some v ∧ Q v) := rfl
theorem fldF_ref {K : PySem.W.Frag} {a : Addr} {f : Str} {L : Lp} {Q : D → Prop} : fldF K (.ref a) f L Q = ∃ C fs v, L a = some (.ins C fs) ∧ Cls K C ∧ NoAttr K C f ∧ fs.lookup f = some v ∧ Q v := rfl
def wFldF (K : PySem.W.Frag) (t : TE') (f : Str) : TE' := fun τ L Q => t τ L fun d L1 => fldF K d f L1 fun v => Q v L1
theorem wFldF_e {K : PySem.W.Frag} {t : TE'} {f : Str} {τ : S'} {L : Lp} {Q : VK'} : wFldF K t f τ L Q = t τ L fun d L1 => fldF K d f L1 fun v => Q v L1 := rfl
theorem q_fldF {X : Cx} {e : Expr} {f : Str} {pos : Pos} {t : TE'} (he : QE X e t) (hb : attributeBase e f X.env (eval e X.env) = eval e X.env := by rfl) : QE X (.Attribute e f pos) (wFldF X.K t f) := PE.str (pe_fldR he hb) fun σ H Q h => by
  obtain ⟨τ, L, Q', a, b, c, k⟩ := h
  refine ⟨τ, L, _, a, b, c, fun d L1 v H1 q kp rh rd => ?_⟩
  unfold fldF at q
  split at q
  · obtain ⟨h1, h2, w, h3, q⟩ := q
    cases rd with
    | obj e2 r =>
      obtain ⟨u, h4, r2⟩ := RelK.lookup r.k h3
      exact ⟨_, _, _, _, u, rfl, .inr ⟨_, e2⟩, h1, h2, h4, k _ L1 _ H1 q kp rh r2⟩
  · obtain ⟨C, fs, w, e1, h1, h2, h3, q⟩ := q
    cases rd
    obtain ⟨dx, gs, e2, r⟩ := rh _ _ e1
    obtain ⟨u, h4, r2⟩ := RelK.lookup r h3
    exact ⟨_, C, dx, gs, u, rfl, .inl e2, h1, h2, h4, k _ L1 _ H1 q kp rh r2⟩
  · exact q.elim
end Z

/-! comprehensions that give values -/
namespace Z
open PySem PySem.Spec PyProof.Rows L2
/-- what data lean on -/
def Kw (H H' : Hp) : Prop := (∀ a xs, H a = some (.tup xs) → H' a = some (.tup xs)) ∧ (∀ a ob xs, H a = some (.frz ob (.lst xs)) → H' a = some (.frz ob (.lst xs))) ∧ ∀ a ob C dx gs, H a = some (.frz ob (.ins C dx gs)) → H' a = some (.frz ob (.ins C dx gs))
section
variable {K : PySem.W.Frag} {H H' : Hp}
mutual
theorem RelD.monoW (k : Kw H H') : ∀ {d : D} {v : V}, RelD K H d v → RelD K H' d v
  | _, _, .non => .non
  | _, _, .bl b => .bl b
  | _, _, .int i => .int i
  | _, _, .str x => .str x
  | _, _, .ref a => .ref a
  | _, _, .ty n => .ty n
  | _, _, .tup h r => .tup (k.1 _ _ h) (RelDs.monoW k r)
  | _, _, .ilst ⟨ob, h⟩ r => .ilst ⟨ob, k.2.1 _ _ _ h⟩ (RelDs.monoW k r)
  | _, _, .obj h r => .obj (k.2.2 _ _ _ _ _ h) (RelFs.monoW k r)
  | _, _, .scr h => .scr h
theorem RelDs.monoW (k : Kw H H') : ∀ {ds : List D} {vs : List V}, RelDs K H ds vs → RelDs K H' ds vs
  | _, _, .nil => .nil
  | _, _, .cons h r => .cons (RelD.monoW k h) (RelDs.monoW k r)
theorem RelFs.monoW (k : Kw H H') : ∀ {ds : List (Str × D)} {vs : List (Str × V)}, RelFs K H ds vs → RelFs K H' ds vs
  | _, _, .nil => .nil
  | _, _, .cons h r => .cons (RelD.monoW k h) (RelFs.monoW k r)
end
theorem RelK.monoW {κ : Type} (k : Kw H H') : ∀ {fs : List (κ × D)} {gs : List (κ × V)}, RelK K H fs gs → RelK K H' fs gs
  | _, _, .nil => .nil
  | _, _, .cons h r => .cons ⟨h.1, h.2.monoW k⟩ (RelK.monoW k r)
theorem RepO.monoW {a : Addr} {o : O} (h : RepO K H a o) (k : Kw H H') (e : H' a = H a) (hx : ∀ b φ, H b = some (.ext φ) → H' b = some (.ext φ)) : RepO K H' a o := by
  cases o with
  | lst ds => obtain ⟨vs, q, r⟩ := h; exact ⟨vs, e.trans q, r.monoW k⟩
  | ins C fs => obtain ⟨dx, gs, q, r⟩ := h; exact ⟨dx, gs, e.trans q, RelK.monoW k r⟩
  | dT kvs => obtain ⟨ws, q, r⟩ := h; exact ⟨ws, e.trans q, RelK.monoW k r⟩
  | dK kvs => obtain ⟨ws, q, r⟩ := h; exact ⟨ws, e.trans q, RelK.monoW k r⟩
  | tab t =>
    obtain ⟨ps, h1, h2, h3⟩ := h
    refine ⟨ps, e.trans h1, h2, fun pos cv hc => ?_⟩
    obtain ⟨c, e1, e2⟩ := h3 pos cv hc
    exact ⟨c, e1, hx _ _ e2⟩
  | xd fs => obtain ⟨gs, q, r⟩ := h; exact ⟨gs, e.trans q, RelK.monoW k r⟩
theorem RepS.monoW {τ : S'} {σ : L2.St} (h : RepS K H τ σ) (k : Kw H H') : RepS K H' τ σ := ⟨h.1, fun i d e => by
  obtain ⟨v, a, b⟩ := h.2 i d e
  exact ⟨v, a, b.monoW k⟩⟩
end
theorem kw_lk {H : Hp} {p : Addr} {od : Obj} {u o : HO} (h : H p = some (lk od u)) : Kw H (upd H p o) := by
  refine ⟨fun a xs e => ?_, fun a ob xs e => ?_, fun a ob C dx gs e => ?_⟩
  all_goals
    have ne : a ≠ p := fun z => by
      subst z
      rw [h] at e
      cases e
    rw [upd_ne ne]
    exact e
/-- behind a time under lock -/
theorem kp_lk {H H2 : Hp} {p : Addr} {x o : HO} (h : ¬ isFix (H p)) (k : Kp (upd H p x) H2) : Kp H (upd H2 p o) := by
  refine ⟨fun a xs e => ?_, fun a ob u e => ?_⟩
  all_goals
    have ne : a ≠ p := fun z => by
      subst z
      rw [e] at h
      exact h trivial
    rw [upd_ne ne]
  · exact k.1 a xs (by rw [upd_ne ne]; exact e)
  · exact k.2 a ob u (by rw [upd_ne ne]; exact e)
theorem rep_lk {K : PySem.W.Frag} {H : Hp} {L : Lp} {p : Addr} {od : Obj} {u o : HO} (h : H p = some (lk od u)) (rh : RepH K H L) : L p = none ∧ RepH K (upd H p o) L := by
  have np : L p = none := by
    cases e : L p with
    | none => rfl
    | some o =>
      have r := rh p o e
      cases o with
      | lst ds => obtain ⟨_, q, _⟩ := r; rw [h] at q; cases q
      | ins C fs => obtain ⟨_, _, q, _⟩ := r; rw [h] at q; cases q
      | dT kvs => obtain ⟨_, q, _⟩ := r; rw [h] at q; cases q
      | dK kvs => obtain ⟨_, q, _⟩ := r; rw [h] at q; cases q
      | tab t => obtain ⟨_, q, _⟩ := r; rw [h] at q; cases q
      | xd fs => obtain ⟨_, q, _⟩ := r; rw [h] at q; cases q
  refine ⟨np, fun a u e => (rh a u e).monoW (kw_lk h) ?_ fun b φ z => by
    have nb : b ≠ p := fun w => by subst w; rw [h] at z; cases z
    rw [upd_ne nb]; exact z⟩
  have ne : a ≠ p := fun z => by subst z; rw [np] at e; cases e
  rw [upd_ne ne]
/-! targets as functions -/
abbrev PG' := D → S' → Option S'
abbrev PGs' := List D → S' → Option S'
def pName (i : Nat) : PG' := fun d τ => some (τ.set i (some d))
def pNil : PGs' := fun ds τ => match ds with
  | [] => some τ
  | _ => none
def obind (o : Option S') (f : S' → Option S') : Option S' := match o with
  | some τ => f τ
  | none => none
def pCons (t : PG') (u : PGs') : PGs' := fun ds τ => match ds with
  | d :: es => obind (t d τ) (u es)
  | _ => none
def pTup (n : Nat) (t : PGs') : PG' := fun d τ => match d with
  | .tup ds => if ds.length = n then t ds τ else none
  | _ => none
theorem pName_e {i : Nat} {d : D} {τ : S'} : pName i d τ = some (τ.set i (some d)) := rfl
theorem pNil_e {τ : S'} : pNil [] τ = some τ := rfl
theorem pCons_e {t : PG'} {u : PGs'} {d : D} {ds : List D} {τ : S'} : pCons t u (d :: ds) τ = obind (t d τ) (u ds) := rfl
theorem obind_e {τ : S'} {f : S' → Option S'} : obind (some τ) f = f τ := rfl
theorem pTup_e {n : Nat} {t : PGs'} {ds : List D} {τ : S'} : pTup n t (.tup ds) τ = if ds.length = n then t ds τ else none := rfl
def gK (o : Option S') (P : S' → Prop) : Prop := match o with
  | some τ => P τ
  | none => False
theorem gK_some {τ : S'} {P : S' → Prop} : gK (some τ) P = P τ := rfl
def lGp (K : PySem.W.Frag) (vs : List Nat) (g : PG') : TG := fun v σ H Q => ∃ d τ τ2, RelD K H d v ∧ RepS K H τ σ ∧ g d τ = some τ2 ∧ ∀ σ1, RepS K H τ2 σ1 → wipe σ1 vs = wipe σ vs → Q σ1 H
def lGps (K : PySem.W.Frag) (vs : List Nat) (g : PGs') : TGs := fun ws σ H Q => ∃ ds τ τ2, RelDs K H ds ws ∧ RepS K H τ σ ∧ g ds τ = some τ2 ∧ ∀ σ1, RepS K H τ2 σ1 → wipe σ1 vs = wipe σ vs → Q σ1 H
def QGp (X : Cx) (vs : List Nat) (tg : Expr) (g : PG') : Prop := PG X tg (lGp X.K vs g)
def QGps (X : Cx) (vs : List Nat) (tg : List Expr) (g : PGs') : Prop := PGs X tg (lGps X.K vs g)
section
variable {X : Cx} {vs : List Nat}
theorem gp_name {i : Nat} {x : Str} {pos} (hN : X.N.Nodup) (hi : X.N[i]? = some x) (hx : Loc X.env.scope x) (hv : i ∈ vs) (hf : X.fn x = true ∨ X.env.scope.names.lookup x = some .local := by first | exact .inl rfl | exact .inr rfl | assumption) : QGp X vs (.Name x pos) (pName i) :=
  PG.str (pg_name hN hi hx hf) fun v σ H Q h => by
    obtain ⟨d, τ, τ2, rd, a, e, k⟩ := h
    cases e
    exact k _ (a.set rd i) (wipe_set hv)
theorem gp_nil : QGps X vs [] pNil := PGs.str pgs_nil fun v σ H Q h => by
  obtain ⟨ds, τ, τ2, rd, a, e, k⟩ := h
  cases ds with
  | nil => cases rd; cases e; exact ⟨rfl, k σ a rfl⟩
  | cons d es => cases e
theorem gp_cons {e : Expr} {es : List Expr} {t : PG'} {u : PGs'} (h1 : QGp X vs e t) (h2 : QGps X vs es u) (hs : (assignEach (e :: es) X.env).map (·.2) = assign e X.env :: (assignEach es X.env).map (·.2) := by rfl) : QGps X vs (e :: es) (pCons t u) := PGs.str (pgs_cons h1 h2 hs) fun v σ H Q h => by
  obtain ⟨ds, τ, τ2, rd, a, e, k⟩ := h
  cases ds with
  | nil => cases e
  | cons d es =>
    rw [pCons_e] at e
    cases e1 : t d τ with
    | none => rw [e1] at e; cases e
    | some τ1 =>
      rw [e1, obind_e] at e
      cases rd with
      | cons r1 r2 => exact ⟨_, _, rfl, d, τ, τ1, r1, a, e1, fun σ1 rs w1 => ⟨es, τ1, τ2, r2, rs, e, fun σ2 rs2 w2 => k σ2 rs2 (w2.trans w1)⟩⟩
theorem gp_tup {es : List Expr} {k : Nat} {pos} {t : PGs'} {n : Nat} (hc : X.calm = true) (h : QGps X vs es t) (hn : (assignEach es X.env).length = n := by rfl) (hst : (assignEach es X.env).findIdx? (·.1) = none := by rfl) : QGp X vs (.Tuple es k pos) (pTup n t) :=
  PG.str (pg_tup hc h hn hst) fun v σ H Q h => by
    obtain ⟨d, τ, τ2, rd, a, e, k⟩ := h
    cases d with
    | tup ds =>
      rw [pTup_e] at e
      by_cases hl : ds.length = n
      · rw [if_pos hl] at e
        cases rd with
        | tup hs rs => exact ⟨_, _, rfl, .inl (.inl hs), by rw [← rs.length]; exact hl, ds, τ, τ2, rs, a, e, k⟩
      · rw [if_neg hl] at e; cases e
    | _ => cases e
end
/-- the turns -/
def lcF (g : PG') (tt : TT') (te : TE') (vs : List Nat) (τ : S') (Q : VK') (xs : List D) (st : Lp → Prop) (L1 : Lp) : Prop := ∃ Pv : Nat → List D → Lp → Prop, Pv 0 [] L1 ∧ (∀ i acc L, i ≤ xs.length → Pv i acc L → ∀ L', Le L L' → st L') ∧
  (∀ i x acc L, xs[i]? = some x → Pv i acc L → gK (g x (wipeD τ vs)) fun τ2 => tt τ2 L fun b L3 => if b = true then te τ2 L3 fun y L4 => Dn (Pv (i + 1) (acc ++ [y])) L4 else Dn (Pv (i + 1) acc) L3) ∧ xs.length ≤ sizeLine ∧ ∀ acc L, Pv xs.length acc L → Q (.ilst acc) L
/-- [elt for g in wi if tt], a value -/
def wLcF (wi : TI') (g : PG') (tt : TT') (te : TE') (vs : List Nat) : TE' := fun τ L Q => wi τ L (lcF g tt te vs τ Q)
theorem wLcF_e {wi : TI'} {g : PG'} {tt : TT'} {te : TE'} {vs : List Nat} {τ : S'} {L : Lp} {Q : VK'} : wLcF wi g tt te vs τ L Q = wi τ L (lcF g tt te vs τ Q) := rfl
section
variable {X : Cx}
theorem tLcF_l {K : PySem.W.Frag} {wi : TI'} {g : PG'} {tt : TT'} {te : TE'} {vs : List Nat} (σ : L2.St) (H : Hp) (Q : VK) (h : lE K (wLcF wi g tt te vs) σ H Q) : tLc (lI K wi) (lGp K vs g) (tLkT (lT K tt)) (tLk (lE K te)) vs σ H (frzQ Q) := by
  obtain ⟨τ, L, Q', a, b, c, k⟩ := h
  refine ⟨τ, L, _, a, b, c, fun xs st L1 J H1 q kp rh ok => ?_⟩
  intro p np
  obtain ⟨Pv, p0, ps, pt, hz, pd⟩ := q
  have kn : Kp H1 (upd H1 p (.lst [])) := Kp.new np
  refine ⟨fun i m H => m = xs.length - i ∧ i ≤ xs.length ∧ ∃ L acc vs, Kp H1 H ∧ RepH K H L ∧ L p = none ∧ H p = some (.lst vs) ∧ RelDs K H acc vs ∧ acc.length ≤ i ∧ Pv i acc L, ⟨xs.length, by simp, Nat.zero_le _, L1, [], [], kn, rh.hid np, rh.no np, upd_same, .nil, Nat.le_refl _, p0⟩, ?_⟩
  rintro i m H2 ⟨rfl, hi2, L2, acc, vs2, kp2, rh2, np2, hp2, ra2, hl2, p2⟩
  have rhp : RepH K H2 (Z.up L2 p (.lst acc)) := fun a' o' e' => by
    by_cases z : a' = p
    · subst z; rw [up_same] at e'; cases e'; exact ⟨_, hp2, ra2⟩
    · rw [up_ne z] at e'; exact rh2 _ _ e'
  have s2 : st (Z.up L2 p (.lst acc)) := ps i acc L2 hi2 p2 _ (Le.new1 np2)
  by_cases hlt : i < xs.length
  · refine .inr ⟨ok.go i H2 _ kp2 rhp s2 hlt, fun H' => ∃ L acc vs, Kp H1 H' ∧ RepH K H' L ∧ L p = none ∧ H' p = some (.lst vs) ∧ RelDs K H' acc vs ∧ acc.length ≤ i + 1 ∧ Pv (i + 1) acc L, fun H' p' => ⟨xs.length - (i + 1), by omega, rfl, hlt, p'⟩, fun x H' y => ?_⟩
    obtain ⟨d, ed, rd, kp3, rh3p⟩ := ok.yld i H2 _ x H' kp2 rhp s2 hlt y
    obtain ⟨vs3, hp3, ra3⟩ := rh3p p (.lst acc) up_same
    have rh3 : RepH K H' L2 := rh3p.le (Le.new1 np2)
    have step := pt i d acc L2 ed p2
    cases eg : g d (wipeD τ vs) with
    | none => rw [eg] at step; exact step.elim
    | some τ2 =>
      rw [eg, gK_some] at step
      have rs3 : RepS K H' (wipeD τ vs) (wipe σ vs) := (a.wipe vs).mono (kp.trans (kp2.trans kp3))
      refine ⟨d, wipeD τ vs, τ2, rd, rs3, eg, fun σ4 rs4 w4 => ⟨by rw [w4]; exact wipe_idem vs σ, ?_⟩⟩
      refine ⟨p, .lst vs3, hp3, trivial, fun od => ?_⟩
      have nf3 : ¬ isFix (H' p) := by rw [hp3]; exact id
      have kl : Kp H' (upd H' p (lk od (.lst vs3))) := Kp.upd nf3
      refine ⟨τ2, L2, _, rs4.mono kl, rh3.hid2 np2 kl nf3, step, fun bb L5 H5 q5 kp5 rh5 => ⟨kp5.2 _ _ _ upd_same, ?_⟩⟩
      have e5 : H5 p = some (lk od (.lst vs3)) := kp5.2 _ _ _ upd_same
      obtain ⟨np5, rh6⟩ := rep_lk (o := .lst vs3) e5 rh5
      have kp6 : Kp H' (upd H5 p (.lst vs3)) := kp_lk nf3 kp5
      have kp26 := (kp2.trans kp3).trans kp6
      cases bb with
      | true =>
        simp only [if_true] at q5 ⊢
        refine ⟨p, .lst vs3, upd_same, trivial, fun od2 => ?_⟩
        have nf6 : ¬ isFix (upd H5 p (.lst vs3) p) := by rw [upd_same]; exact id
        have kl6 : Kp (upd H5 p (.lst vs3)) (upd (upd H5 p (.lst vs3)) p (lk od2 (.lst vs3))) := Kp.upd nf6
        refine ⟨τ2, L5, _, (rs4.mono kp6).mono kl6, rh6.hid2 np5 kl6 nf6, q5, fun y L6 v H7 q6 kp7 rh7 ry => ⟨kp7.2 _ _ _ upd_same, ?_⟩⟩
        have e7 : H7 p = some (lk od2 (.lst vs3)) := kp7.2 _ _ _ upd_same
        obtain ⟨L7, l7, q7⟩ := q6
        refine ⟨vs3, upd_same, by rw [← ra3.length]; omega, ?_⟩
        rw [upd_upd]
        obtain ⟨np7, rh8⟩ := rep_lk (o := .lst (vs3 ++ [v])) e7 (rh7.le l7)
        have kp8 : Kp (upd H5 p (.lst vs3)) (upd H7 p (.lst (vs3 ++ [v]))) := kp_lk nf6 kp7
        exact ⟨L7, acc ++ [y], vs3 ++ [v], kp26.trans kp8, rh8, np7, upd_same, (ra3.mono (kp6.trans kp8)).app (.cons (ry.monoW (kw_lk e7)) .nil), by simp; omega, q7⟩
      | false =>
        simp only [Bool.false_eq_true, if_false] at q5 ⊢
        obtain ⟨L7, l7, q7⟩ := q5
        refine ⟨L7, acc, vs3, kp26, rh6.le l7, ?_, upd_same, ra3.mono kp6, by omega, q7⟩
        cases z : L7 p with
        | none => rfl
        | some o => have := l7 _ _ z; rw [np5] at this; cases this
  · have e : i = xs.length := by omega
    subst e
    refine .inl ⟨ok.stop _ H2 _ kp2 rhp s2 (Nat.le_refl _), .inr ⟨p, _, hp2, trivial, fun od => ?_⟩⟩
    have kl : Kp H2 (upd H2 p (.frz od (.lst vs2))) := Kp.upd (by rw [hp2]; exact id)
    exact k _ L2 _ _ (pd acc L2 p2) ((kp.trans kp2).trans kl) (rh2.hid2 np2 kl (by rw [hp2]; exact id)) (.ilst ⟨od, upd_same⟩ (ra2.mono kl))
theorem q_lcF {elt tg iter : Expr} {ifs : List Expr} {scope : Scope} (own : List (Str × Nat)) {pos : Pos} {wi : TI'} {g : PG'} {tt : TT'} {te : TE'} (hc : X.calm = true) (hN : X.N.Nodup) (hi : QI X tg iter wi) (ok : BlkOk X.N X.env.scope scope own)
    (hg : ∀ (s : Shared) (H : Hp) (C : Addr) (cl : List (Str × Addr)) (fp : List Addr), QGp (X.blk s H scope (compEnvC scope cl C X.env) fp) (own.map (·.2)) tg g) (ht : ∀ (s : Shared) (H : Hp) (C : Addr) (cl : List (Str × Addr)) (fp : List Addr), QTs (X.blk s H scope (compEnvC scope cl C X.env) fp) ifs tt)
    (he : ∀ (s : Shared) (H : Hp) (C : Addr) (cl : List (Str × Addr)) (fp : List Addr), QE (X.blk s H scope (compEnvC scope cl C X.env) fp) elt te) (hs : ∀ x, foldedSetIterable iter X.env x = pure x := by intro _; rfl) :
    QE X (.ListComp elt [⟨tg, iter, ifs, 0⟩] scope pos) (wLcF wi g tt te (own.map (·.2))) := PE.str (pe_frz (pe_lc (g := lGp X.K (own.map fun x : Str × Nat => x.2) g) (tt := tLkT (lT X.K tt)) (te := tLk (lE X.K te)) hc hN hi ok hg (fun s H C cl fp => pts_lk (ht s H C cl fp)) (fun s H C cl fp => pe_lk (he s H C cl fp)) hs)) tLcF_l
/-- y = [..]: the statement of its own; the list is frozen where it is stored -/
theorem ps_frz {st : Stmt} {t : TS} (h : PS X st t) : PS X st (fun D σ H => t { D with nx := fun σ1 H1 => D.nx σ1 H1 ∨ ∃ d u, H1 d = some u ∧ Mut (some u) ∧ ∀ od, D.nx σ1 (upd H1 d (.frz od u)) } σ H) := by
  refine ⟨fun pins s σ H D I hw => ?_⟩
  refine thn (h.run pins s σ H _ I hw) fun f s1 q => ?_
  cases f with
  | next =>
    obtain ⟨σ', H', I2, q⟩ := q
    rcases q with q | ⟨d, u, hd, mu, q⟩
    · exact ⟨σ', H', I2, q⟩
    · obtain ⟨od, I3⟩ := I2.lock hd mu
      exact ⟨σ', _, I3, q od⟩
  | brk => exact q
  | cont => exact q
  | ret v => exact q
theorem qs_setLcF {i : Nat} {y : Str} {py : Pos} {elt tg iter : Expr} {ifs : List Expr} {scope : Scope} (own : List (Str × Nat)) {pos spos : Pos} {wi : TI'} {g : PG'} {tt : TT'} {te : TE'} (hc : X.calm = true) (hN : X.N.Nodup) (hy : X.N[i]? = some y) (hyl : X.env.scope.names.lookup y = some .local)
    (hsw : swapsWith (.ListComp elt [⟨tg, iter, ifs, 0⟩] scope pos) (some (.Name y py)) spos.line X.env = pure true) (hi : QI X tg iter wi) (ok : BlkOk X.N X.env.scope scope own)
    (hg : ∀ (s : Shared) (H : Hp) (C : Addr) (cl : List (Str × Addr)) (fp : List Addr), QGp (X.blk s H scope (compEnvC scope cl C X.env) fp) (own.map (·.2)) tg g) (ht : ∀ (s : Shared) (H : Hp) (C : Addr) (cl : List (Str × Addr)) (fp : List Addr), QTs (X.blk s H scope (compEnvC scope cl C X.env) fp) ifs tt)
    (he : ∀ (s : Shared) (H : Hp) (C : Addr) (cl : List (Str × Addr)) (fp : List Addr), QE (X.blk s H scope (compEnvC scope cl C X.env) fp) elt te) (hs : ∀ x, foldedSetIterable iter X.env x = pure x := by intro _; rfl) :
    QS X (.Assign [.Name y py] (.ListComp elt [⟨tg, iter, ifs, 0⟩] scope pos) spos) (wAsg (wLcF wi g tt te (own.map (·.2))) (hName i)) := PS.str (ps_frz (ps_setLc (g := lGp X.K (own.map fun x : Str × Nat => x.2) g) (tt := tLkT (lT X.K tt)) (te := tLk (lE X.K te)) hc hN hy hyl hsw hi ok hg (fun s H C cl fp => pts_lk (ht s H C cl fp)) (fun s H C cl fp => pe_lk (he s H C cl fp)) hs)) fun E σ H h => by
  obtain ⟨τ, L, E', a, b, c, k1, k2, k3, k4⟩ := h
  refine tLcF_l (wi := wi) (g := g) (tt := tt) (te := te) σ H (fun x H1 => gName i x σ H1 E.nx) ?_
  exact ⟨τ, L, _, a, b, c, fun d L1 v H1 q kp rh rd => k1 _ L1 _ H1 q kp rh ((a.mono kp).set rd i)⟩
end
end Z

namespace Z
open PySem PySem.Spec PyProof.Rows L2
/-- a list and a list: a new one that may change -/
def addM : R2' := fun d e L Q => sq2 (seqL d L) (seqL e L) fun xs ys => xs.length + ys.length ≤ sizeLine ∧ ∀ p, L p = none → Q (.ref p) (up L p (.lst (xs ++ ys)))
theorem l_addM {K : PySem.W.Frag} : LR2 K addM (rAddR K) := fun d e L v u H Q Q' rd re rh q k => by
  unfold addM at q
  cases e1 : seqL d L with
  | none => rw [e1] at q; exact q.elim
  | some xs =>
    cases e2 : seqL e L with
    | none => rw [e1, e2] at q; exact q.elim
    | some ys =>
      rw [e1, e2, sq2_some] at q
      obtain ⟨a1, vs, rfl, r1, h1⟩ := seqL_rel rh rd e1
      obtain ⟨a2, us, rfl, r2, h2⟩ := seqL_rel rh re e2
      exact .inr (.inr (.inr ⟨_, _, _, _, rfl, rfl, h1, h2, by rw [← r1.length, ← r2.length]; exact q.1, fun p np => k _ _ _ _ (q.2 p (rh.no np)) (Kp.new np) (rh.new np ⟨_, upd_same, (r1.app r2).mono (Kp.new np)⟩) (.ref p)⟩))
theorem addM_eq {d e : D} {L : Lp} {Q : VK'} : addM d e L Q = sq2 (seqL d L) (seqL e L) fun xs ys => xs.length + ys.length ≤ sizeLine ∧ ∀ p, L p = none → Q (.ref p) (up L p (.lst (xs ++ ys))) := rfl
theorem gK_imp {o : Option S'} {P P' : S' → Prop} (h : gK o P) (k : ∀ τ, P τ → P' τ) : gK o P' := by
  cases o with
  | none => exact h
  | some τ => exact k τ h
theorem yes_e {τ : S'} {L : Lp} {te : TE'} {Q : VK'} {R : Lp → Prop} (h : te τ L Q) : wYes τ L fun b L3 => if b = true then te τ L3 Q else R L3 := by
  show if true = true then te τ L Q else R L
  rw [if_pos rfl]
  exact h
/-- walks over what is frozen -/
theorem lcF_m {α : Type} {g : PG'} {tt : TT'} {te : TE'} {vs : List Nat} {τ : S'} {L1 : Lp} {Q : VK'} {st : Lp → Prop} (zs : List α) (enc : α → D) (F : α → Option D) (hz : zs.length ≤ sizeLine) (hst : ∀ L', Le L1 L' → st L')
    (step : ∀ (z : α) (Q' : VK') (R' : Lp → Prop), z ∈ zs → (∀ y, F z = some y → Q' y L1) → (F z = none → R' L1) →
      gK (g (enc z) (wipeD τ vs)) fun τ2 => tt τ2 L1 fun b L3 => if b = true then te τ2 L3 Q' else R' L3)
    (hq : Q (.ilst (zs.filterMap F)) L1) : lcF g tt te vs τ Q (zs.map enc) st L1 := by
  refine ⟨fun i acc L => acc = (zs.take i).filterMap F ∧ L = L1, ⟨by simp, rfl⟩, fun i acc L _ e L' l => hst L' (by rw [← e.2]; exact l), fun i x acc L hx e => ?_, by rw [List.length_map]; exact hz, fun acc L e => ?_⟩
  · obtain ⟨rfl, rfl⟩ := e
    rw [List.getElem?_map] at hx
    cases hz2 : zs[i]? with
    | none => rw [hz2] at hx; cases hx
    | some z =>
      rw [hz2] at hx
      cases hx
      have et : zs.take (i + 1) = zs.take i ++ [z] := by
        rw [List.take_add_one, hz2]; rfl
      refine step z _ _ (List.mem_of_getElem? hz2) (fun y hy => .mk ⟨?_, rfl⟩) (fun hn => .mk ⟨?_, rfl⟩)
      · rw [et, List.filterMap_append, List.filterMap_cons, hy]; rfl
      · rw [et, List.filterMap_append, List.filterMap_cons, hn]; simp
  · obtain ⟨rfl, rfl⟩ := e
    rw [List.length_map, List.take_length]
    exact hq
theorem lcF_f {α : Type} {g : PG'} {te : TE'} {vs : List Nat} {τ : S'} {L1 : Lp} {Q : VK'} {st : Lp → Prop} (zs : List α) (enc : α → D) (f : α → D) (hz : zs.length ≤ sizeLine) (hst : ∀ L', Le L1 L' → st L')
    (step : ∀ (z : α) (Q' : VK'), z ∈ zs → Q' (f z) L1 → gK (g (enc z) (wipeD τ vs)) fun τ2 => te τ2 L1 Q')
    (hq : Q (.ilst (zs.map f)) L1) : lcF g wYes te vs τ Q (zs.map enc) st L1 := by
  refine lcF_m zs enc (fun z => some (f z)) hz hst (fun z Q' R' hm hy _ => ?_) (by rw [List.filterMap_eq_map']; exact hq)
  exact gK_imp (step z Q' hm (hy _ rfl)) fun τ h => yes_e h
/-- walks that change what stands at b -/
theorem lcF_b {α β : Type} {g : PG'} {te : TE'} {vs : List Nat} {τ : S'} {L1 : Lp} {Q : VK'} {st : Lp → Prop} {b : Addr} (zs : List α) (enc : α → D) (enc2 : β → D) (A : Nat → List β → O → Prop) (hz : zs.length ≤ sizeLine)
    (hst : ∀ o L', Le (up L1 b o) L' → st L') (o0 : O) (hb : L1 b = some o0) (a0 : A 0 [] o0)
    (step : ∀ (i : Nat) (z : α) (bs : List β) (o : O) (Q' : VK'), zs[i]? = some z → A i bs o → (∀ y o', A (i + 1) (bs ++ [y]) o' → Q' (enc2 y) (up L1 b o')) → gK (g (enc z) (wipeD τ vs)) fun τ2 => te τ2 (up L1 b o) Q')
    (hq : ∀ bs o, A zs.length bs o → bs.length = zs.length → Q (.ilst (bs.map enc2)) (up L1 b o)) : lcF g wYes te vs τ Q (zs.map enc) st L1 := by
  refine ⟨fun i acc L => i ≤ zs.length ∧ ∃ bs o, acc = bs.map enc2 ∧ bs.length = i ∧ L = up L1 b o ∧ A i bs o, ⟨Nat.zero_le _, [], o0, rfl, rfl, ?_, a0⟩, ?_, fun i x acc L hx e => ?_, by rw [List.length_map]; exact hz, fun acc L e => ?_⟩
  · funext c
    by_cases h : c = b
    · subst h; rw [up_same, hb]
    · rw [up_ne h]
  · rintro i acc L _ ⟨_, bs, o, _, _, rfl, _⟩ L' l
    exact hst o L' l
  · obtain ⟨hi, bs, o, rfl, hl, rfl, ha⟩ := e
    rw [List.getElem?_map] at hx
    cases hz2 : zs[i]? with
    | none => rw [hz2] at hx; cases hx
    | some z =>
      rw [hz2] at hx
      cases hx
      have hlt : i < zs.length := by
        rcases Nat.lt_or_ge i zs.length with h | h
        · exact h
        · rw [List.getElem?_eq_none h] at hz2; cases hz2
      exact gK_imp (step i z bs o _ hz2 ha fun y o' ha' => .mk ⟨hlt, bs ++ [y], o', by simp, by simp [hl], rfl, ha'⟩) fun τ h => yes_e h
  · rw [List.length_map] at e
    obtain ⟨hi, bs, o, rfl, hl, rfl, ha⟩ := e
    exact hq bs o ha hl
theorem seqD_up {L : Lp} {b : Addr} {xs : List D} : seqD (.ref b) (up L b (.lst xs)) = some xs := seq_ref up_same
theorem seqL_up {L : Lp} {b : Addr} {xs : List D} : seqL (.ref b) (up L b (.lst xs)) = some xs := seqL_ref up_same
theorem len_ilst {L : Lp} {Q : VK'} {ds : List D} : lenD [.ilst ds] L Q = Q (.int ds.length) L := rfl
theorem len_up {L : Lp} {b : Addr} {Q : VK'} {ds : List D} : lenD [.ref b] (up L b (.lst ds)) Q = Q (.int ds.length) (up L b (.lst ds)) := len_seq seqD_up
theorem truD_ilst {L : Lp} {ds : List D} {R : Bool → Lp → Prop} : truD (.ilst ds) L R = R (!ds.isEmpty) L := rfl
/-- held back; the kernel does not look into it -/
noncomputable def hld {α : Type} (x : α) : α := Classical.choose (⟨x, rfl⟩ : ∃ y, y = x)
theorem hld_eq {α : Type} (x : α) : hld x = x := Classical.choose_spec (⟨x, rfl⟩ : ∃ y, y = x)
/-! statements at ends that are written out -/
section
variable {nx bk ct : S' → Lp → Prop} {rt : VK'} {τ : S'} {L : Lp} {K : PySem.W.Frag}
theorem wNext_m : wNext ⟨nx, rt, bk, ct⟩ τ L = nx τ L := rfl
theorem wSeq_m {t u : TS'} : wSeq t u ⟨nx, rt, bk, ct⟩ τ L = t ⟨hld (u ⟨nx, rt, bk, ct⟩), rt, bk, ct⟩ τ L := by rw [hld_eq]; rfl
theorem wBreak_m : wBreak ⟨nx, rt, bk, ct⟩ τ L = bk τ L := rfl
theorem wCont_m : wCont ⟨nx, rt, bk, ct⟩ τ L = ct τ L := rfl
theorem wDrop_m {t : TE'} : wDrop t ⟨nx, rt, bk, ct⟩ τ L = t τ L fun _ L1 => nx τ L1 := rfl
theorem wRet_m {t : TE'} : wRet t ⟨nx, rt, bk, ct⟩ τ L = t τ L rt := rfl
theorem wRetN_m : wRetN ⟨nx, rt, bk, ct⟩ τ L = rt .non L := rfl
theorem wIfS_m {c : TT'} {t u : TS'} : wIfS c t u ⟨nx, rt, bk, ct⟩ τ L = c τ L fun b L1 => if b = true then hld (t ⟨nx, rt, bk, ct⟩) τ L1 else hld (u ⟨nx, rt, bk, ct⟩) τ L1 := by rw [hld_eq, hld_eq]; rfl
theorem wAsg_m {t : TE'} {g : TG'} : wAsg t g ⟨nx, rt, bk, ct⟩ τ L = t τ L fun d L1 => g d τ L1 nx := rfl
theorem wPar_m {i j : Nat} {ta : TA'} : wPar i j ta ⟨nx, rt, bk, ct⟩ τ L = ta τ L fun ds L1 => pairK ds fun v w => nx ((τ.set i (some v)).set j (some w)) L1 := rfl
theorem wPar3_m {i j l : Nat} {ta : TA'} : wPar3 i j l ta ⟨nx, rt, bk, ct⟩ τ L = ta τ L fun ds L1 => trioK ds fun u v w => nx (((τ.set i (some u)).set j (some v)).set l (some w)) L1 := rfl
theorem wFldS_m {to tv : TE'} {f : Str} : wFldS K to tv f ⟨nx, rt, bk, ct⟩ τ L = tv τ L fun v L1 => to τ L1 fun d L2 => sfldK K d f v L2 fun L3 => nx τ L3 := rfl
theorem wDput_m {td tk tv : TE'} : wDput td tk tv ⟨nx, rt, bk, ct⟩ τ L = tv τ L fun v L1 => td τ L1 fun x L2 => tk τ L2 fun y L3 => dkK x y L3 fun a kvs k => kvs.length < sizeLine ∧ nx τ (up L3 a (.dT (putD kvs k v))) := rfl
/-- the turns of a for -/
def forB (g : TG') (tb : TS') (nx : S' → Lp → Prop) (rt : VK') (τ : S') (xs : List D) (st : Lp → Prop) (L1 : Lp) : Prop := ∃ Pv : Nat → S' → Lp → Prop, Pv 0 τ L1 ∧ (∀ i τ L, i ≤ xs.length → Pv i τ L → st L) ∧
  (∀ i x τ L, xs[i]? = some x → Pv i τ L → g x τ L fun τ2 L2 => tb ⟨DnS (Pv (i + 1)), rt, nx, DnS (Pv (i + 1))⟩ τ2 L2) ∧ ∀ τ L, Pv xs.length τ L → nx τ L
theorem wFor_m {wi : TI'} {g : TG'} {tb : TS'} : wFor wi g tb ⟨nx, rt, bk, ct⟩ τ L = wi τ L (forB g tb nx rt τ) := rfl
theorem for_t {α : Type} {g : TG'} {tb : TS'} {st : Lp → Prop} (zs : List α) (enc : α → D) (Pv : Nat → S' → Lp → Prop) (h0 : Pv 0 τ L) (hst : ∀ i τ L, i ≤ zs.length → Pv i τ L → st L)
    (step : ∀ i z τ L, zs[i]? = some z → Pv i τ L → g (enc z) τ L fun τ2 L2 => tb ⟨DnS (Pv (i + 1)), rt, nx, DnS (Pv (i + 1))⟩ τ2 L2) (done : ∀ τ L, Pv zs.length τ L → nx τ L) : forB g tb nx rt τ (zs.map enc) st L := by
  refine ⟨Pv, h0, fun i τ L hi p => hst i τ L (by rw [List.length_map] at hi; exact hi) p, fun i x τ L hx p => ?_, fun τ L p => done τ L (by rw [List.length_map] at p; exact p)⟩
  rw [List.getElem?_map] at hx
  cases hz : zs[i]? with
  | none => rw [hz] at hx; cases hx
  | some z =>
    rw [hz] at hx
    cases hx
    exact step i z τ L hz p
theorem for_r {g : TG'} {tb : TS'} {st : Lp → Prop} {lo : Int} {n : Nat} (Pv : Nat → S' → Lp → Prop) (h0 : Pv 0 τ L) (hst : ∀ i τ L, i ≤ n → Pv i τ L → st L)
    (step : ∀ (i : Nat) τ L, i < n → Pv i τ L → g (.int (lo + i)) τ L fun τ2 L2 => tb ⟨DnS (Pv (i + 1)), rt, nx, DnS (Pv (i + 1))⟩ τ2 L2) (done : ∀ τ L, Pv n τ L → nx τ L) : forB g tb nx rt τ (rgD lo n) st L := by
  refine ⟨Pv, h0, fun i τ L hi p => hst i τ L (by rw [rgD_len] at hi; exact hi) p, fun i x τ L hx p => ?_, fun τ L p => done τ L (by rw [rgD_len] at p; exact p)⟩
  have hi : i < n := by
    rcases Nat.lt_or_ge i (rgD lo n).length with h | h
    · rw [rgD_len] at h; exact h
    · rw [List.getElem?_eq_none h] at hx; cases hx
  rw [rgD_get hi] at hx
  cases hx
  exact step i τ L hi p
theorem wWhile_m {c : TT'} {tb : TS'} (Pv : Nat → S' → Lp → Prop) (h0 : ∃ m, Pv m τ L) (step : ∀ m τ L, Pv m τ L → c τ L fun b L1 => if b = true then hld (tb ⟨DnS fun τ' L' => ∃ m', m' < m ∧ Pv m' τ' L', rt, nx, DnS fun τ' L' => ∃ m', m' < m ∧ Pv m' τ' L'⟩) τ L1 else hld nx τ L1) : wWhile c tb ⟨nx, rt, bk, ct⟩ τ L := ⟨Pv, h0, fun m τ L p => by have := step m τ L p; rw [hld_eq, hld_eq] at this; exact this⟩
end
theorem frzK_up {L : Lp} {a : Addr} {ds : List D} {Q : VK'} : frzK (.ref a) (up L a (.lst ds)) Q = Q (.ilst ds) (del L a) := by rw [frzK_lst up_same, del_up]
theorem frzK_upi {L : Lp} {a C : Addr} {fs : List (Str × D)} {Q : VK'} : frzK (.ref a) (up L a (.ins C fs)) Q = Q (.obj C fs) (del L a) := by rw [frzK_ins up_same, del_up]
theorem en_at {ds : List D} {i : Nat} {x : D} (h : (enD 0 ds)[i]? = some x) : ∃ d, ds[i]? = some d ∧ x = .tup [.int i, d] := by
  cases e : ds[i]? with
  | none =>
    have : ds.length ≤ i := List.getElem?_eq_none_iff.mp e
    rw [List.getElem?_eq_none (by rw [enD_len]; exact this)] at h
    cases h
  | some d =>
    rw [enD_get 0 ds i d e] at h
    cases h
    exact ⟨d, rfl, by rw [Nat.zero_add]⟩
theorem app_ref {L : Lp} {a : Addr} {e : D} {Q : VK'} : appendD (.ref a) [e] L Q = ∃ xs, L a = some (.lst xs) ∧ xs.length < sizeLine ∧ Q .non (up L a (.lst (xs ++ [e]))) := rfl
theorem app_up {L : Lp} {a : Addr} {e : D} {xs : List D} {Q : VK'} (h : xs.length < sizeLine) (q : Q .non (up L a (.lst (xs ++ [e])))) : appendD (.ref a) [e] (up L a (.lst xs)) Q := ⟨xs, up_same, h, by rw [up_up]; exact q⟩
theorem kind_up {L : Lp} {a : Addr} {xs : List D} : kindD "list" (.ref a) (up L a (.lst xs)) := .inl ⟨rfl, xs, up_same⟩
theorem hld_i {t : S' → Lp → Prop} {τ : S'} {L : Lp} (h : t τ L) : hld t τ L := by rw [hld_eq]; exact h
theorem up_id {L : Lp} {b : Addr} {o : O} (h : L b = some o) : up L b o = L := by
  funext c
  by_cases e : c = b
  · subst e; rw [up_same, h]
  · rw [up_ne e]
end Z

/-! errors by data: raised, passed on, caught; lambdas that are handed to a def -/
namespace Z
open PySem PySem.Spec PyProof.Rows L2
abbrev WX' := S' → XK'
def LinkE (K : PySem.W.Frag) (H : Hp) (E' : XK') (E : XK) : Prop := ∀ C fs L1 od H1, E' C fs L1 → Kp H H1 → RepH K H1 L1 → ExcAt K H1 L1 od fs → E (.ref C) od H1
def LinkW (K : PySem.W.Frag) (H : Hp) (W' : WX') (W : WX) : Prop := ∀ τ1 C fs L1 σ1 od H1, W' τ1 C fs L1 → Kp H H1 → RepH K H1 L1 → RepS K H1 τ1 σ1 → ExcAt K H1 L1 od fs → W (.ref C) od σ1 H1
theorem LinkE.mono {K : PySem.W.Frag} {H H1 : Hp} {E' : XK'} {E : XK} (h : LinkE K H E' E) (k : Kp H H1) : LinkE K H1 E' E := fun C fs L1 od H2 q kp rh ex => h C fs L1 od H2 q (k.trans kp) rh ex
theorem LinkW.mono {K : PySem.W.Frag} {H H1 : Hp} {E' : WX'} {E : WX} (h : LinkW K H E' E) (k : Kp H H1) : LinkW K H1 E' E := fun τ C fs L1 σ od H2 q kp rh rs ex => h τ C fs L1 σ od H2 q (k.trans kp) rh rs ex
theorem inv_kp {X : Cx} {pins : List (Addr × Obj)} {σ : L2.St} {H : Hp} {s : Shared} (I : Inv X pins σ H s) : Kp X.H_0 H := ⟨I.base.tups, I.base.frzs⟩
/-- an expression that may raise -/
def lX (K : PySem.W.Frag) (W : WX) (t : WX' → TE') : TE := fun σ H Q => ∃ τ L Q' W', RepS K H τ σ ∧ RepH K H L ∧ t W' τ L Q' ∧ (∀ d L1 v H1, Q' d L1 → Kp H H1 → RepH K H1 L1 → RelD K H1 d v → Q v H1) ∧ LinkW K H W' W
def lXE (K : PySem.W.Frag) (E : XK) (t : XK' → TE') : TE := fun σ H Q => ∃ τ L Q' E', RepS K H τ σ ∧ RepH K H L ∧ t E' τ L Q' ∧ (∀ d L1 v H1, Q' d L1 → Kp H H1 → RepH K H1 L1 → RelD K H1 d v → Q v H1) ∧ LinkE K H E' E
def wCallX (sp : Sp') (t : TA') : WX' → TE' := fun W' τ L Q => t τ L fun ds L1 => sp ds L1 Q (W' τ)
theorem wCallX_e {sp : Sp'} {t : TA'} {W' : WX'} {τ : S'} {L : Lp} {Q : VK'} : wCallX sp t W' τ L Q = t τ L fun ds L1 => sp ds L1 Q (W' τ) := rfl
section
variable {X : Cx} {k : Nat} {f : Addr} {fd : FuncData} {ps : List Str} {sp : Sp'} {x : Str} {p pos : Pos} {e : Expr} {es : List Expr} {t : TA'}
theorem px_call {W : WX} (F : FnOk X.prog X.w X.K X.mg X.base (L2.CX X.prog X.w) k f fd ps (lSp X.K sp)) (tk : Takes X W) (hr : Room k X.A) (hg : Gl X x) (hm : X.mg x = some (.ref f)) (hk : PySem.W.keepIn X.K (.ref f) = true) (hb : Binds X.K fd ps []) (ha : QA X (e :: es) t)
    (hdb : (x == ("__debug__" : Str)) = false := by decide) (he : starEach (e :: es) X.env = (false, eval e X.env) :: starEach es X.env := by rfl) (hpl : (backTo pos (starEach es X.env)).any (·.1) = false := by rfl) :
    PE X (.Call (.Name x p) (e :: es) [] pos) (lX X.K W (wCallX sp t)) := PE.str (pe_callS F hr hg hm hk hb (fun σ => passAt tk σ) ha hdb he hpl) fun σ H Q h => by
  obtain ⟨τ, L, Q', W', a, b, c, k, kw⟩ := h
  refine ⟨τ, L, _, a, b, c, fun ds L1 vs H1 q hl kp rh rd => ?_⟩
  exact ⟨ds, L1, Q', W' τ, rd, rh, q, fun d L2 v H2 q2 kp2 => k d L2 v H2 q2 (kp.trans kp2), fun C fs L2 od H2 q2 kp2 rh2 ex => kw τ C fs L2 σ od H2 q2 (kp.trans kp2) rh2 (a.mono (kp.trans kp2)) ex⟩
/-- .. in a lambda's body, in a def -/
theorem px_e {E : XK} {t : WX' → TE'} (h : PE X e (lX X.K (fun cls d _ H => E cls d H) t)) : PE X e (lXE X.K E fun E' => t fun _ => E') := PE.str h fun σ H Q q => by
  obtain ⟨τ, L, Q', E', a, b, c, k, ke⟩ := q
  exact ⟨τ, L, Q', fun _ => E', a, b, c, k, fun τ1 C fs L1 σ1 od H1 q kp rh _ ex => ke C fs L1 od H1 q kp rh ex⟩
theorem q_px {E : XK} {E' : XK'} {t : XK' → TE'} (h : PE X e (lXE X.K E t)) (l : LinkE X.K X.H_0 E' E) : QE X e (t E') := ⟨fun pins s σ H Q I q => by
  obtain ⟨τ, L, Q', a, b, c, k⟩ := q
  exact h.run pins s σ H Q I ⟨τ, L, Q', E', a, b, c, k, l.mono (inv_kp I)⟩⟩
end
/-! keywords -/
section
variable {X : Cx} {k : Nat} {f : Addr} {fd : FuncData} {ps ks : List Str} {sp : Sp'} {x : Str} {p pos : Pos} {kws : List Keyword} {t : TA'}
def wCallKX (sp : Sp') (g : {α : Type} → List α → List α) (t : TA') : XK' → TE' := fun E' τ L Q => t τ L fun ds L1 => sp (g ds) L1 Q E'
theorem wCallKX_e {sp : Sp'} {g : {α : Type} → List α → List α} {t : TA'} {E' : XK'} {τ : S'} {L : Lp} {Q : VK'} : wCallKX sp g t E' τ L Q = t τ L fun ds L1 => sp (g ds) L1 Q E' := rfl
end
/-! ### raise -/
section
variable {X : Cx} {C : Addr} {bmB : List Value} {B newId initId : String}
/-- X() -/
theorem pmk_own0 {x : Str} {p pos : Pos} (F : ExcBaseFacts B newId initId bmB) (q : PySem.W.excIn X.K C bmB newId = true) (gC : X.mg x = some (.ref C)) (kC : PySem.W.keepIn X.K (.ref C) = true) (r : Raises X (.ref C)) (hg : Gl X x)
    (hdb : (x == ("__debug__" : Str)) = false := by decide) : PMk X (.Call (.Name x p) [] [] pos) (fun _ H Q => Q (.ref C) none H) := by
  intro pins s σ H Q I h
  refine wpAny_Call_Name_kw (ld_glob I hg gC ?_ hdb)
  refine PySem.W.callWith_K0 I.kIn kC ?_
  show wpAny _ _ (call (.ref C) []) _ _ _
  obtain ⟨bm, N, nm, qn, bs, hdct, sn, sub, ab, col, dd, k0, k1, k2, k3, k5, mN, hC, hN, hni, T⟩ := exc_obj I.kIn q
  refine wpAny_call_exc_subT F T hC hN hni (fun h' e hm => ?_) (Nat.zero_le _)
  exact mk_of I hm r h (I.hok.gone hm.new)
/-- raise X(): nothing is told -/
def wRaise0 (E' : XK') (C : Addr) : TS' := fun _ _ L => E' C [] L
theorem wRaise0_e {E' : XK'} {C : Addr} {D : Ends'} {τ : S'} {L : Lp} : wRaise0 E' C D τ L = E' C [] L := rfl
theorem qs_raise0 {e : Expr} {pos : Pos} {E : XK} {E' : XK'} (hc : X.calm = true) (tk : Takes X (fun cls d _ H => E cls d H)) (l : LinkE X.K X.H_0 E' E) (he : PMk X e (fun _ H Q => Q (.ref C) none H)) : QS X (.Raise (some e) none pos) (wRaise0 E' C) :=
  ⟨fun pins s σ H D I q => by
    obtain ⟨τ, L, D', a, b, c, _⟩ := q
    exact (ps_raise hc tk he).run pins s σ H D I (l C [] L none H c (inv_kp I) b (.inl ⟨rfl, rfl⟩))⟩
end
section
variable {P : Program} {w : World} {K : PySem.W.Frag} {mg : Str → Option Value} {base : Heap} {x qual : Str} {params : Arguments} {body : List Stmt} {scope : Scope} {dvs : List V} {kws : List (Str × V)} {f : Addr} {fd : FuncData}
/-- a def that may raise -/
theorem okDX {N ps : List Str} {k : Nat} {sp : Sp'} {t : XK' → TS'} (F : FunD K x qual params body scope dvs kws f fd) (S : FnScope N ps scope) (len : ∀ ds L Q E, sp ds L Q E → ds.length = ps.length)
    (hb : ∀ (cdv : Value) (A : Around) (outer : List Env) (s : Shared) (H : Hp) (E : XK) (E' : XK'), Room k (A.deeper (envOfC qual scope s.heap.objs.size f cdv)) → LinkE K H E' E → QSs (cxOf (L2.CX P w) P w K mg base N qual scope f cdv A outer s H E) body (t E'))
    (hs : ∀ ds L Q E', sp ds L Q E' → t E' { nx := fun _ L1 => Dn (Q .non) L1, rt := fun d L1 => Dn (Q d) L1 } (start' N ds) L) : FnOk P w K mg base (L2.CX P w) (k + 1) f fd ps (lSp K sp) := by
  refine F.ok S (fun vs H Q E h => ?_) (fun cdv A outer s H vs Q E hr h => ?_)
  · obtain ⟨ds, L, Q', E', r, _, q, _⟩ := h
    rw [← r.length]
    exact len _ _ _ _ q
  · obtain ⟨ds, L, Q', E', r, rh, q, k1, k2⟩ := h
    refine ⟨_, hb cdv A outer s H E E' hr k2, start' N ds, L, _, start_rep r N, rh, hs _ _ _ _ q, ?_, ?_, fun _ _ _ _ z => z.elim, fun _ _ _ _ z => z.elim⟩
    · rintro τ1 L1 σ1 H1 ⟨L2, l, q2⟩ kp rh1 _
      exact k1 _ L2 _ H1 q2 kp (rh1.le l) .non
    · rintro d L1 v H1 ⟨L2, l, q2⟩ kp rh1 rd
      exact k1 _ L2 _ H1 q2 kp (rh1.le l) rd
theorem takes_def {N : List Str} {cdv : Value} {A : Around} {outer : List Env} {s : Shared} {H : Hp} {E : XK} : Takes (cxOf (L2.CX P w) P w K mg base N qual scope f cdv A outer s H E) (fun cls d _ H => E cls d H) := takes_of rfl rfl rfl rfl
end
end Z

/-! lambdas that are handed to a def -/
namespace Z
open PySem PySem.Spec PyProof.Rows L2
section
variable {X : Cx} {k : Nat} {f : Addr} {fd : FuncData} {ps ks : List Str} {sp : Sp'} {x : Str} {p pos : Pos} {kws : List Keyword} {t : TA'}
theorem px_callK {E : XK} (g : {α : Type} → List α → List α) (R : Rg g)
    (F : FnOk X.prog X.w X.K X.mg X.base (L2.CX X.prog X.w) k f fd ps (lSp X.K sp)) (tk : Takes X (fun cls d _ H => E cls d H)) (hr : Room k X.A) (hg : Gl X x) (hm : X.mg x = some (.ref f)) (hk : PySem.W.keepIn X.K (.ref f) = true) (hb : KBinds X.K fd ps ks (fun us ws => us ++ g ws) (fun vs zs => vs ++ g zs))
    (hkw : QK X kws t) (hall : (backToKw pos (keywordEach kws X.env)).all (·.1.isSome) = true := by rfl) (hks : (backToKw pos (keywordEach kws X.env)).filterMap (·.1) = ks := by rfl)
    (hdb : (x == ("__debug__" : Str)) = false := by decide)
    (hpl : ((backTo pos (starEach [] X.env)).any (·.1) || (backToKw pos (keywordEach kws X.env)).any (·.1.isNone)) = false := by rfl) :
    PE X (.Call (.Name x p) [] kws pos) (lXE X.K E (wCallKX sp g t)) := PE.str (pe_callK0 F hr hg hm hk hb (passes_call tk fun _ _ _ _ h => h) hkw hall hks hdb hpl) fun σ H Q h => by
  obtain ⟨τ, L, Q', E', a, b, c, k, ke⟩ := h
  refine ⟨τ, L, _, a, b, c, fun ds L1 vs H1 q hl kp rh rd => ?_⟩
  exact ⟨g ds, L1, Q', E', R.rels rd, rh, q, fun d L2 v H2 q2 kp2 => k d L2 v H2 q2 (kp.trans kp2), fun C fs L2 od H2 q2 kp2 rh2 ex => ke C fs L2 od H2 q2 (kp.trans kp2) rh2 ex⟩
end
/-! ### try: return ("", a()) / except X as n: suite; rest -/
def upx (L : Lp) (od : Option Addr) (fs : List (Str × D)) : Lp := match od with
  | none => L
  | some d => up L d (.xd fs)
theorem le_upx {L : Lp} {od : Option Addr} {fs : List (Str × D)} (h : ∀ d, od = some d → L d = none) : Le L (upx L od fs) := by
  cases od with
  | none => exact Le.refl L
  | some d => exact (Le.refl L).new (h d rfl)
abbrev TsX := Addr → Addr → Option Addr → TS'
/-- what the maker of the lambda is told -/
def TTd (K : PySem.W.Frag) (CS : Addr) (ts : TsX) (tr : TS') (tl : XK' → Lp → VK' → Prop) : Lp → VK' → Prop := fun L Q =>
  tl (fun C fs L' => PySem.W.exmOne K (.ref C) (.ref CS) = some true ∧ ∀ (a : Addr) (od : Option Addr), L' a = none → (∀ d, od = some d → L' d = none) → (od = none ↔ fs = []) →
    ts a C od { nx := fun τ' L2 => tr { nx := fun _ L3 => Dn (Q .non) L3, rt := fun d L3 => Dn (Q d) L3 } (τ'.set 1 none) L2, rt := fun d L3 => Dn (Q d) L3 } [none, some (.ref a)] (upx L' od fs)) L (fun d L1 => Q (.tup [.str "", d]) L1)
/-- the same at the hand layer -/
def TTh (K : PySem.W.Frag) (CS : Addr) (ts : TsX) (tr : TS') : (XK → Hp → VK → Prop) → Hp → VK → Prop := fun tl H Q =>
  tl (fun cls d H' => PySem.W.exmOne K cls (.ref CS) = some true ∧ ∀ (a : Addr) (z : Option V), H' a = none → ∃ C, cls = .ref C ∧ lS K (ts a C d) { nx := fun σ' H2 => lS K tr { nx := fun _ H3 => Q .non H3, rt := Q } (σ'.set 1 none) H2, rt := Q } [z, some (.ref a)] H') H
    (fun v H1 => ([V.str "", v] : List V).length ≤ sizeLine ∧ ∀ p, H1 p = none → Q (.ref p) (upd H1 p (.tup [.str "", v])))
theorem tth_of {K : PySem.W.Frag} {CS : Addr} {ts : TsX} {tr : TS'} {t' : XK' → TE'} {τ : S'} {σ : L2.St} {L : Lp} {H : Hp} {Q' : VK'} {Q : VK} (a : RepS K H τ σ) (b : RepH K H L) (c : TTd K CS ts tr (fun E' L' Q' => t' E' τ L' Q') L Q')
    (k : ∀ d L1 v H1, Q' d L1 → Kp H H1 → RepH K H1 L1 → RelD K H1 d v → Q v H1) : TTh K CS ts tr (fun E H' Q2 => lXE K E t' σ H' Q2) H Q := by
  refine ⟨τ, L, _, _, a, b, c, fun d L1 v H1 q kp rh rd => ⟨by rw [sizeLine_eq]; exact (by decide : 2 ≤ 16777216), fun p np => ?_⟩, fun C fs L' od H1 q kp rh ex => ⟨q.1, fun aa z na => ⟨C, rfl, ?_⟩⟩⟩
  · exact k _ L1 _ _ q (kp.trans (Kp.new np)) (rh.hid np) (.tup upd_same (.cons (.str _) (.cons (rd.mono (Kp.new np)) .nil)))
  · have dn : ∀ (d : D) (L2 : Lp) (v : V) (H2 : Hp), Dn (Q' d) L2 → Kp H H2 → RepH K H2 L2 → RelD K H2 d v → Q v H2 := fun d L2 v H2 ⟨L3, l, q3⟩ kp2 rh2 rd => k d L3 v H2 q3 kp2 (rh2.le l) rd
    have nd : ∀ d, od = some d → L' d = none := fun d e => by
      rcases ex with ⟨e2, _⟩ | ⟨d2, gs, e2, e3, _⟩
      · rw [e] at e2; cases e2
      · rw [e] at e2; cases e2; exact e3
    have z0 : od = none ↔ fs = [] := by
      rcases ex with ⟨e1, e2⟩ | ⟨d2, gs, e2, _, _, _, e3⟩
      · exact ⟨fun _ => e2, fun _ => e1⟩
      · exact ⟨fun e => (by rw [e] at e2; cases e2), fun e => absurd e e3⟩
    have rx : RepH K H1 (upx L' od fs) := by
      cases od with
      | none => exact rh
      | some d =>
        rcases ex with ⟨e2, _⟩ | ⟨d2, gs, e2, e3, e4, r, _⟩
        · cases e2
        · cases e2
          intro b o e
          by_cases hb : b = d
          · subst hb
            have z : Z.up L' b (.xd fs) b = some (.xd fs) := up_same
            rw [show upx L' (some b) fs = Z.up L' b (.xd fs) from rfl, z] at e
            cases e
            exact ⟨gs, e4, r⟩
          · rw [show upx L' (some d) fs = Z.up L' d (.xd fs) from rfl, up_ne hb] at e
            exact rh b o e
    refine ⟨[none, some (.ref aa)], upx L' od fs, _, ⟨rfl, fun i d e => ?_⟩, rx, q.2 aa od (rh.no na) nd z0, ?_, ?_, fun _ _ _ _ z => z.elim, fun _ _ _ _ z => z.elim⟩
    · match i, e with
      | 0, e => cases e
      | 1, e => cases e; exact ⟨_, rfl, .ref _⟩
    · intro τ2 L2 σ2 H2 q2 kp2 rh2 rs2
      refine ⟨_, L2, _, rs2.none 1, rh2, q2, ?_, ?_, fun _ _ _ _ z => z.elim, fun _ _ _ _ z => z.elim⟩
      · intro τ3 L3 σ3 H3 q3 kp3 rh3 _
        exact dn _ L3 _ H3 q3 ((kp.trans kp2).trans kp3) rh3 .non
      · intro d L3 v H3 q3 kp3 rh3 rd
        exact dn _ L3 _ H3 q3 ((kp.trans kp2).trans kp3) rh3 rd
    · intro d L3 v H3 q3 kp3 rh3 rd
      exact dn _ L3 _ H3 q3 (kp.trans kp3) rh3 rd
theorem takes_len {X : Cx} {W : WX} (tk : Takes X W) : Takes X (fun c d σ H => σ.length = X.N.length → W c d σ H) := fun u s' ⟨a, B, sI, pins, σ, H, cls, d, e, I, nb, up, sky, na, os, ag, w⟩ => tk u s' ⟨a, B, sI, pins, σ, H, cls, d, e, I, nb, up, sky, na, os, ag, w I.len⟩
/-- the def that is handed the lambda -/
theorem told_as {X : Cx} {x a n e q : Str} {sg : Scope} {g CS : Addr} {cdg : Value} {j kk : Nat} {p0 p1 p2 p3 p4 p5 p6 p7 : Pos} {b₀ : Stmt} {suite rest : List Stmt} {ts : TsX} {tr : TS'}
    (hge : sg.names.lookup e = some .globalImplicit) (hme : X.mg e = some (.ref CS)) (hde : (e == ("__debug__" : Str)) = false) (hN : ([a, n] : List Str).Nodup) (hln : sg.names.lookup n = some .local)
    (hsu : ∀ (A : Around) (outer : List Env) (s : Shared) (H : Hp) (aa : Addr) (oe : Obj) (C : Addr) (d : Option Addr) (pn : List (Addr × Obj)), Zc (.ref C) d oe → (∃ vs, oe.data = .fields vs) → QSs ((cxOf C8.CX0 X.prog X.w X.K X.mg X.base [a, n] x sg g cdg A outer s H C8.E0).nox.suite aa ((aa, oe) :: pn)) (b₀ :: suite) (ts aa C d))
    (hre : ∀ (A : Around) (outer : List Env) (s : Shared) (H : Hp), QSs (cxOf C8.CX0 X.prog X.w X.K X.mg X.base [a, n] x sg g cdg A outer s H C8.E0).nox rest tr) :
    LamX.GivesTo X [a, n] x sg g cdg (.Try [.Return (some (.Tuple [.Constant (.str "") j p0, .Call (.Name a p1) [] [] p2] kk p3)) p4] [.ExceptHandler (some (.Name e p5)) (some n) (b₀ :: suite) p6] [] [] p7 :: rest) a q (TTh X.K CS ts tr) := by
  intro f c' s H Q tl act hc h
  have hgl : Gl (cxOf C8.CX0 X.prog X.w X.K X.mg X.base [a, n] x sg g cdg X.A X.stack s H C8.E0).nox e := hge
  refine ⟨_, pss_cons (ps_try_as (X := (cxOf C8.CX0 X.prog X.w X.K X.mg X.base [a, n] x sg g cdg X.A X.stack s H C8.E0).nox) (c := .ref CS) (i := 1) (n := n)
      (tb := fun W D σ H => ∃ Ech : XK, (∀ cls d σ' H', Ech cls d H' → σ'.length = 2 → W cls d σ' H') ∧ σ[0]? = some (some (.ref f)) ∧ H c' = some (LamX.CodeO c' q) ∧ tl Ech H fun v H1 => ([V.str "", v] : List V).length ≤ sizeLine ∧ ∀ p, H1 p = none → D.rt (.ref p) (upd H1 p (.tup [.str "", v])))
      (ts := fun aa cls d D σ H => ∃ C, cls = .ref C ∧ lS X.K (ts aa C d) D σ H)
      rfl rfl hN rfl hln ⟨hgl, hde, .inl hme⟩ takes0 (fun W pn xe tk _ => ?_) (fun aa oe cls d pn hz hf => ?_)) (hre X.A X.stack s H), ?_⟩
  · refine ⟨fun pins s' σ H' D I h' => ?_⟩
    obtain ⟨Ech, hW, h1, h2, h3⟩ := h'
    have hp := act _ pn xe Ech p1 p2 (takes_len tk) fun cls d σ' H' q l => hW cls d σ' H' q l
    refine (pss_one (ps_ret (pos := p4) (pe_tup (x1 := kk) (pos := p3) (pa_cons (pe_str (pos := p0) (j := j)) (pa_cons hp pa_nil))))).run pins s' σ H' D I ?_
    exact ⟨h1, h2, h3⟩
  · refine ⟨fun pins s' σ H' D I h' => ?_⟩
    obtain ⟨C, e, h'⟩ := h'
    subst e
    exact (hsu X.A X.stack s H aa oe C d pn hz hf).run pins s' σ H' D I h'
  · refine ⟨_, fun cls d σ' H' q l => ?_, rfl, hc, h⟩
    obtain ⟨q1, q2⟩ := q
    refine ⟨true, q1, fun _ aa na => ?_, fun z => nomatch z⟩
    match σ', l with
    | [z, y], _ => exact q2 aa z na
/-! ### x(lambda: body) -/
def TabsAre (T : List (Addr × Str)) (L : Lp) : Prop := (∀ p ∈ T, L p.1 = some (.tab p.2)) ∧ ∀ P q, L P = some (.tab q) → (P, q) ∈ T
theorem TabsAre.up {T : List (Addr × Str)} {L : Lp} {a : Addr} {o : O} (h : TabsAre T L) (n : ∀ q, L a ≠ some (.tab q)) (m : ∀ q, o ≠ .tab q) : TabsAre T (up L a o) := by
  refine ⟨fun p hp => ?_, fun P q e => ?_⟩
  · rw [up_ne (fun z => n p.2 (by rw [← z]; exact h.1 p hp))]
    exact h.1 p hp
  · by_cases z : P = a
    · subst z
      rw [up_same] at e
      cases e
      exact absurd rfl (m q)
    · rw [up_ne z] at e
      exact h.2 P q e
def wLam (T : List (Addr × Str)) (K : PySem.W.Frag) (CS : Addr) (ts : TsX) (tr : TS') (t' : XK' → TE') : TE' := fun τ L Q => TabsAre T L ∧ TTd K CS ts tr (fun E' L' Q' => t' E' τ L' Q') L Q
theorem wLam_e {T : List (Addr × Str)} {K : PySem.W.Frag} {CS : Addr} {ts : TsX} {tr : TS'} {t' : XK' → TE'} {τ : S'} {L : Lp} {Q : VK'} : wLam T K CS ts tr t' τ L Q = (TabsAre T L ∧ TTd K CS ts tr (fun E' L' Q' => t' E' τ L' Q') L Q) := rfl
section
variable {X : Cx}
theorem q_lamcall {T : List (Addr × Str)} {CS : Addr} {ts : TsX} {tr : TS'} {x a : Str} {g c P : Addr} {k : Nat} {pg : Arguments} {bg : List Stmt} {sg : Scope} {dV kV doc pm cdv ct oc : Value} {an od : Option Addr} {osl : Array (Option Value)} {Ng : List Str}
    {params : Arguments} {body : Expr} {scope : Scope} {t' : XK' → TE'} {p lpos pos : Pos} (hg : Gl X x) (hm : X.mg x = some (.ref g)) (hk : PySem.W.keepIn X.K (.ref g) = true)
    (lk : X.K.lookup g = some ⟨oc, od, .func (PySem.W.fnOf x x pg bg sg dV kV doc pm an cdv ct), osl⟩) (hcg : PySem.W.codeIn X.K cdv x = true) (hb : L2.Binds X.K (PySem.W.fnOf x x pg bg sg dV kV doc pm an cdv ct) [a] []) (Sg : FnScope Ng [a] sg) (hNg : Ng[0]? = some a) (hva : Vis sg a)
    (hG : LamX.GivesTo X Ng x sg g cdv bg a (X.env.qual ++ "<lambda>") (TTh X.K CS ts tr))
    (TB : LamX.TabB X.base X.mg c P) (hcode : X.env.code = .ref c) (hmT : (P, X.env.qual ++ "<lambda>") ∈ T) (hu : ∀ p ∈ T, p.1 = P → p.2 = X.env.qual ++ "<lambda>") (hr : Room (k + 2) X.A) (L : LamX.LamS X.env.scope scope) (hdef : defaultsOf params X.env = ([], []))
    (hbind : ∀ (q : Str) (cl : List (Str × Addr)) (pm cv ctv : Value), bindArgs (PySem.W.kla_fn "<lambda>" q params body scope cl pm cv ctv) ⟨[], []⟩ = pure [])
    (hbody : ∀ (A : Around) (outer : List Env) (s : Shared) (H : Hp) (E : XK) (f c' : Addr), Room k (A.deeper (LamX.lamEnv X scope s.heap.objs.size f c')) → Takes (LamX.lamCx X A outer s H E scope f c') (fun cls d _ H => E cls d H) → PE (LamX.lamCx X A outer s H E scope f c') body (lXE X.K E t'))
    (hdb : (x == ("__debug__" : Str)) = false := by decide) (hd : (a == ("__debug__" : Str)) = false := by decide) (hcd : (a == ("__classdict__" : Str)) = false := by decide) :
    QE X (.Call (.Name x p) [.Lambda params body scope lpos] [] pos) (wLam T X.K CS ts tr t') :=
  PE.str (LamX.pe_lamcall (T := T) (TT := TTh X.K CS ts tr) (t := fun E => lXE X.K E t') hg hm hk lk hcg hb Sg hNg hva hG TB hcode hmT hu hr L hdef hbind (fun A outer s H E f c' hr2 => hbody A outer s H E f c' hr2 (takes_of rfl rfl rfl rfl)) hdb hd hcd) fun σ H Q h => by
    obtain ⟨τ, L, Q', a, b, ⟨hT, c⟩, k⟩ := h
    refine ⟨fun q hq => b _ _ (hT.1 q hq), fun H1 eN T1 => ?_⟩
    have kp1 : Kp H H1 := ⟨fun a xs e => eN _ _ e (fun _ z => nomatch z), fun a ob u e => eN _ _ e (fun _ z => nomatch z)⟩
    have rh1 : RepH X.K H1 L := fun a o e => by
      have ro := b a o e
      cases o with
      | lst ds => obtain ⟨vs, e, r⟩ := ro; exact ⟨vs, eN _ _ e (fun _ z => nomatch z), r.mono kp1⟩
      | ins C fs => obtain ⟨dx, gs, e, r⟩ := ro; exact ⟨dx, gs, eN _ _ e (fun _ z => nomatch z), RelK.mono kp1 r⟩
      | dT kvs => obtain ⟨ws, e, r⟩ := ro; exact ⟨ws, eN _ _ e (fun _ z => nomatch z), RelK.mono kp1 r⟩
      | dK kvs => obtain ⟨ws, e, r⟩ := ro; exact ⟨ws, eN _ _ e (fun _ z => nomatch z), RelK.mono kp1 r⟩
      | xd fs => obtain ⟨ws, e, r⟩ := ro; exact ⟨ws, eN _ _ e (fun _ z => nomatch z), RelK.mono kp1 r⟩
      | tab q => exact T1 _ (hT.2 _ _ e)
    exact tth_of (a.mono kp1) rh1 c fun d L1 v H1 q kp => k d L1 v H1 q (kp1.trans kp)
end
end Z

/-! errors by data: isinstance, defs that make lambdas -/
namespace Z
open PySem PySem.Spec PyProof.Rows L2
theorem hpX {CX : CXT} {P : Program} {w : World} {K : PySem.W.Frag} {mg : Str → Option Value} {base : Heap} {N : List Str} {qual : Str} {scope : Scope} {f : Addr} {cdv : Value} {A : Around} {outer : List Env} {s : Shared} {H : Hp} {E : XK} :
    PassesOwn (model (cxOf CX P w K mg base N qual scope f cdv A outer s H E).prog (cxOf CX P w K mg base N qual scope f cdv A outer s H E).w) (cxOf CX P w K mg base N qual scope f cdv A outer s H E).A (cxOf CX P w K mg base N qual scope f cdv A outer s H E).env (cxOf CX P w K mg base N qual scope f cdv A outer s H E).xe := PassesOwn.leaving
section
variable {X : Cx} {k : Nat} {f : Addr} {fd : FuncData} {ps : List Str} {sp : Sp'} {x : Str} {p pos : Pos} {e : Expr} {es : List Expr} {t : TA'}
/-- a def that may raise, called where it does not -/
theorem q_callX0 (F : FnOk X.prog X.w X.K X.mg X.base (L2.CX X.prog X.w) k f fd ps (lSp X.K sp)) (hr : Room k X.A) (hg : Gl X x) (hm : X.mg x = some (.ref f)) (hk : PySem.W.keepIn X.K (.ref f) = true) (hb : Binds X.K fd ps []) (ha : QA X (e :: es) t)
    (hdb : (x == ("__debug__" : Str)) = false := by decide) (he : starEach (e :: es) X.env = (false, eval e X.env) :: starEach es X.env := by rfl) (hpl : (backTo pos (starEach es X.env)).any (·.1) = false := by rfl) :
    QE X (.Call (.Name x p) (e :: es) [] pos) (wCallX sp t fun _ => X0) := PE.str (px_call F takes0 hr hg hm hk hb ha hdb he hpl) fun σ H Q h => by
  obtain ⟨τ, L, Q', a, b, c, k⟩ := h
  exact ⟨τ, L, Q', fun _ => X0, a, b, c, k, fun _ _ _ _ _ _ _ z => z.elim⟩
/-- isinstance(e, T), e the error that the suite holds -/
def wIsE (K : PySem.W.Frag) (a C : Addr) (od : Option Addr) (cv : Value) (te : TE') : TE' := fun τ L Q => od = none ∧ ExcC K C ∧ te τ L fun d L1 => d = .ref a ∧ ∃ b, PySem.W.kitOne K (.ref C) cv = some b ∧ Q (.bl b) L1
theorem wIsE_e {K : PySem.W.Frag} {a C : Addr} {od : Option Addr} {cv : Value} {te : TE'} {τ : S'} {L : Lp} {Q : VK'} : wIsE K a C od cv te τ L Q = (od = none ∧ ExcC K C ∧ te τ L fun d L1 => d = .ref a ∧ ∃ b, PySem.W.kitOne K (.ref C) cv = some b ∧ Q (.bl b) L1) := rfl
theorem q_isE {a C : Addr} {oe : Obj} {od : Option Addr} {pn : List (Addr × Obj)} {T : Expr} {cv : Value} {v : V} {te : TE'} (hz : Zc (.ref C) od oe) (hf : ∃ vs, oe.data = .fields vs) (hT : PE (X.suite a ((a, oe) :: pn)) T (tC v)) (hv : ∀ u, RelV v u → u = cv)
    (hg : Gl (X.suite a ((a, oe) :: pn)) "isinstance") (hm : X.mg "isinstance" = none) (h1 : QE (X.suite a ((a, oe) :: pn)) e te)
    (he : starEach (e :: [T]) X.env = (false, eval e X.env) :: starEach [T] X.env := by rfl) (he2 : starEach (T :: []) X.env = (false, eval T X.env) :: starEach [] X.env := by rfl) (hpl : (backTo pos (starEach [T] X.env)).any (·.1) = false := by rfl) :
    QE (X.suite a ((a, oe) :: pn)) (.Call (.Name "isinstance" p) [e, T] [] pos) (wIsE X.K a C od cv te) := ⟨fun pins s σ H Q I h => by
  obtain ⟨τ, L, Q', ra, rb, ⟨e0, EC, c⟩, k⟩ := h
  subst e0
  refine (pe_callB (call_isE EC hz hf) hg hm (by decide +kernel) (pa_cons h1 (pa_cons hT pa_nil he2) he) (by decide) (by decide) he hpl).run pins s σ H Q I ?_
  refine ⟨τ, L, _, ra, rb, c, fun d L1 x H1 q kp rh rd => ?_⟩
  obtain ⟨q1, b, q3, q4⟩ := q
  subst q1
  cases rd
  exact ⟨v, cv, b, rfl, hv, q3, k _ L1 _ H1 q4 kp rh (.bl b)⟩⟩
end
section
variable {P : Program} {w : World} {K : PySem.W.Frag} {mg : Str → Option Value} {base : Heap} {x qual : Str} {params : Arguments} {body : List Stmt} {scope : Scope} {dvs : List V} {kws : List (Str × V)} {fd : FuncData} {pt : Str × Option Str}
/-- a def that makes lambdas: its code object is known -/
theorem okDL {N ps : List Str} {k : Nat} {sp : Sp'} {t : TS'} (F : FunD K x qual params body scope dvs kws (He.fAd K pt) fd) (S : FnScope N ps scope) (len : ∀ ds L Q E, sp ds L Q E → ds.length = ps.length)
    (hb : ∀ (A : Around) (outer : List Env) (s : Shared) (H : Hp) (E : XK), Room k (A.deeper (envOfC qual scope s.heap.objs.size (He.fAd K pt) (.ref (He.codeOf K pt)))) → QSs (cxOf CX0 P w K mg base N qual scope (He.fAd K pt) (.ref (He.codeOf K pt)) A outer s H E) body t)
    (hs : ∀ ds L Q E, sp ds L Q E → t { nx := fun _ L1 => Dn (Q .non) L1, rt := fun d L1 => Dn (Q d) L1 } (start' N ds) L) : FnOk P w K mg base CX0 (k + 1) (He.fAd K pt) fd ps (lSp K sp) := by
  obtain ⟨oc, od, dV, kV, doc, pm, an, cdv, ct, osl, rfl, lk, hcd, _, _⟩ := F.ex
  obtain ⟨c, rfl⟩ := He.codeIn_ref hcd
  have ec := He.codeOf_eq lk (c := c) rfl
  subst ec
  refine fn_of lk hcd S (fun vs H Q E h => ?_) fun A outer s H vs Q E hr h => ?_
  · obtain ⟨ds, L, Q', E', r, _, q, _⟩ := h
    rw [← r.length]
    exact len _ _ _ _ q
  · obtain ⟨ds, L, Q', E', r, rh, q, k1, k2⟩ := h
    refine ⟨_, hb A outer s H E hr, start' N ds, L, _, start_rep r N, rh, hs _ _ _ _ q, ?_, ?_, fun _ _ _ _ z => z.elim, fun _ _ _ _ z => z.elim⟩
    · rintro τ1 L1 σ1 H1 ⟨L2, l, q2⟩ kp rh1 _
      exact k1 _ L2 _ H1 q2 kp (rh1.le l) .non
    · rintro d L1 v H1 ⟨L2, l, q2⟩ kp rh1 rd
      exact k1 _ L2 _ H1 q2 kp (rh1.le l) rd
end
section
variable {X : Cx}
theorem q_lamF {T : List (Addr × Str)} {CS : Addr} {ts : TsX} {tr : TS'} {x a : Str} {g c P : Addr} {k : Nat} {pg : Arguments} {bg : List Stmt} {sg : Scope} {fd : FuncData} {Ng : List Str}
    {params : Arguments} {body : Expr} {scope : Scope} {t' : XK' → TE'} {p lpos pos : Pos} (hg : Gl X x) (hm : X.mg x = some (.ref g)) (F : FunD X.K x x pg bg sg [] [] g fd) (hb : L2.Binds X.K fd [a] []) (Sg : FnScope Ng [a] sg) (hNg : Ng[0]? = some a) (hva : Vis sg a)
    (hG : ∀ cdv, LamX.GivesTo X Ng x sg g cdv bg a (X.env.qual ++ "<lambda>") (TTh X.K CS ts tr))
    (TB : LamX.TabB X.base X.mg c P) (hcode : X.env.code = .ref c) (hmT : (P, X.env.qual ++ "<lambda>") ∈ T) (hu : ∀ p ∈ T, p.1 = P → p.2 = X.env.qual ++ "<lambda>") (hr : Room (k + 2) X.A) (L : LamX.LamS X.env.scope scope) (hdef : defaultsOf params X.env = ([], []))
    (hbind : ∀ (q : Str) (cl : List (Str × Addr)) (pm cv ctv : Value), bindArgs (PySem.W.kla_fn "<lambda>" q params body scope cl pm cv ctv) ⟨[], []⟩ = pure [])
    (hbody : ∀ (A : Around) (outer : List Env) (s : Shared) (H : Hp) (E : XK) (f c' : Addr), Room k (A.deeper (LamX.lamEnv X scope s.heap.objs.size f c')) → Takes (LamX.lamCx X A outer s H E scope f c') (fun cls d _ H => E cls d H) → PE (LamX.lamCx X A outer s H E scope f c') body (lXE X.K E t'))
    (hdb : (x == ("__debug__" : Str)) = false := by decide) (hd : (a == ("__debug__" : Str)) = false := by decide) (hcd : (a == ("__classdict__" : Str)) = false := by decide) :
    QE X (.Call (.Name x p) [.Lambda params body scope lpos] [] pos) (wLam T X.K CS ts tr t') := by
  obtain ⟨oc, od, dV, kV, doc, pm, an, cdv, ct, osl, e, lk, hcd2, _, _⟩ := F.ex
  subst e
  exact q_lamcall hg hm F.kp lk hcd2 hb Sg hNg hva (hG cdv) TB hcode hmT hu hr L hdef hbind hbody hdb hd hcd
end
/-- what isinstance asks of the class of an error -/
def excCB (K : PySem.W.Frag) (D : Addr) : Bool := decide (PySem.W.findIn K (.ref D) "__getattribute__" = some (some (.builtin "BaseException.__getattribute__"))) && (decide (PySem.W.findIn K (.ref D) "__getattr__" = some none) && (decide (PySem.W.subIn K (.ref D) (.type "BaseException") = some true) && (PySem.W.hasDictIn K D &&
  (decide (PySem.W.findIn K (.ref D) "__class__" = some (some (.builtin "object.__class__"))) && (decide (PySem.W.specialIn K (.builtin "object.__class__") "__get__" = some (some (.builtin "getset_descriptor.__get__"))) && (decide (PySem.W.takesIn K (.builtin "object.__class__") = some true) && decide (PySem.W.mroIn K D (.type "object") = some true)))))))
theorem excC_ok {K : PySem.W.Frag} {D : Addr} (h : excCB K D = true) : ExcC K D := by
  obtain ⟨h1, h⟩ := He.ba h
  obtain ⟨h2, h⟩ := He.ba h
  obtain ⟨h3, h⟩ := He.ba h
  obtain ⟨h4, h⟩ := He.ba h
  obtain ⟨h5, h⟩ := He.ba h
  obtain ⟨h6, h⟩ := He.ba h
  obtain ⟨h7, h8⟩ := He.ba h
  exact ⟨of_decide_eq_true h1, of_decide_eq_true h2, of_decide_eq_true h3, h4, of_decide_eq_true h5, of_decide_eq_true h6, of_decide_eq_true h7, of_decide_eq_true h8⟩
theorem rg_rev : Rg List.reverse := ⟨fun h => h.reverse, fun h => h.rev⟩
end Z

/-! own errors whose __init__ says super().__init__(text) and stores its arguments: run at the model -/
namespace Z
open PySem PySem.Spec PyProof.Rows L2
section
open PySem.W PySem.Calls
variable {prog : Program} {w : World} {A : Around} {E : Value → Shared → Prop} {h : Heap} {g : Array GenState} {d : Drawn} {t : Nat} {os : OsState}
variable {nm q : Str} {C N : Addr} {bs bm : List Value} {sn : List Str} {sub : List Value} {ab : Bool} {col : Option Bool} {dd : Option Addr} {k0 k1 k2 k3 k5 : Option Value}
/-- the bound ValueError.__init__, called -/
theorem call_mw {u e t0 : Addr} {rest : List Value} {Q : Value → Shared → Prop}
    (hC : h.get? C = some (excClassObj nm q C N bs bm true sn sub ab col dd k0 k1 k2 k3 k5 "ValueError.__new__")) (he : h.get? e = some (HandSPX.excO C t0)) (hu : h.get? u = some (kxs_mw "ValueError.__init__" e)) (hrest : rest.length ≤ sizeLine)
    (hq : ∀ h' t1, (∀ b o, b ≠ e → h.get? b = some o → h'.get? b = some o) → h'.get? e = some (HandSPX.excO C t1) → Q .none ⟨h', g, d, t, os⟩) :
    wpAny (model prog w) A (call (.ref u) rest) Q E ⟨h, g, d, t, os⟩ := by
  refine wpAny_call (codeAny_of_tree ?_)
  show wpAny _ A.in1 (callAny (.ref u) ⟨rest, []⟩) _ _ _
  simp only [callAny]
  refine wpAny_bind (wpAny_load hu ?_)
  simp only [kxs_mw, show (Value.type "method-wrapper" == Value.type "method" || Value.type "method-wrapper" == Value.type "builtin_function_or_method" || Value.type "method-wrapper" == Value.type "method-wrapper") = true by decide, if_true]
  refine KFB.if_so (by decide) ?_
  refine wpAny_bind (check_bound_init F.excBase_ValueError.toExcCallFacts hC he rfl ?_)
  refine wpAny_bind (wpAny_pure (wpAny_pure ?_))
  refine ⟨plainId_quiet F.excBase_ValueError.init.plain _, codeAny_builtin F.excBase_ValueError.initEntry ?_⟩
  exact exc_init_tree (cls := .ref C) (t0 := t0) (dv := none) (c2 := .none) (c3 := .none) (b4 := .bool false) he hrest fun h' k e' _ => hq h' _ k e'
/-- what is known of the heap while an own __init__ runs -/
structure SupK (prog : Program) (K : Frag) (C f cda cc : Addr) (fd : FuncData) (vs : Array Value) (mg mb : Str → Option Value) : Prop where
  lkC : ∃ nm q N bs bm sn sub ab col dd k0 k1 k2 k3 k5, K.lookup C = some (excClassObj nm q C N bs bm true sn sub ab col dd k0 k1 k2 k3 k5 "ValueError.__new__") ∧ HandSPX.refsVE bm = true ∧ alongIn K "__init__" bm = some (some (.builtin "ValueError.__init__"))
  sub : subIn K (.ref C) (.type "ValueError") = some true
  own : mroIn K C (.ref C) = some true
  opq : nsIn K cStatics "thirdparty.any" = some none
  lkF : ∃ oc od osl, K.lookup f = some ⟨oc, od, .func fd, osl⟩
  lkD : ∃ a b c, K.lookup cda = some ⟨a, b, .fields vs, c⟩
  fil : ∃ file tf, vs[2]? = some (.str file tf) ∧ ((prog.main.file : Str) == file) = true
  lkK : ∃ a b c, K.lookup cc = some ⟨a, b, .cell (some (.ref C)), c⟩
  mgS : mg "super" = none
  mbS : mb "super" = some (.type "super")
  top : (prog.main.scope.names.lookup ("super" : Str)).isSome = false
theorem at_super {K : Frag} {f cda cc e L t0 : Addr} {fd : FuncData} {vs : Array Value} {mg mb m : Str → Option Value} {body : List Stmt} {qq x : Str} {scope : Scope} {ar : Arg} {j : Nat} {p0 p1 p2 p3 p4 p5 : Pos} {Q : Flow → Shared → Prop}
    (S : SupK prog K C f cda cc fd vs mg mb) (X : K.In h) (hG : h.Ns mainGlobals mg) (hB : h.Ns builtinsNs mb) (hp : (fd.params.posonlyargs ++ fd.params.args).head? = some ar) (hns : h.Ns L m) (hv : m ar.arg = some (.ref e)) (he : h.get? e = some (HandSPX.excO C t0))
    (hks : scope.names.lookup ("super" : Str) = some .globalImplicit) (hkc : scope.names.lookup ("__class__" : Str) = some .free) (hka : scope.names.lookup ar.arg = some .local) (hk : scope.kind = .function)
    (hq : ∀ h' t' t1, (∀ b o, b ≠ e → h.get? b = some o → h'.get? b = some o) → h'.get? e = some (HandSPX.excO C t1) → Q .next ⟨h', g, d, t', os⟩)
    (hi : interactive (ksEnv qq scope L f (.ref cda) cc) = false := by rfl) (hs : swapsWith (.Call (.Attribute (.Call (.Name "super" p0) [] [] p1) "__init__" p2) [.Constant (.str x) j p3] [] p4) none p5.line (ksEnv qq scope L f (.ref cda) cc) = pure false := by rfl)
    (hme : ∃ pl, eval (.Call (.Attribute (.Call (.Name "super" p0) [] [] p1) "__init__" p2) [.Constant (.str x) j p3] [] p4) (ksEnv qq scope L f (.ref cda) cc) = (do
      let ov ← attributeBase (.Call (.Name "super" p0) [] [] p1) "__init__" (ksEnv qq scope L f (.ref cda) cc) (eval (.Call (.Name "super" p0) [] [] p1) (ksEnv qq scope L f (.ref cda) cc))
      standAt p2.atName
      let (fx, first) ← holding [ov] (getMethod ov "__init__" pl)
      callWith p4 fx first (backTo p4 (starEach [.Constant (.str x) j p3] (ksEnv qq scope L f (.ref cda) cc))) []) := by exact ⟨_, rfl⟩) :
    _root_.PySem.wpAt (model prog w) A (.func body (ksEnv qq scope L f (.ref cda) cc)) (exec (.Expr (.Call (.Attribute (.Call (.Name "super" p0) [] [] p1) "__init__" p2) [.Constant (.str x) j p3] [] p4) p5) (ksEnv qq scope L f (.ref cda) cc)) Q E ⟨h, g, d, t, os⟩ := by
  obtain ⟨nm, q, N, bs, bm, sn, sub, ab, col, dd, k0, k1, k2, k3, k5, lkC, hbm, hal⟩ := S.lkC
  obtain ⟨_, _, _, lkF⟩ := S.lkF
  obtain ⟨_, _, _, lkD⟩ := S.lkD
  obtain ⟨_, _, hvs, hfile⟩ := S.fil
  obtain ⟨_, _, _, lkK⟩ := S.lkK
  obtain ⟨pl, hme⟩ := hme
  have hC := X _ _ lkC
  have hxC : e ≠ C := fun z => by rw [z, hC] at he; cases he
  have hcl : clsIn K C = some { name := nm, bases := bs, mro := .ref C :: bm, ns := N, qualname := q, hasDict := true, slotNames := sn, subclasses := sub, abstract := ab, collection := col, hasDel := false } := by unfold clsIn; rw [lkC] <;> rfl
  refine ks_wpAt_Expr_any (ks_wpAt_MethodCall (pl := pl) ?_ hme) hi hs
  refine ks_wpAt_super_base (env := ksEnv qq scope L f (.ref cda) cc) hks hkc (by decide) rfl (X _ _ lkF) rfl hp rfl (X _ _ lkD) rfl hvs hfile S.top ?_
  refine ks_loadName_global hk hks (loadGlobal_builtin (env := ksEnv qq scope L f (.ref cda) cc) hG S.mgS hB S.mbS ⟨rfl, ?_⟩)
  refine wpAny_loadName_free hk hkc rfl ⟨_, X _ _ lkK, rfl⟩ ?_
  refine wpAny_loadName_local hk hka hns hv ?_
  refine ks_wpAny_isType_cls hC rfl ⟨rfl, ?_⟩
  refine ks_wpAny_call_super hC rfl he rfl (fun c z => by cases z) (looks_mroIn X S.own) fun h2 e2 k2 => ?_
  have X2 : K.In h2 := fun a o e => k2 _ _ (X a o e)
  have he2 := k2 _ _ he
  have I2 : InstAt h2 e (HandSPX.excO C t0) C none := ⟨he2, rfl, rfl, trivial⟩
  have hI : Looks (model prog w) h2 (isInstance (.ref e) (.type "ValueError")) true := I2.type.andThen (looks_subIn X2 S.sub)
  refine kxs_getMethod kxs_ValueError e2 (looks_opaque X2 S.opq) (l₀ := .ref C :: bm) (l := bm) (fun A Q E s k q => wpAny_bind ((looks_clsIn X2 hcl) A _ E s k (wpAny_pure q))) (ESX.drop_own C bm) X2 hal hI hxC (by decide) ?_
  have hu : (h2.push (kxs_mw "ValueError.__init__" e)).get? h2.objs.size = some (kxs_mw "ValueError.__init__" e) := Heap.get?_push_at rfl rfl
  have k3' : ∀ b o, h2.get? b = some o → (h2.push (kxs_mw "ValueError.__init__" e)).get? b = some o := fun b o z => Heap.get?_push_of_some _ z
  generalize h2.push (kxs_mw "ValueError.__init__" e) = h3 at hu k3' ⊢
  refine kxs_callWith (i := "ValueError.__init__") (x := e) (by rfl) (evalArgs_plain ?_)
  have hC3 := k3' _ _ (k2 _ _ hC)
  have he3 := k3' _ _ he2
  repeat wp_step
  exact ⟨hu, call_mw hC3 he3 hu (by show 1 ≤ sizeLine; rw [sizeLine_eq]; omega) fun h' t1 k e' => hq h' _ t1 (fun b o nb z => k b o nb (k3' _ _ (k2 _ _ z))) e'⟩
/-- self.f = x, the first one -/
theorem at_store1 {K : Frag} {fA e L t0 C : Addr} {cd : Value} {ccl : List (Str × Addr)} {m : Str → Option Value} {body : List Stmt} {qq self x f : Str} {scope : Scope} {u : Value} {p1 p2 p3 p4 : Pos} {Q : Flow → Shared → Prop} {cdt : ClassData}
    (X : K.In h) (hcl : clsIn K C = some cdt) (hm : HandSPX.refsVE cdt.mro = true) (hdd : cdt.hasDict = true) (sa : findIn K (.ref C) "__setattr__" = some (some (.builtin "object.__setattr__"))) (hno : findIn K (.ref C) f = some none)
    (hns : h.Ns L m) (hv : m self = some (.ref e)) (hu : m x = some u) (he : h.get? e = some (HandSPX.excO C t0))
    (hka : scope.names.lookup self = some .local) (hkx : scope.names.lookup x = some .local) (hk : scope.kind = .function)
    (hq : ∀ h' t' dx, (∀ b o, b ≠ e → h.get? b = some o → h'.get? b = some o) → h.objs.size ≤ dx → dx ≠ e → h'.get? e = some { cls := .ref C, dict := some dx, data := .fields #[.ref t0, .none, .none, .none, .bool false, .none] } →
      h'.Ns1 dx (fun y => if y = f then some u else none) → Q .next ⟨h', g, d, t', os⟩)
    (hd1 : (self == ("__debug__" : Str)) = false := by decide) (hd2 : (x == ("__debug__" : Str)) = false := by decide)
    (hs : swapsWith (.Name x p3) (some (.Attribute (.Name self p1) f p2)) p4.line (envX qq scope L fA cd ccl) = pure false := by rfl) :
    _root_.PySem.wpAt (model prog w) A (.func body (envX qq scope L fA cd ccl)) (exec (.Assign [.Attribute (.Name self p1) f p2] (.Name x p3) p4) (envX qq scope L fA cd ccl)) Q E ⟨h, g, d, t, os⟩ := by
  refine ks_wpAt_Assign_Attr (wpAt_of_wpAny (wpAny_Name (wpAny_loadName_local hk hkx hns hu ?_) hd2)) hs
  refine wpAny_Name (wpAny_loadName_local hk hka hns hv ?_) hd1
  refine set_plain X (ox := HandSPX.excO C t0) (od := none) ⟨he, rfl, rfl, trivial⟩ sa ?_
  exact HandSPX.exc_osa X he hcl hm hdd hno fun h' tk' dx k dn dne hx hn => hq h' tk' dx k dn dne hx hn
/-- self.f = x, a further one -/
theorem at_store2 {K : Frag} {fA e L t0 C dx : Addr} {cd : Value} {ccl : List (Str × Addr)} {m m0 : Str → Option Value} {nl : List Str} {body : List Stmt} {qq self x f : Str} {scope : Scope} {u : Value} {p1 p2 p3 p4 : Pos} {Q : Flow → Shared → Prop} {cdt : ClassData}
    (X : K.In h) (hcl : clsIn K C = some cdt) (hm : HandSPX.refsVE cdt.mro = true) (hdd : cdt.hasDict = true) (sa : findIn K (.ref C) "__setattr__" = some (some (.builtin "object.__setattr__"))) (hno : findIn K (.ref C) f = some none)
    (hns : h.Ns L m) (hv : m self = some (.ref e)) (hu : m x = some u) (he : h.get? e = some { cls := .ref C, dict := some dx, data := .fields #[.ref t0, .none, .none, .none, .bool false, .none] }) (hn1 : h.Ns1 dx m0) (hw : Within m0 nl) (hz : nl.length ≤ 1000)
    (hka : scope.names.lookup self = some .local) (hkx : scope.names.lookup x = some .local) (hk : scope.kind = .function)
    (hq : ∀ h' t', (∀ b o, b ≠ dx → h.get? b = some o → h'.get? b = some o) → h'.Ns1 dx (fun y => if y = f then some u else m0 y) → Q .next ⟨h', g, d, t', os⟩)
    (hd1 : (self == ("__debug__" : Str)) = false := by decide) (hd2 : (x == ("__debug__" : Str)) = false := by decide)
    (hs : swapsWith (.Name x p3) (some (.Attribute (.Name self p1) f p2)) p4.line (envX qq scope L fA cd ccl) = pure false := by rfl) :
    _root_.PySem.wpAt (model prog w) A (.func body (envX qq scope L fA cd ccl)) (exec (.Assign [.Attribute (.Name self p1) f p2] (.Name x p3) p4) (envX qq scope L fA cd ccl)) Q E ⟨h, g, d, t, os⟩ := by
  refine ks_wpAt_Assign_Attr (wpAt_of_wpAny (wpAny_Name (wpAny_loadName_local hk hkx hns hu ?_) hd2)) hs
  refine wpAny_Name (wpAny_loadName_local hk hka hns hv ?_) hd1
  obtain ⟨oD, _, _, hoD, _, _⟩ := hn1.count hw
  refine set_plain X (ox := { cls := .ref C, dict := some dx, data := .fields #[.ref t0, .none, .none, .none, .bool false, .none] }) (od := some oD) ⟨he, rfl, rfl, hoD⟩ sa ?_
  exact OEX.osa_old X he hn1 hw hz hcl hm hdd hno fun h' tk' k hn => hq h' tk' k hn
end
end Z

/-! own errors whose __init__ says super().__init__(text): made in a raise -/
namespace Z
open PySem PySem.Spec PyProof.Rows L2
section
open PySem.W PySem.Calls
variable {prog : Program} {w : World} {A : Around} {R : Result → Shared → Prop} {h : Heap} {g : Array GenState} {d : Drawn} {t : Nat} {os : OsState}
theorem ns_keep {h h' : Heap} {L e : Addr} {m : Str → Option Value} (n : h.Ns L m) (ne : L ≠ e) (k : ∀ b o, b ≠ e → h.get? b = some o → h'.get? b = some o) : h'.Ns L m := by
  obtain ⟨o, es, ep, hL, r⟩ := n
  exact ⟨o, es, ep, k _ _ ne hL, r⟩
theorem in_keep {K : Frag} {h h' : Heap} {e : Addr} (X : K.In h) (ne : K.lookup e = none) (k : ∀ b o, b ≠ e → h.get? b = some o → h'.get? b = some o) : K.In h' := fun a o q => k a o (fun z => by rw [z, ne] at q; cases q) (X a o q)
/-- how the class stands for stores -/
structure SupC (K : Frag) (C : Addr) : Prop where
  cl : ∃ cdt, clsIn K C = some cdt ∧ HandSPX.refsVE cdt.mro = true ∧ cdt.hasDict = true
  sa : findIn K (.ref C) "__setattr__" = some (some (.builtin "object.__setattr__"))
/-- how the first statement is read -/
structure SupR (qual : Str) (scope : Scope) (fI cda cc : Addr) (tx : Str) (j : Nat) (p0 p1 p2 p3 p4 p5 : Pos) : Prop where
  hi : ∀ L, interactive (ksEnv qual scope L fI (.ref cda) cc) = false
  hs : ∀ L, swapsWith (.Call (.Attribute (.Call (.Name "super" p0) [] [] p1) "__init__" p2) [.Constant (.str tx) j p3] [] p4) none p5.line (ksEnv qual scope L fI (.ref cda) cc) = pure false
  hme : ∀ L, ∃ pl, eval (.Call (.Attribute (.Call (.Name "super" p0) [] [] p1) "__init__" p2) [.Constant (.str tx) j p3] [] p4) (ksEnv qual scope L fI (.ref cda) cc) = (do
      let ov ← attributeBase (.Call (.Name "super" p0) [] [] p1) "__init__" (ksEnv qual scope L fI (.ref cda) cc) (eval (.Call (.Name "super" p0) [] [] p1) (ksEnv qual scope L fI (.ref cda) cc))
      standAt p2.atName
      let (fx, first) ← holding [ov] (getMethod ov "__init__" pl)
      callWith p4 fx first (backTo p4 (starEach [.Constant (.str tx) j p3] (ksEnv qual scope L fI (.ref cda) cc))) [])
theorem sup_run1 {K : Frag} {C fI cda cc e t0 : Addr} {name qual self x1 f1 tx : Str} {params : Arguments} {body : List Stmt} {scope : Scope} {dV kV doc pm ct : Value} {an : Option Addr} {vs : Array Value} {mg mb : Str → Option Value} {ar : Arg} {j : Nat} {u1 : Value} {p0 p1 p2 p3 p4 p5 q1 q2 q3 q4 : Pos}
    (S : SupK prog K C fI cda cc (ksFn name qual params body scope dV kV doc pm an (.ref cda) ct cc) vs mg mb) (SC : SupC K C) (X : K.In h) (hG : h.Ns mainGlobals mg) (hB : h.Ns builtinsNs mb) (hlim : h.NoLimit) (hroom : A.depth < recursionLimit) (hcd : codeIn K (.ref cda) qual = true)
    (SR : SupR qual scope fI cda cc tx j p0 p1 p2 p3 p4 p5) (hbody : body = [.Expr (.Call (.Attribute (.Call (.Name "super" p0) [] [] p1) "__init__" p2) [.Constant (.str tx) j p3] [] p4) p5, .Assign [.Attribute (.Name self q1) f1 q2] (.Name x1 q3) q4])
    (hp : (params.posonlyargs ++ params.args).head? = some ar) (har : ar.arg = self) (hbind : ∀ a b, bindArgs (ksFn name qual params body scope dV kV doc pm an (.ref cda) ct cc) ⟨[a, b], []⟩ = pure [(self, a), (x1, b)]) (hne : x1 ≠ self)
    (hks : scope.names.lookup ("super" : Str) = some .globalImplicit) (hkc : scope.names.lookup ("__class__" : Str) = some .free) (hka : scope.names.lookup self = some .local) (hk1 : scope.names.lookup x1 = some .local) (hk : scope.kind = .function) (hco : scope.isCoroutine = false) (hgen : scope.isGenerator = false) (hcell : ∀ y ∈ scope.names, y.2 ≠ .cell)
    (hd1 : (self == ("__debug__" : Str)) = false) (hd2 : (x1 == ("__debug__" : Str)) = false)
    (sw1 : ∀ L, swapsWith (.Name x1 q3) (some (.Attribute (.Name self q1) f1 q2)) q4.line (ksEnv qual scope L fI (.ref cda) cc) = pure false)
    (no1 : findIn K (.ref C) f1 = some none) (he : h.get? e = some (HandSPX.excO C t0)) (hKe : K.lookup e = none) (gG : mainGlobals ≠ e) (gB : builtinsNs ≠ e)
    (hq : ∀ h' t' dx t1, (∀ b o, b ≠ e → h.get? b = some o → h'.get? b = some o) → h.get? dx = none → dx ≠ e → h'.get? e = some { cls := .ref C, dict := some dx, data := .fields #[.ref t1, .none, .none, .none, .bool false, .none] } →
      h'.Ns1 dx (fun y => if y = f1 then some u1 else none) → R (.ok (.ret .none)) ⟨h', g, d, t', os⟩) :
    codeAny (model prog w) A (.call (.ref fI) ⟨[.ref e, u1], []⟩) R ⟨h, g, d, t, os⟩ := by
  obtain ⟨_, _, _, lkF⟩ := S.lkF
  obtain ⟨cdt, hcl, hm, hdd⟩ := SC.cl
  subst hbody har
  refine ks_codeAny_call_defAt (fd := ksFn name qual params _ scope dV kV doc pm an (.ref cda) ct cc) (binds := [(ar.arg, .ref e), (x1, u1)]) hroom (X _ _ lkF) rfl hlim (codeRec_of X hcd) rfl (BindsTo.of_eq (hbind _ _)) hcell (fun y hy => ?_) (fun h0 hns0 k0 => ?_) hco hgen hk
  · simp only [List.mem_cons, List.not_mem_nil, or_false] at hy
    rcases hy with rfl | rfl
    · exact hka
    · exact hk1
  have hLe : h.objs.size ≠ e := Nat.ne_of_gt (Heap.lt_size he)
  have hv : ([(ar.arg, Value.ref e), (x1, u1)] : List (Str × Value)).reverse.lookup ar.arg = some (.ref e) := by
    have z : (ar.arg == x1) = false := by simpa using Ne.symm hne
    simp [List.lookup, z]
  have hu1 : ([(ar.arg, Value.ref e), (x1, u1)] : List (Str × Value)).reverse.lookup x1 = some u1 := by simp [List.lookup]
  have X0 : K.In h0 := fun a o q => k0 _ _ (X a o q)
  refine ks_wpAt_execs_cons ?_
  refine at_super (prog := prog) (K := K) (C := C) (e := e) (t0 := t0) S X0 (by obtain ⟨o, es, ep, hL, r⟩ := hG; exact ⟨o, es, ep, k0 _ _ hL, r⟩) (by obtain ⟨o, es, ep, hL, r⟩ := hB; exact ⟨o, es, ep, k0 _ _ hL, r⟩) hp hns0 hv (k0 _ _ he) hks hkc hka hk (fun h1 t1 a1 k1 e1 => ?_) (SR.hi _) (SR.hs _) (SR.hme _)
  have X1 := in_keep X0 hKe k1
  have hns1 := ns_keep hns0 hLe k1
  refine ks_wpAt_execs_cons ?_
  refine at_store1 X1 hcl hm hdd SC.sa no1 hns1 hv hu1 e1 hka hk1 hk (fun h2 t2 dx k2 dn dne e2 n2 => ?_) hd1 hd2 (sw1 _)
  refine wpAt_of_wpAny (wpAny_pure ?_)
  exact hq h2 t2 dx a1 (fun b o nb z => k2 b o nb (k1 b o nb (k0 b o z))) (by
    cases z : h.get? dx with
    | none => rfl
    | some o =>
      have z2 := Heap.lt_size (k1 _ _ dne (k0 _ _ z))
      exact absurd (Nat.lt_of_lt_of_le z2 dn) (Nat.lt_irrefl _)) dne e2 n2
theorem sup_run2 {K : Frag} {C fI cda cc e t0 : Addr} {name qual self x1 f1 x2 f2 tx : Str} {params : Arguments} {body : List Stmt} {scope : Scope} {dV kV doc pm ct : Value} {an : Option Addr} {vs : Array Value} {mg mb : Str → Option Value} {ar : Arg} {j : Nat} {u1 u2 : Value} {p0 p1 p2 p3 p4 p5 q1 q2 q3 q4 r1 r2 r3 r4 : Pos}
    (S : SupK prog K C fI cda cc (ksFn name qual params body scope dV kV doc pm an (.ref cda) ct cc) vs mg mb) (SC : SupC K C) (X : K.In h) (hG : h.Ns mainGlobals mg) (hB : h.Ns builtinsNs mb) (hlim : h.NoLimit) (hroom : A.depth < recursionLimit) (hcd : codeIn K (.ref cda) qual = true)
    (SR : SupR qual scope fI cda cc tx j p0 p1 p2 p3 p4 p5) (hbody : body = [.Expr (.Call (.Attribute (.Call (.Name "super" p0) [] [] p1) "__init__" p2) [.Constant (.str tx) j p3] [] p4) p5, .Assign [.Attribute (.Name self q1) f1 q2] (.Name x1 q3) q4, .Assign [.Attribute (.Name self r1) f2 r2] (.Name x2 r3) r4])
    (hp : (params.posonlyargs ++ params.args).head? = some ar) (har : ar.arg = self) (hbind : ∀ a b c, bindArgs (ksFn name qual params body scope dV kV doc pm an (.ref cda) ct cc) ⟨[a, b, c], []⟩ = pure [(self, a), (x1, b), (x2, c)]) (hne : x1 ≠ self) (hne2 : x2 ≠ self) (hne3 : x1 ≠ x2)
    (hks : scope.names.lookup ("super" : Str) = some .globalImplicit) (hkc : scope.names.lookup ("__class__" : Str) = some .free) (hka : scope.names.lookup self = some .local) (hk1 : scope.names.lookup x1 = some .local) (hk2 : scope.names.lookup x2 = some .local) (hk : scope.kind = .function) (hco : scope.isCoroutine = false) (hgen : scope.isGenerator = false) (hcell : ∀ y ∈ scope.names, y.2 ≠ .cell)
    (hd1 : (self == ("__debug__" : Str)) = false) (hd2 : (x1 == ("__debug__" : Str)) = false) (hd3 : (x2 == ("__debug__" : Str)) = false)
    (sw1 : ∀ L, swapsWith (.Name x1 q3) (some (.Attribute (.Name self q1) f1 q2)) q4.line (ksEnv qual scope L fI (.ref cda) cc) = pure false)
    (sw2 : ∀ L, swapsWith (.Name x2 r3) (some (.Attribute (.Name self r1) f2 r2)) r4.line (ksEnv qual scope L fI (.ref cda) cc) = pure false)
    (no2 : findIn K (.ref C) f2 = some none) (no1 : findIn K (.ref C) f1 = some none) (he : h.get? e = some (HandSPX.excO C t0)) (hKe : K.lookup e = none) (gG : mainGlobals ≠ e) (gB : builtinsNs ≠ e)
    (hq : ∀ h' t' dx t1, (∀ b o, b ≠ e → h.get? b = some o → h'.get? b = some o) → h.get? dx = none → dx ≠ e → h'.get? e = some { cls := .ref C, dict := some dx, data := .fields #[.ref t1, .none, .none, .none, .bool false, .none] } →
      h'.Ns1 dx (fun y => if y = f2 then some u2 else if y = f1 then some u1 else none) → R (.ok (.ret .none)) ⟨h', g, d, t', os⟩) :
    codeAny (model prog w) A (.call (.ref fI) ⟨[.ref e, u1, u2], []⟩) R ⟨h, g, d, t, os⟩ := by
  obtain ⟨_, _, _, lkF⟩ := S.lkF
  obtain ⟨cdt, hcl, hm, hdd⟩ := SC.cl
  subst hbody har
  refine ks_codeAny_call_defAt (fd := ksFn name qual params _ scope dV kV doc pm an (.ref cda) ct cc) (binds := [(ar.arg, .ref e), (x1, u1), (x2, u2)]) hroom (X _ _ lkF) rfl hlim (codeRec_of X hcd) rfl (BindsTo.of_eq (hbind _ _ _)) hcell (fun y hy => ?_) (fun h0 hns0 k0 => ?_) hco hgen hk
  · simp only [List.mem_cons, List.not_mem_nil, or_false] at hy
    rcases hy with rfl | rfl | rfl
    · exact hka
    · exact hk1
    · exact hk2
  have hLe : h.objs.size ≠ e := Nat.ne_of_gt (Heap.lt_size he)
  have hv : ([(ar.arg, Value.ref e), (x1, u1), (x2, u2)] : List (Str × Value)).reverse.lookup ar.arg = some (.ref e) := by
    have z : (ar.arg == x1) = false := by simpa using Ne.symm hne
    have z2 : (ar.arg == x2) = false := by simpa using Ne.symm hne2
    simp [List.lookup, z, z2]
  have hu1 : ([(ar.arg, Value.ref e), (x1, u1), (x2, u2)] : List (Str × Value)).reverse.lookup x1 = some u1 := by
    have z3 : (x1 == x2) = false := by simpa using hne3
    simp [List.lookup, z3]
  have hu2 : ([(ar.arg, Value.ref e), (x1, u1), (x2, u2)] : List (Str × Value)).reverse.lookup x2 = some u2 := by simp [List.lookup]
  have X0 : K.In h0 := fun a o q => k0 _ _ (X a o q)
  refine ks_wpAt_execs_cons ?_
  refine at_super (prog := prog) (K := K) (C := C) (e := e) (t0 := t0) S X0 (by obtain ⟨o, es, ep, hL, r⟩ := hG; exact ⟨o, es, ep, k0 _ _ hL, r⟩) (by obtain ⟨o, es, ep, hL, r⟩ := hB; exact ⟨o, es, ep, k0 _ _ hL, r⟩) hp hns0 hv (k0 _ _ he) hks hkc hka hk (fun h1 t1 a1 k1 e1 => ?_) (SR.hi _) (SR.hs _) (SR.hme _)
  have X1 := in_keep X0 hKe k1
  have hns1 := ns_keep hns0 hLe k1
  refine ks_wpAt_execs_cons ?_
  refine at_store1 X1 hcl hm hdd SC.sa no1 hns1 hv hu1 e1 hka hk1 hk (fun h2 t2 dx k2 dn dne e2 n2 => ?_) hd1 hd2 (sw1 _)
  refine ks_wpAt_execs_cons ?_
  have new : h.get? dx = none := by
    cases z : h.get? dx with
    | none => rfl
    | some o =>
      have z2 := Heap.lt_size (k1 _ _ dne (k0 _ _ z))
      exact absurd (Nat.lt_of_lt_of_le z2 dn) (Nat.lt_irrefl _)
  refine at_store2 (nl := [f1]) (in_keep X1 hKe k2) hcl hm hdd SC.sa no2 (ns_keep hns1 hLe k2) hv hu2 e2 n2 (Within.cons f1 u1 Within.nil) (by simp) hka hk2 hk (fun h3 t3 k3 n3 => ?_) hd1 hd3 (sw2 _)
  refine wpAt_of_wpAny (wpAny_pure ?_)
  exact hq h3 t3 dx a1 (fun b o nb z => k3 b o (fun y => by rw [y, new] at z; cases z) (k2 b o nb (k1 b o nb (k0 b o z)))) new dne (k3 _ _ (Ne.symm dne) e2) n3
end
section
open PySem.W (kdv_tup)
variable {X : Cx} {pins : List (Addr × Obj)} {σ : L2.St} {H1 : Hp} {Q : XK} {hp h2 : Heap} {g : Array GenState} {dr : Drawn} {tk t2 : Nat} {os : OsState} {C d t1 : Addr} {us : List Value} {fs : List (Str × V)} {mA : Str → Option Value}
theorem sup_mk (T : Raises X (.ref C)) (I1 : L2.Inv X pins σ H1 ⟨hp, g, dr, tk, os⟩) (k : ∀ b o, b ≠ hp.objs.size + 1 → ((hp.push (kdv_tup us)).push (HandSPX.excO C hp.objs.size)).get? b = some o → h2.get? b = some o)
    (new : ((hp.push (kdv_tup us)).push (HandSPX.excO C hp.objs.size)).get? d = none) (dne : d ≠ hp.objs.size + 1) (hx : h2.get? (hp.objs.size + 1) = some ({ cls := .ref C, dict := some d, data := .fields #[.ref t1, .none, .none, .none, .bool false, .none] } : Obj))
    (hn : h2.Ns1 d mA) (rel : ∀ f, RelO (fs.lookup f) (mA f)) (q : ∀ d, H1 d = none → Q (.ref C) (some d) (upd H1 d (.xd fs))) : MkP X pins σ Q (.ref (hp.objs.size + 1)) ⟨h2, g, dr, t2, os⟩ := by
  have hsz : hp.objs.size ≤ hp.objs.size + 1 := Nat.le_succ _
  have hnn : H1 (hp.objs.size + 1) = none := I1.hok.fresh hsz
  have kk : ∀ b o, hp.get? b = some o → ((hp.push (kdv_tup us)).push (HandSPX.excO C hp.objs.size)).get? b = some o := fun b o e => Heap.get?_push_of_some _ (Heap.get?_push_of_some _ e)
  have hget : ((hp.push (kdv_tup us)).push (HandSPX.excO C hp.objs.size)).get? (hp.objs.size + 1) = some (HandSPX.excO C hp.objs.size) := by heap_get
  have I2 : L2.Inv X pins σ (upd H1 (hp.objs.size + 1) (exo (hp.objs.size + 1) C none)) ⟨(hp.push (kdv_tup us)).push (HandSPX.excO C hp.objs.size), g, dr, tk, os⟩ :=
    I1.laid (t' := tk) (a := hp.objs.size + 1) (o := exo (hp.objs.size + 1) C none) (h' := (hp.push (kdv_tup us)).push (HandSPX.excO C hp.objs.size)) kk hsz (exo_ok hget)
  generalize (hp.push (kdv_tup us)).push (HandSPX.excO C hp.objs.size) = hp2 at *
  generalize ea : hp.objs.size + 1 = a at *
  have hok := I2.hok
  generalize eH : upd H1 a (exo a C none) = H at *
  have e : H a = some (exo a C none) := by rw [← eH, upd_same]
  have hnd : H d = none := HOk.gone hok new
  have hd1 : H1 d = none := by rw [← eH, upd_ne dne] at hnd; exact hnd
  have nd : ∀ {b : Addr} {o : Obj}, hp2.get? b = some o → b ≠ d := fun {b o} q z => by rw [z, new] at q; cases q
  have na : ∀ {b : Addr}, H b = none → b ≠ a := fun {b} n z => by
    rw [z, e] at n
    cases n
  have Un1 : L2.Un (frs X.stack) [] H (upd (upd H d (exd d fs)) a (exo a C (some d))) hp2 h2 := {
    keep := fun b o q n _ _ => k b o (na n) q
    slot := fun b o q n _ _ => ⟨o.slots, k b o (na n) q⟩
    free := fun b o q n _ => by rw [upd_ne (na n), upd_ne (nd q)]; exact n
    there := fun b o q _ => by
      by_cases hb : b = a
      · exact ⟨_, by rw [hb]; exact hx⟩
      · exact ⟨o, k b o hb q⟩
    tups := fun b xs q => by rw [upd_ne (at_ne e q exo_tup), upd_ne (ne_of_none q hnd)]; exact q
    frzs := fun b o v q => by rw [upd_ne (at_ne e q exo_frz), upd_ne (ne_of_none q hnd)]; exact q
    tbls := fun b ps q => ⟨#[], by rw [upd_ne (at_ne e q exo_tbl), upd_ne (ne_of_none q hnd), q]; simp⟩ }
  have hok2 : HOk X.prog X.w (upd (upd H d (exd d fs)) a (exo a C (some d))) h2 := fun b o q => by
    by_cases hb : b = a
    · subst hb
      rw [upd_same] at q
      cases q
      exact exo_ok hx
    · rw [upd_ne hb] at q
      by_cases hd : b = d
      · subst hd
        rw [upd_same] at q
        cases q
        exact exd_ok hn rel
      · rw [upd_ne hd] at q
        exact (hok b o q).stay (fun c v hc z => k c v (by
            rcases hc with hc | hc
            · rw [hc]
              exact hb
            · exact at_ne e hc exo_own) z)
          (fun c hc => by rw [upd_ne (at_ne e hc exo_own), upd_ne (ne_of_none hc hnd)]; exact hc) (fun c xs hc => by rw [upd_ne (at_ne e hc exo_tup), upd_ne (ne_of_none hc hnd)]; exact hc)
  have q2 : Q (.ref C) (some d) (upd (L2.del (upd (upd H d (exd d fs)) a (exo a C (some d))) a) d (.xd fs)) := by
    have ee : upd (L2.del (upd (upd H d (exd d fs)) a (exo a C (some d))) a) d (.xd fs) = upd H1 d (.xd fs) := by
      funext b
      by_cases hbd : b = d
      · subst hbd; rw [upd_same, upd_same]
      · rw [upd_ne hbd, upd_ne hbd]
        by_cases hba : b = a
        · subst hba; rw [L2.del_same, hnn]
        · rw [L2.del_ne hba, upd_ne hba, upd_ne hbd, ← eH, upd_ne hba]
    rw [ee]
    exact q d hd1
  refine mk_end (H2 := upd (upd H d (exd d fs)) a (exo a C (some d))) T I1 (by omega) kk ?_ hok2 rfl I1.bare (by rw [upd_same]) (by rw [upd_ne dne, upd_same]) hd1 q2
  rw [eH]
  exact Un1
end
end Z

/-! own errors with fields: raised, by data -/
namespace Z
open PySem PySem.Spec PyProof.Rows L2
/-- what the head says of an own error with an own __init__ -/
structure SupF (P : Program) (K : PySem.W.Frag) (C fI : Addr) (name qual : Str) (params : Arguments) (body : List Stmt) (scope : Scope) : Prop where
  ex : ∃ (oc : Value) (od : Option Addr) (osl : Array (Option Value)) (kV doc pm : Value) (an : Option Addr) (ct : Value) (cda cc : Addr) (vs : Array Value), K.lookup fI = some ⟨oc, od, .func (PySem.W.ksFn name qual params body scope .none kV doc pm an (.ref cda) ct cc), osl⟩ ∧ PySem.W.codeIn K (.ref cda) qual = true ∧
    (∃ a b c, K.lookup cda = some ⟨a, b, .fields vs, c⟩) ∧ (∃ file tf, vs[2]? = some (.str file tf) ∧ ((P.main.file : Str) == file) = true) ∧ (∃ a b c, K.lookup cc = some ⟨a, b, .cell (some (.ref C)), c⟩)
  cls : ∃ nm q N bs bm sn sub ab col dd k0 k1 k2 k3 k5, K.lookup C = some (excClassObj nm q C N bs bm true sn sub ab col dd k0 k1 k2 k3 k5 "ValueError.__new__") ∧ PySem.HandSPX.refsVE bm = true ∧ PySem.W.alongIn K "__init__" bm = some (some (.builtin "ValueError.__init__"))
  sub : PySem.W.subIn K (.ref C) (.type "ValueError") = some true
  own : PySem.W.mroIn K C (.ref C) = some true
  opq : PySem.W.nsIn K cStatics "thirdparty.any" = some none
  iC : PySem.W.findIn K (.ref C) "__init__" = some (some (.ref fI))
  tI : PySem.W.typeIn K (.ref fI) = some (.type "function")
  sa : PySem.W.findIn K (.ref C) "__setattr__" = some (some (.builtin "object.__setattr__"))
  exC : PySem.W.subIn K (.ref C) (.type "BaseException") = some true
  tyC : PySem.W.typeIn K (.ref C) = some (.type "type")
  kC : PySem.W.keepIn K (.ref C) = true
theorem boot_super : bootBuiltins "super" = some (.type "super") := by kernel_rfl
section
variable {X : Cx} {C fI : Addr} {name qual self x1 f1 x2 f2 tx x : Str} {params : Arguments} {body : List Stmt} {scope : Scope} {ar : Arg} {j : Nat} {p0 p1 p2 p3 p4 p5 q1 q2 q3 q4 r1 r2 r3 r4 p pos : Pos} {e1 e2 : Expr} {ta : TA}
theorem SupF.k {P : Program} {K : PySem.W.Frag} (F : SupF P K C fI name qual params body scope) : PySem.W.clsIn K C ≠ none ∧ SupC K C := by
  obtain ⟨nm, q, N, bs, bm, sn, sub, ab, col, dd, k0, k1, k2, k3, k5, lkC, hbm, hal⟩ := F.cls
  have hcl : PySem.W.clsIn K C = some { name := nm, bases := bs, mro := .ref C :: bm, ns := N, qualname := q, hasDict := true, slotNames := sn, subclasses := sub, abstract := ab, collection := col, hasDel := false } := by unfold PySem.W.clsIn; rw [lkC] <;> rfl
  exact ⟨by rw [hcl]; simp, ⟨_, hcl, hbm, rfl⟩, F.sa⟩
theorem pmk_sup2 (F : SupF X.prog X.K C fI name qual params body scope) (hr : Room 2 X.A) (hg : Gl X x) (hm : X.mg x = some (.ref C)) (hmS : X.mg "super" = none) (htop : (X.prog.main.scope.names.lookup ("super" : Str)).isSome = false)
    (SR : ∀ cda cc, SupR qual scope fI cda cc tx j p0 p1 p2 p3 p4 p5) (hbody : body = [.Expr (.Call (.Attribute (.Call (.Name "super" p0) [] [] p1) "__init__" p2) [.Constant (.str tx) j p3] [] p4) p5, .Assign [.Attribute (.Name self q1) f1 q2] (.Name x1 q3) q4, .Assign [.Attribute (.Name self r1) f2 r2] (.Name x2 r3) r4])
    (hp : (params.posonlyargs ++ params.args).head? = some ar) (har : ar.arg = self) (hbind : ∀ kV doc pm an cda ct cc a b c, bindArgs (PySem.W.ksFn name qual params body scope .none kV doc pm an (.ref cda) ct cc) ⟨[a, b, c], []⟩ = pure [(self, a), (x1, b), (x2, c)]) (hne : x1 ≠ self) (hne2 : x2 ≠ self) (hne3 : x1 ≠ x2)
    (hks : scope.names.lookup ("super" : Str) = some .globalImplicit) (hkc : scope.names.lookup ("__class__" : Str) = some .free) (hka : scope.names.lookup self = some .local) (hk1 : scope.names.lookup x1 = some .local) (hk2 : scope.names.lookup x2 = some .local) (hk : scope.kind = .function) (hco : scope.isCoroutine = false) (hgen : scope.isGenerator = false) (hcell : ∀ y ∈ scope.names, y.2 ≠ .cell)
    (hd1 : (self == ("__debug__" : Str)) = false) (hd2 : (x1 == ("__debug__" : Str)) = false) (hd3 : (x2 == ("__debug__" : Str)) = false)
    (sw1 : ∀ L cda cc, swapsWith (.Name x1 q3) (some (.Attribute (.Name self q1) f1 q2)) q4.line (PySem.W.ksEnv qual scope L fI (.ref cda) cc) = pure false)
    (sw2 : ∀ L cda cc, swapsWith (.Name x2 r3) (some (.Attribute (.Name self r1) f2 r2)) r4.line (PySem.W.ksEnv qual scope L fI (.ref cda) cc) = pure false)
    (no1 : PySem.W.findIn X.K (.ref C) f1 = some none) (no2 : PySem.W.findIn X.K (.ref C) f2 = some none) (ha : PA X [e1, e2] ta)
    (hdb : (x == ("__debug__" : Str)) = false := by decide) (he : starEach [e1, e2] X.env = (false, eval e1 X.env) :: starEach [e2] X.env := by rfl) (hpl : (backTo pos (starEach [e2] X.env)).any (·.1) = false := by rfl) :
    PMk X (.Call (.Name x p) [e1, e2] [] pos) (fun σ H Q => ta σ H fun vs H1 => ∃ v1 v2, vs = [v1, v2] ∧ ∀ d, H1 d = none → Q (.ref C) (some d) (upd H1 d (.xd [(f2, v2), (f1, v1)]))) := by
  intro pins s σ H Q I h
  obtain ⟨oc, od, osl, kV, doc, pm, an, ct, cda, cc, vs, lkF, hcd, lkD, hfil, lkK⟩ := F.ex
  obtain ⟨nm, q, N, bs, bm, sn, sub, ab, col, dd, k0, k1, k2, k3, k5, lkC, hbm, hal⟩ := F.cls
  refine wpAny_Call_Name_kw (ld_glob I hg hm ?_ hdb)
  refine PySem.W.callWith_K (h₀ := X.base) I.ok.mod.kin F.kC (thn (ha.run pos pins s σ H _ I h) fun us s1 ⟨ws, H1, I1, rr, v1, v2, ev, q1⟩ => ⟨I1.kIn, ?_⟩) he hpl
  subst ev
  cases rr with
  | @cons _ u1 _ _ ru1 rr =>
    cases rr with
    | @cons _ u2 _ _ ru2 rr =>
      cases rr
      show wpAny _ _ (call (.ref C) [u1, u2]) _ _ _
      obtain ⟨hp1, g, dr, tk, os⟩ := s1
      have kk : ∀ b o, hp1.get? b = some o → ((hp1.push (PySem.W.kdv_tup [u1, u2])).push (PySem.HandSPX.excO C hp1.objs.size)).get? b = some o := fun b o e => Heap.get?_push_of_some _ (Heap.get?_push_of_some _ e)
      have hget : ((hp1.push (PySem.W.kdv_tup [u1, u2])).push (PySem.HandSPX.excO C hp1.objs.size)).get? (hp1.objs.size + 1) = some (PySem.HandSPX.excO C hp1.objs.size) := by heap_get
      have nlt : ∀ {b o}, hp1.get? b = some o → b ≠ hp1.objs.size + 1 := fun {b o} e => Nat.ne_of_lt (Nat.lt_succ_of_lt (Heap.lt_size e))
      obtain ⟨mb, hmb, hboot⟩ := I1.ok.mod.blt
      obtain ⟨gO, gE, gP, gL, gR⟩ := I1.ok.mod.glob
      obtain ⟨bO, bE, bP, bL, bR⟩ := hmb
      have gL1 := I1.bk _ _ gL
      have bL1 := I1.bk _ _ bL
      refine wpAny_call (PySem.HandSPX.call_own PySem.F.excBase_ValueError (fun Y => PySem.HandSPX.refsVE_contains Y bm hbm) (I1.kIn _ _ lkC) (PySem.W.looks_findIn I1.kIn F.iC) (fun self => PySem.W.bind_fn I1.kIn self F.tI) (by show 2 ≤ sizeLine; rw [sizeLine_eq]; omega) ?_)
      refine sup_run2 (mg := X.mg) (mb := mb) ⟨⟨nm, q, N, bs, bm, sn, sub, ab, col, dd, k0, k1, k2, k3, k5, lkC, hbm, hal⟩, F.sub, F.own, F.opq, ⟨_, _, _, lkF⟩, lkD, hfil, lkK, hmS, (hboot _ (by decide)).trans boot_super, htop⟩ F.k.2 (fun a o e => kk _ _ (I1.kIn _ _ e)) ⟨gO, gE, gP, kk _ _ gL1, gR⟩ ⟨bO, bE, bP, kk _ _ bL1, bR⟩
        (I1.nolimit.keeps kk) (hr.make C [u1, u2] []).depth hcd (SR cda cc) hbody hp har (fun a b c => hbind _ _ _ _ _ _ _ a b c) hne hne2 hne3 hks hkc hka hk1 hk2 hk hco hgen hcell hd1 hd2 hd3 (fun L => sw1 L cda cc) (fun L => sw2 L cda cc) no2 no1 hget (by
          cases z : X.K.lookup (hp1.objs.size + 1) with
          | none => rfl
          | some o => exact absurd rfl (nlt (I1.kIn _ _ z))) (nlt gL1) (nlt bL1) fun h' t' dx t1 k new dne e' n => ?_
      exact ⟨rfl, sup_mk (raises_own F.exC F.tyC) I1 k new dne e' n (relO_put ru2 (relO_put (fs := []) ru1 fun g => True.intro)) fun d hd => q1 d hd⟩
theorem pmk_sup1 (F : SupF X.prog X.K C fI name qual params body scope) (hr : Room 2 X.A) (hg : Gl X x) (hm : X.mg x = some (.ref C)) (hmS : X.mg "super" = none) (htop : (X.prog.main.scope.names.lookup ("super" : Str)).isSome = false)
    (SR : ∀ cda cc, SupR qual scope fI cda cc tx j p0 p1 p2 p3 p4 p5) (hbody : body = [.Expr (.Call (.Attribute (.Call (.Name "super" p0) [] [] p1) "__init__" p2) [.Constant (.str tx) j p3] [] p4) p5, .Assign [.Attribute (.Name self q1) f1 q2] (.Name x1 q3) q4])
    (hp : (params.posonlyargs ++ params.args).head? = some ar) (har : ar.arg = self) (hbind : ∀ kV doc pm an cda ct cc a b, bindArgs (PySem.W.ksFn name qual params body scope .none kV doc pm an (.ref cda) ct cc) ⟨[a, b], []⟩ = pure [(self, a), (x1, b)]) (hne : x1 ≠ self)
    (hks : scope.names.lookup ("super" : Str) = some .globalImplicit) (hkc : scope.names.lookup ("__class__" : Str) = some .free) (hka : scope.names.lookup self = some .local) (hk1 : scope.names.lookup x1 = some .local) (hk : scope.kind = .function) (hco : scope.isCoroutine = false) (hgen : scope.isGenerator = false) (hcell : ∀ y ∈ scope.names, y.2 ≠ .cell)
    (hd1 : (self == ("__debug__" : Str)) = false) (hd2 : (x1 == ("__debug__" : Str)) = false)
    (sw1 : ∀ L cda cc, swapsWith (.Name x1 q3) (some (.Attribute (.Name self q1) f1 q2)) q4.line (PySem.W.ksEnv qual scope L fI (.ref cda) cc) = pure false)
    (no1 : PySem.W.findIn X.K (.ref C) f1 = some none) (ha : PA X [e1] ta)
    (hdb : (x == ("__debug__" : Str)) = false := by decide) (he : starEach [e1] X.env = (false, eval e1 X.env) :: starEach [] X.env := by rfl) (hpl : (backTo pos (starEach [] X.env)).any (·.1) = false := by rfl) :
    PMk X (.Call (.Name x p) [e1] [] pos) (fun σ H Q => ta σ H fun vs H1 => ∃ v1, vs = [v1] ∧ ∀ d, H1 d = none → Q (.ref C) (some d) (upd H1 d (.xd [(f1, v1)]))) := by
  intro pins s σ H Q I h
  obtain ⟨oc, od, osl, kV, doc, pm, an, ct, cda, cc, vs, lkF, hcd, lkD, hfil, lkK⟩ := F.ex
  obtain ⟨nm, q, N, bs, bm, sn, sub, ab, col, dd, k0, k1, k2, k3, k5, lkC, hbm, hal⟩ := F.cls
  refine wpAny_Call_Name_kw (ld_glob I hg hm ?_ hdb)
  refine PySem.W.callWith_K (h₀ := X.base) I.ok.mod.kin F.kC (thn (ha.run pos pins s σ H _ I h) fun us s1 ⟨ws, H1, I1, rr, v1, ev, q1⟩ => ⟨I1.kIn, ?_⟩) he hpl
  subst ev
  cases rr with
  | @cons _ u1 _ _ ru1 rr =>
      cases rr
      show wpAny _ _ (call (.ref C) [u1]) _ _ _
      obtain ⟨hp1, g, dr, tk, os⟩ := s1
      have kk : ∀ b o, hp1.get? b = some o → ((hp1.push (PySem.W.kdv_tup [u1])).push (PySem.HandSPX.excO C hp1.objs.size)).get? b = some o := fun b o e => Heap.get?_push_of_some _ (Heap.get?_push_of_some _ e)
      have hget : ((hp1.push (PySem.W.kdv_tup [u1])).push (PySem.HandSPX.excO C hp1.objs.size)).get? (hp1.objs.size + 1) = some (PySem.HandSPX.excO C hp1.objs.size) := by heap_get
      have nlt : ∀ {b o}, hp1.get? b = some o → b ≠ hp1.objs.size + 1 := fun {b o} e => Nat.ne_of_lt (Nat.lt_succ_of_lt (Heap.lt_size e))
      obtain ⟨mb, hmb, hboot⟩ := I1.ok.mod.blt
      obtain ⟨gO, gE, gP, gL, gR⟩ := I1.ok.mod.glob
      obtain ⟨bO, bE, bP, bL, bR⟩ := hmb
      have gL1 := I1.bk _ _ gL
      have bL1 := I1.bk _ _ bL
      refine wpAny_call (PySem.HandSPX.call_own PySem.F.excBase_ValueError (fun Y => PySem.HandSPX.refsVE_contains Y bm hbm) (I1.kIn _ _ lkC) (PySem.W.looks_findIn I1.kIn F.iC) (fun self => PySem.W.bind_fn I1.kIn self F.tI) (by show 1 ≤ sizeLine; rw [sizeLine_eq]; omega) ?_)
      refine sup_run1 (mg := X.mg) (mb := mb) ⟨⟨nm, q, N, bs, bm, sn, sub, ab, col, dd, k0, k1, k2, k3, k5, lkC, hbm, hal⟩, F.sub, F.own, F.opq, ⟨_, _, _, lkF⟩, lkD, hfil, lkK, hmS, (hboot _ (by decide)).trans boot_super, htop⟩ F.k.2 (fun a o e => kk _ _ (I1.kIn _ _ e)) ⟨gO, gE, gP, kk _ _ gL1, gR⟩ ⟨bO, bE, bP, kk _ _ bL1, bR⟩
        (I1.nolimit.keeps kk) (hr.make C [u1] []).depth hcd (SR cda cc) hbody hp har (fun a b => hbind _ _ _ _ _ _ _ a b) hne hks hkc hka hk1 hk hco hgen hcell hd1 hd2 (fun L => sw1 L cda cc) no1 hget (by
          cases z : X.K.lookup (hp1.objs.size + 1) with
          | none => rfl
          | some o => exact absurd rfl (nlt (I1.kIn _ _ z))) (nlt gL1) (nlt bL1) fun h' t' dx t1 k new dne e' n => ?_
      exact ⟨rfl, sup_mk (raises_own F.exC F.tyC) I1 k new dne e' n (relO_put (fs := []) ru1 fun g => True.intro) fun d hd => q1 d hd⟩
end
/-! by data -/
def wRaiseN (E' : XK') (C : Addr) (fns : List Str) (t : TA') : TS' := fun _ τ L => t τ L fun ds L1 => E' C ((fns.zip ds).reverse) L1
theorem wRaiseN_e {E' : XK'} {C : Addr} {fns : List Str} {t : TA'} {D : Ends'} {τ : S'} {L : Lp} : wRaiseN E' C fns t D τ L = t τ L fun ds L1 => E' C ((fns.zip ds).reverse) L1 := rfl
section
variable {X : Cx} {C : Addr} {f1 f2 : Str} {e1 e2 call : Expr} {t : TA'} {pos : Pos} {E : XK} {E' : XK'}
theorem qs_raise2 (hc : X.calm = true) (tk : Takes X (fun cls d _ H => E cls d H)) (l : LinkE X.K X.H_0 E' E)
    (mk : ∀ ta, PA X [e1, e2] ta → PMk X call (fun σ H Q => ta σ H fun vs H1 => ∃ v1 v2, vs = [v1, v2] ∧ ∀ d, H1 d = none → Q (.ref C) (some d) (upd H1 d (.xd [(f2, v2), (f1, v1)])))) (ha : QA X [e1, e2] t) :
    QS X (.Raise (some call) none pos) (wRaiseN E' C [f1, f2] t) := ⟨fun pins s σ H D I q => by
  obtain ⟨τ, L, D', a, b, c, _⟩ := q
  refine (ps_raise hc tk (mk _ ha)).run pins s σ H D I ⟨τ, L, _, a, b, c, fun ds L1 vs H1 q hl kp rh rd => ?_⟩
  match ds, vs, rd, hl, q with
  | [d1, d2], [v1, v2], .cons r1 (.cons r2 .nil), _, q =>
    refine ⟨v1, v2, rfl, fun d hd => ?_⟩
    exact l C _ L1 (some d) _ q (((inv_kp I).trans kp).trans (Kp.new hd)) (rh.hid hd) (.inr ⟨d, _, rfl, rh.no hd, upd_same, .cons ⟨rfl, r2.mono (Kp.new hd)⟩ (.cons ⟨rfl, r1.mono (Kp.new hd)⟩ .nil), by simp⟩)⟩
theorem qs_raise1 (hc : X.calm = true) (tk : Takes X (fun cls d _ H => E cls d H)) (l : LinkE X.K X.H_0 E' E)
    (mk : ∀ ta, PA X [e1] ta → PMk X call (fun σ H Q => ta σ H fun vs H1 => ∃ v1, vs = [v1] ∧ ∀ d, H1 d = none → Q (.ref C) (some d) (upd H1 d (.xd [(f1, v1)])))) (ha : QA X [e1] t) :
    QS X (.Raise (some call) none pos) (wRaiseN E' C [f1] t) := ⟨fun pins s σ H D I q => by
  obtain ⟨τ, L, D', a, b, c, _⟩ := q
  refine (ps_raise hc tk (mk _ ha)).run pins s σ H D I ⟨τ, L, _, a, b, c, fun ds L1 vs H1 q hl kp rh rd => ?_⟩
  match ds, vs, rd, hl, q with
  | [d1], [v1], .cons r1 .nil, _, q =>
    refine ⟨v1, rfl, fun d hd => ?_⟩
    exact l C _ L1 (some d) _ q (((inv_kp I).trans kp).trans (Kp.new hd)) (rh.hid hd) (.inr ⟨d, _, rfl, rh.no hd, upd_same, .cons ⟨rfl, r1.mono (Kp.new hd)⟩ .nil, by simp⟩)⟩
end
/-! ### e.f, isinstance(e, T), e the error that the suite holds -/
def wXf (K : PySem.W.Frag) (a C : Addr) (od : Option Addr) (f : Str) (te : TE') : TE' := fun τ L Q => XfC K C ∧ PySem.W.findIn K (.ref C) f = some none ∧ te τ L fun d L1 => d = .ref a ∧ ∃ dd fs v, od = some dd ∧ L1 dd = some (.xd fs) ∧ fs.lookup f = some v ∧ Q v L1
theorem wXf_e {K : PySem.W.Frag} {a C : Addr} {od : Option Addr} {f : Str} {te : TE'} {τ : S'} {L : Lp} {Q : VK'} : wXf K a C od f te τ L Q = (XfC K C ∧ PySem.W.findIn K (.ref C) f = some none ∧ te τ L fun d L1 => d = .ref a ∧ ∃ dd fs v, od = some dd ∧ L1 dd = some (.xd fs) ∧ fs.lookup f = some v ∧ Q v L1) := rfl
section
variable {X : Cx} {a C : Addr} {oe : Obj} {od : Option Addr} {pn : List (Addr × Obj)} {e : Expr} {te : TE'} {pos : Pos} {n : Str}
theorem q_xf (hz : Zc (.ref C) od oe) (hf : ∃ vs, oe.data = .fields vs) (he : QE (X.suite a ((a, oe) :: pn)) e te) (hb : attributeBase e n X.env (eval e X.env) = eval e X.env := by rfl) :
    QE (X.suite a ((a, oe) :: pn)) (.Attribute e n pos) (wXf X.K a C od n te) := ⟨fun pins s σ H Q I h => by
  obtain ⟨τ, L, Q', ra, rb, ⟨T, hno, c⟩, k⟩ := h
  refine (pe_xf T hno hz hf he hb).run pins s σ H Q I ⟨τ, L, _, ra, rb, c, fun d L1 x H1 q kp rh rd => ?_⟩
  obtain ⟨ed, dd, fs, v, eo, el, ef, q⟩ := q
  subst ed
  cases rd
  obtain ⟨gs, eg, rk⟩ := rh _ _ el
  obtain ⟨w, ew, rw'⟩ := rk.lookup ef
  exact ⟨rfl, rfl, dd, gs, w, eo, eg, ew, k _ L1 _ H1 q kp rh rw'⟩⟩
def rIsE2 (K : PySem.W.Frag) (D a : Addr) (od : Option Addr) : List V → Hp → VK → Prop := fun xs H Q => (od = none ∨ ∃ dd fs, od = some dd ∧ H dd = some (.xd fs)) ∧ ∃ (c : V) (cv : Value) (b : Bool), xs = [.ref a, c] ∧ (∀ u, RelV c u → u = cv) ∧ PySem.W.kitOne K (.ref D) cv = some b ∧ Q (.bl b) H
theorem call_isE2 (T : ExcC X.K C) (hz : Zc (.ref C) od oe) (hf : ∃ vs, oe.data = .fields vs) : CallR (X.suite a ((a, oe) :: pn)) (.builtin "isinstance") (rIsE2 X.K C a od) := by
  intro pins s σ H xs us Q I r h
  obtain ⟨ho, c, cv, b, rfl, hcv, e, q⟩ := h
  cases r with
  | cons rx rr =>
    cases rr with
    | cons rt rr =>
      cases rr
      cases rx
      have ec := hcv _ rt
      subst ec
      obtain ⟨hget, _⟩ := I.pin (a, oe) (List.mem_append.mpr (.inl List.mem_cons_self))
      obtain ⟨vs, hv⟩ := hf
      obtain ⟨odx, J⟩ : ∃ odx, PySem.W.InstAt s.heap a oe C odx := by
        rcases ho with rfl | ⟨dd, fs, rfl, ea⟩
        · exact ⟨none, hget, hz.1, by unfold PySem.W.notCls; rw [hv] <;> rfl, by rw [hz.2]; trivial⟩
        · have hx : ObjOk X.prog X.w H s.heap dd (.xd fs) := I.hok dd _ ea
          obtain ⟨mA, hns, hr⟩ := hx
          obtain ⟨odx, hod, hl⟩ := lookIn_ns hns
          exact ⟨some odx, hget, hz.1, by unfold PySem.W.notCls; rw [hv] <;> rfl, by rw [hz.2]; exact hod⟩
      have hcl : (PySem.W.clsIn X.K C).isSome = true := by
        obtain ⟨cd, hc, _⟩ := PySem.W.any_some T.hd
        rw [hc]; rfl
      exact PySem.W.kia_one (PySem.W.kitx_exc hcl T.hg T.hk T.hs T.ha T.hn T.ht T.hm) I.kIn J e (fun z => nomatch z) fun tk => ⟨.bl b, H, I.kept (t' := tk) fun _ _ z => z, rfl, q⟩
def wIsE2 (K : PySem.W.Frag) (a C : Addr) (od : Option Addr) (cv : Value) (te : TE') : TE' := fun τ L Q => ExcC K C ∧ te τ L fun d L1 => d = .ref a ∧ (od = none ∨ ∃ dd fs, od = some dd ∧ L1 dd = some (.xd fs)) ∧ ∃ b, PySem.W.kitOne K (.ref C) cv = some b ∧ Q (.bl b) L1
theorem wIsE2_e {K : PySem.W.Frag} {a C : Addr} {od : Option Addr} {cv : Value} {te : TE'} {τ : S'} {L : Lp} {Q : VK'} : wIsE2 K a C od cv te τ L Q = (ExcC K C ∧ te τ L fun d L1 => d = .ref a ∧ (od = none ∨ ∃ dd fs, od = some dd ∧ L1 dd = some (.xd fs)) ∧ ∃ b, PySem.W.kitOne K (.ref C) cv = some b ∧ Q (.bl b) L1) := rfl
theorem q_isE2 {p : Pos} {T : Expr} {cv : Value} {v : V} (hz : Zc (.ref C) od oe) (hf : ∃ vs, oe.data = .fields vs) (hT : PE (X.suite a ((a, oe) :: pn)) T (tC v)) (hv : ∀ u, RelV v u → u = cv)
    (hg : Gl (X.suite a ((a, oe) :: pn)) "isinstance") (hm : X.mg "isinstance" = none) (h1 : QE (X.suite a ((a, oe) :: pn)) e te)
    (he : starEach (e :: [T]) X.env = (false, eval e X.env) :: starEach [T] X.env := by rfl) (he2 : starEach (T :: []) X.env = (false, eval T X.env) :: starEach [] X.env := by rfl) (hpl : (backTo pos (starEach [T] X.env)).any (·.1) = false := by rfl) :
    QE (X.suite a ((a, oe) :: pn)) (.Call (.Name "isinstance" p) [e, T] [] pos) (wIsE2 X.K a C od cv te) := ⟨fun pins s σ H Q I h => by
  obtain ⟨τ, L, Q', ra, rb, ⟨EC, c⟩, k⟩ := h
  refine (pe_callB (call_isE2 EC hz hf) hg hm (by decide +kernel) (pa_cons h1 (pa_cons hT pa_nil he2) he) (by decide) (by decide) he hpl).run pins s σ H Q I ?_
  refine ⟨τ, L, _, ra, rb, c, fun d L1 x H1 q kp rh rd => ?_⟩
  obtain ⟨q1, qo, b, q3, q4⟩ := q
  subst q1
  cases rd
  refine ⟨?_, v, cv, b, rfl, hv, q3, k _ L1 _ H1 q4 kp rh (.bl b)⟩
  rcases qo with qo | ⟨dd, fs, e1, e2⟩
  · exact .inl qo
  · obtain ⟨gs, e3, _⟩ := rh _ _ e2
    exact .inr ⟨dd, gs, e1, e3⟩⟩
end
end Z

/-! classes: made where that may raise, made by keywords, == by their own __eq__, isinstance -/
namespace Z
open PySem PySem.Spec PyProof.Rows L2
section
variable {X : Cx} {C f : Addr} {k : Nat} {fd : FuncData} {ps ks : List Str} {sp : Sp'} {x : Str} {p pos : Pos} {e : Expr} {es : List Expr} {kws : List Keyword} {t : TA'} {E : XK}
theorem wMake_l {K : PySem.W.Frag} {τ : S'} {σ : L2.St} {L : Lp} {H : Hp} {n : Nat} {Q' : VK'} {Q : VK} {E' : XK'} (a : RepS K H τ σ) (b : RepH K H L) (c : wMake C sp E' t τ L Q') (kq : ∀ d L1 v H1, Q' d L1 → Kp H H1 → RepH K H1 L1 → RelD K H1 d v → Q v H1)
    (ke : LinkE K H E' E) : tMake C (lSp K sp) [] E (lA K n t) σ H Q := by
  refine ⟨τ, L, _, a, b, c, fun ds L1 vs H1 q hl kp rh rd x dx nx ndx ne => ?_⟩
  have n1 : upd H1 dx (.own x) x = none := by rw [upd_ne (Ne.symm ne)]; exact nx
  have k1 : Kp H1 (upd H1 dx (.own x)) := Kp.new ndx
  have k2 : Kp (upd H1 dx (.own x)) (upd (upd H1 dx (.own x)) x (.ins C dx [])) := Kp.new n1
  refine ⟨.ref x :: ds, _, _, E', ?_, ?_, q x (rh.no nx), fun d L2 v H2 q2 kp2 rh2 rd2 => ?_, fun C fs L2 od H2 q2 kp2 rh2 ex => ke C fs L2 od H2 q2 ((kp.trans (k1.trans k2)).trans kp2) rh2 ex⟩
  · rw [List.append_nil]
    exact .cons (.ref x) (rd.mono (k1.trans k2))
  · exact (rh.hid ndx).new n1 ⟨dx, [], upd_same, .nil⟩
  · obtain ⟨rfl, q2⟩ := q2
    cases rd2
    exact ⟨rfl, kq _ _ _ _ q2 ((kp.trans (k1.trans k2)).trans kp2) rh2 (.ref x)⟩
/-- C(e, ..) where __init__ may raise -/
theorem px_make (M : Mk X.K C f) (F : FnOk X.prog X.w X.K X.mg X.base (L2.CX X.prog X.w) k f fd ps (lSp X.K sp)) (tk : Takes X (fun cls d _ H => E cls d H)) (hr : Room (k + 1) X.A) (hg : Gl X x) (hm : X.mg x = some (.ref C)) (hb : Binds X.K fd ps []) (ha : QA X (e :: es) t)
    (hdb : (x == ("__debug__" : Str)) = false := by decide) (he : starEach (e :: es) X.env = (false, eval e X.env) :: starEach es X.env := by rfl) (hpl : (backTo pos (starEach es X.env)).any (·.1) = false := by rfl) :
    PE X (.Call (.Name x p) (e :: es) [] pos) (lXE X.K E fun E' => wMake C sp E' t) := PE.str (pe_make M F hr hg hm hb .nil (passes_call tk fun _ _ _ _ h => h) ha hdb he hpl) fun σ H Q h => by
  obtain ⟨τ, L, Q', E', a, b, c, kq, ke⟩ := h
  exact wMake_l a b c kq ke
theorem q_makeX0 (M : Mk X.K C f) (F : FnOk X.prog X.w X.K X.mg X.base (L2.CX X.prog X.w) k f fd ps (lSp X.K sp)) (hr : Room (k + 1) X.A) (hg : Gl X x) (hm : X.mg x = some (.ref C)) (hb : Binds X.K fd ps []) (ha : QA X (e :: es) t)
    (hdb : (x == ("__debug__" : Str)) = false := by decide) (he : starEach (e :: es) X.env = (false, eval e X.env) :: starEach es X.env := by rfl) (hpl : (backTo pos (starEach es X.env)).any (·.1) = false := by rfl) :
    QE X (.Call (.Name x p) (e :: es) [] pos) (wMake C sp X0 t) := PE.str (px_make (E := fun _ _ _ => False) M F takes0 hr hg hm hb ha hdb he hpl) fun σ H Q h => by
  obtain ⟨τ, L, Q', a, b, c, kq⟩ := h
  exact ⟨τ, L, Q', X0, a, b, c, kq, fun _ _ _ _ _ z => z.elim⟩
/-- C(k = v, ..), the keywords in the order g -/
def wMakeK (C : Addr) (sp : Sp') (g : {α : Type} → List α → List α) (E : XK') (t : TA') : TE' := fun τ L Q => t τ L fun ds L1 => ∀ x, L1 x = none → sp (.ref x :: g ds) (up L1 x (.ins C [])) (fun d L2 => d = .non ∧ Q (.ref x) L2) E
theorem wMakeK_e {sp : Sp'} {g : {α : Type} → List α → List α} {E : XK'} {t : TA'} {τ : S'} {L : Lp} {Q : VK'} : wMakeK C sp g E t τ L Q = t τ L fun ds L1 => ∀ x, L1 x = none → sp (.ref x :: g ds) (up L1 x (.ins C [])) (fun d L2 => d = .non ∧ Q (.ref x) L2) E := rfl
theorem q_makeKX0 (g : {α : Type} → List α → List α) (R : Rg g) (M : Mk X.K C f) (F : FnOk X.prog X.w X.K X.mg X.base (L2.CX X.prog X.w) k f fd ps (lSp X.K sp)) (hr : Room (k + 1) X.A) (hg : Gl X x) (hm : X.mg x = some (.ref C)) (hb : KBn X.K fd ps 1 ks (fun us ws => us ++ g ws) (fun vs zs => vs ++ g zs))
    (hkw : QK X kws t) (hlen : kws.length = ks.length) (hall : (backToKw pos (keywordEach kws X.env)).all (·.1.isSome) = true := by rfl) (hks : (backToKw pos (keywordEach kws X.env)).filterMap (·.1) = ks := by rfl) (hdb : (x == ("__debug__" : Str)) = false := by decide)
    (hpl : ((backTo pos (starEach [] X.env)).any (·.1) || (backToKw pos (keywordEach kws X.env)).any (·.1.isNone)) = false := by rfl) :
    QE X (.Call (.Name x p) [] kws pos) (wMakeK C sp g X0 t) := PE.str (pe_makeK0 (E := fun _ _ _ => False) M F hr hg hm hb (passes_call (W := fun cls d _ H => False) takes0 fun _ _ _ _ h => h) hkw hall hks hdb hpl) fun σ H Q h => by
  obtain ⟨τ, L, Q', a, b, c, kq⟩ := h
  refine ⟨τ, L, _, a, b, c, fun ds L1 vs H1 q hl kp rh rd => ⟨rfl, by rw [← rd.length, hl, hlen], fun x dx nx ndx ne => ?_⟩⟩
  have n1 : upd H1 dx (.own x) x = none := by rw [upd_ne (Ne.symm ne)]; exact nx
  have k1 : Kp H1 (upd H1 dx (.own x)) := Kp.new ndx
  have k2 : Kp (upd H1 dx (.own x)) (upd (upd H1 dx (.own x)) x (.ins C dx [])) := Kp.new n1
  refine ⟨.ref x :: g ds, _, _, X0, ?_, ?_, q x (rh.no nx), fun d L2 v H2 q2 kp2 rh2 rd2 => ?_, fun C fs L2 od H2 q2 kp2 rh2 ex => q2.elim⟩
  · exact .cons (.ref x) ((R.rels rd).mono (k1.trans k2))
  · exact (rh.hid ndx).new n1 ⟨dx, [], upd_same, .nil⟩
  · obtain ⟨rfl, q2⟩ := q2
    cases rd2
    exact ⟨rfl, kq _ _ _ _ q2 ((kp.trans (k1.trans k2)).trans kp2) rh2 (.ref x)⟩
end
/-! ### == by an own __eq__ -/
section
variable {X : Cx} {C f : Addr} {k : Nat} {fd : FuncData} {ps : List Str}
def rOwnEq (C : Addr) (sp : Sp) : R2 := fun x y H Q => ∃ a b dx dy fs gs, x = .ref a ∧ y = .ref b ∧ Rd H a (.ins C dx fs) ∧ Rd H b (.ins C dy gs) ∧ sp [.ref a, .ref b] H (fun v H' => (∃ c, v = .bl c) ∧ Q v H') fun _ _ _ => False
theorem op_own {sp : Sp} (F : FnOk X.prog X.w X.K X.mg X.base CX0 k f fd ps sp) (hr : Room k X.A) (hs : PySem.W.findIn X.K (.ref C) "__eq__" = some (some (.ref f))) (hf : PySem.W.isFn X.K (.ref f) = true) (hb : Binds X.K fd ps []) : OpR X (compareOp .Eq) (rOwnEq C sp) := by
  intro pins s σ H x y v u Q I rx ry hq
  obtain ⟨a, b, dx, dy, fs, gs, rfl, rfl, ha, hb', hsp⟩ := hq
  cases rx
  cases ry
  show wpAny (model X.prog X.w) X.A (richCompare .Eq (.ref a) (.ref b)) (EP X pins σ Q) X.xe s
  obtain ⟨mA, J, _⟩ := ins_getR I.hok ha
  obtain ⟨mB, J', _⟩ := ins_getR I.hok hb'
  obtain ⟨od, J, _⟩ := J.look
  obtain ⟨od', J', _⟩ := J'.look
  obtain ⟨m, hF⟩ := I.fr
  refine PySem.W.cmp_K (op := .Eq) (tb := .ref C) hr.units0 hF I.ok.mod.kin J J'.type (by simp [PySem.W.notFirst]) hs hf ?_
  have r2 : Vals [V.ref a, V.ref b] [Value.ref a, Value.ref b] := .cons rfl (.cons rfl .nil)
  refine wpAny_mono (run_fn F hr hb .nil pass0 I r2 (by rw [List.append_nil]; exact hsp)) (fun w s' q => ?_) fun _ _ z => z
  obtain ⟨z, H', I', rz, ⟨c, ec⟩, q⟩ := q
  subst ec
  cases rz
  exact ⟨.bl c, H', I', rfl, q⟩
def ownEqD (C : Addr) (sp : Sp') : R2' := fun d e L Q => ∃ fs gs, d = .obj C fs ∧ e = .obj C gs ∧ sp [d, e] L (fun r L1 => (∃ c, r = .bl c) ∧ Q r L1) X0
theorem ownEqD_e {sp : Sp'} {C : Addr} {d e : D} {L : Lp} {Q : VK'} : ownEqD C sp d e L Q = ∃ fs gs, d = .obj C fs ∧ e = .obj C gs ∧ sp [d, e] L (fun r L1 => (∃ c, r = .bl c) ∧ Q r L1) X0 := rfl
theorem l_own {K : PySem.W.Frag} {sp : Sp'} : LR2 K (ownEqD C sp) (rOwnEq C (lSp K sp)) := fun d e L v u H Q Q' rd re rh q k => by
  obtain ⟨fs, gs, rfl, rfl, q⟩ := q
  cases rd with
  | obj e1 r1 =>
    cases re with
    | obj e2 r2 =>
      refine ⟨_, _, _, _, _, _, rfl, rfl, .inr ⟨_, e1⟩, .inr ⟨_, e2⟩, _, L, _, X0, .cons (.obj e1 r1) (.cons (.obj e2 r2) .nil), rh, q, fun d L1 w H1 qq kp rh1 rd1 => ?_, fun _ _ _ _ _ z => z.elim⟩
      obtain ⟨⟨c, ec⟩, qq⟩ := qq
      subst ec
      cases rd1
      exact ⟨⟨c, rfl⟩, k _ L1 _ H1 qq kp rh1 (.bl c)⟩
end
/-! ### isinstance(x, C), x a locked instance -/
/-- what the class must say, so that isinstance asks its instances rightly -/
structure InsC (K : PySem.W.Frag) (C : Addr) : Prop where
  cl : Cls K C
  ha : PySem.W.findIn K (.ref C) "__class__" = some (some (.builtin "object.__class__"))
  hn : PySem.W.specialIn K (.builtin "object.__class__") "__get__" = some (some (.builtin "getset_descriptor.__get__"))
  ht : PySem.W.takesIn K (.builtin "object.__class__") = some true
  hm : PySem.W.mroIn K C (.type "object") = some true
section
variable {X : Cx} {C : Addr} {e : Expr} {te : TE'} {p pos : Pos} {T : Expr} {cv : Value} {v : V}
def rIsO (K : PySem.W.Frag) : List V → Hp → VK → Prop := fun xs H Q => ∃ (a C dx : Addr) (fs : List (Str × V)) (c : V) (cv : Value) (b : Bool), xs = [.ref a, c] ∧ Rd H a (.ins C dx fs) ∧ InsC K C ∧ (∀ u, RelV c u → u = cv) ∧ PySem.W.kitOne K (.ref C) cv = some b ∧ Q (.bl b) H
theorem call_isO {X : Cx} : CallR X (.builtin "isinstance") (rIsO X.K) := by
  intro pins s σ H xs us Q I r h
  obtain ⟨a, C, dx, fs, c, cv, b, rfl, ha, T, hcv, e, q⟩ := h
  cases r with
  | cons rx rr =>
    cases rr with
    | cons rt rr =>
      cases rr
      cases rx
      have ec := hcv _ rt
      subst ec
      obtain ⟨mA, O, _⟩ := ins_getR I.hok ha
      obtain ⟨od, J, _⟩ := O.look
      exact PySem.W.kia_one (PySem.W.kitx_own (T.cl.get _) T.cl.hd T.ha T.hn T.ht T.hm) I.kIn J e (fun z => nomatch z) fun tk => ⟨.bl b, H, I.kept (t' := tk) fun _ _ z => z, rfl, q⟩
def wIsO (K : PySem.W.Frag) (cv : Value) (te : TE') : TE' := fun τ L Q => te τ L fun d L1 => ∃ C fs b, d = .obj C fs ∧ InsC K C ∧ PySem.W.kitOne K (.ref C) cv = some b ∧ Q (.bl b) L1
theorem wIsO_e {K : PySem.W.Frag} {τ : S'} {L : Lp} {Q : VK'} : wIsO K cv te τ L Q = te τ L fun d L1 => ∃ C fs b, d = .obj C fs ∧ InsC K C ∧ PySem.W.kitOne K (.ref C) cv = some b ∧ Q (.bl b) L1 := rfl
theorem q_isO (hT : PE X T (tC v)) (hv : ∀ u, RelV v u → u = cv) (hg : Gl X "isinstance") (hm : X.mg "isinstance" = none) (h1 : QE X e te)
    (he : starEach (e :: [T]) X.env = (false, eval e X.env) :: starEach [T] X.env := by rfl) (he2 : starEach (T :: []) X.env = (false, eval T X.env) :: starEach [] X.env := by rfl) (hpl : (backTo pos (starEach [T] X.env)).any (·.1) = false := by rfl) :
    QE X (.Call (.Name "isinstance" p) [e, T] [] pos) (wIsO X.K cv te) := ⟨fun pins s σ H Q I h => by
  obtain ⟨τ, L, Q', ra, rb, c, k⟩ := h
  refine (pe_callB call_isO hg hm (by decide +kernel) (pa_cons h1 (pa_cons hT pa_nil he2) he) (by decide) (by decide) he hpl).run pins s σ H Q I ?_
  refine ⟨τ, L, _, ra, rb, c, fun d L1 x H1 q kp rh rd => ?_⟩
  obtain ⟨C, fs, b, q1, q2, q3, q4⟩ := q
  subst q1
  cases rd with
  | obj e1 r1 => exact ⟨_, _, _, _, v, cv, b, rfl, .inr ⟨_, e1⟩, q2, hv, q3, k _ L1 _ H1 q4 kp rh (.bl b)⟩⟩
end
/-- how keywords bind behind n positional values, where the def has no defaults -/
theorem kbn_of {K : PySem.W.Frag} {x qual : Str} {params : Arguments} {body : List Stmt} {scope : Scope} {f : Addr} {fd : FuncData} {ps ks : List Str} {kws : List (Str × V)} (n : Nat) (F : FunD K x qual params body scope [] kws f fd) (g : {α : Type} → List α → List α) (R : Rg g)
    (h : ∀ (kV doc pm : Value) (an : Option Addr) (cdv ct : Value) (us ws : List Value), us.length = n → ws.length = ks.length → ∀ s : Shared, BindsTo s (PySem.W.fnOf x qual params body scope .none kV doc pm an cdv ct) ⟨us, ks.zip ws⟩ (ps.zip (us ++ g ws))) : KBn K fd ps n ks (fun us ws => us ++ g ws) (fun vs zs => vs ++ g zs) := by
  obtain ⟨oc, od, dV, kV, doc, pm, an, cdv, ct, osl, rfl, lk, hcd, hD, hK⟩ := F.ex
  rcases hD with ⟨_, rfl⟩ | ⟨e, _⟩
  · exact ⟨fun s us ws _ h1 h2 => h kV doc pm an cdv ct us ws h1 h2 s, fun r rz => r.append (R.vals rz)⟩
  · exact absurd rfl e
end Z

/-! the head's facts of own errors with an own __init__: a Hook over hookX -/
namespace Z
open PySem PySem.Spec PyProof.Rows L2 He
/-- an own error with __init__: its class's name, the def -/
structure SupD where
  cls : Str
  name : Str
  qual : Str
  params : Arguments
  body : List Stmt
  scope : Scope
abbrev SupW : Type := Option (Str × Str × Arguments × FuncBody × Scope × Addr × List Str × Addr)
def supAt (K : PySem.W.Frag) (c : Str) : Addr := fAd K (c, some "__init__")
def supW (K : PySem.W.Frag) (c : Str) : SupW := match K.lookup (supAt K c) with
  | some ⟨_, _, .func fd, _⟩ => some (fd.name, fd.qualname, fd.params, fd.body, fd.scope, fd.globals, fd.closure.map (·.1), fd.builtins)
  | _ => none
def SupD.val (d : SupD) : SupW := some (d.name, d.qual, d.params, .stmts d.body, d.scope, mainGlobals, ["__class__"], builtinsNs)
def supB1 (K : PySem.W.Frag) (C : Addr) : Bool := match K.lookup C with
  | some ⟨.type t, _, .cls cd, sl⟩ => (match cd.mro, sl.toList with
    | .ref C' :: bm, [_, _, _, _, some (.builtin n), _] => decide (t = "type") && (decide (C' = C) && (decide (n = "ValueError.__new__") && (!cd.hasDel && (cd.hasDict && (PySem.HandSPX.refsVE bm && decide (PySem.W.alongIn K "__init__" bm = some (some (.builtin "ValueError.__init__"))))))))
    | _, _ => false)
  | _ => false
def defNone (v : Value) : Bool := match v with
  | .none => true
  | _ => false
theorem defNone_ok {v : Value} (h : defNone v = true) : v = .none := by
  cases v <;> first | rfl | cases h
def supB2 (file : Str) (K : PySem.W.Frag) (C fI : Addr) : Bool := match K.lookup fI with
  | some ⟨_, _, .func fd, _⟩ => (match fd.code with
    | .ref cda => PySem.W.codeIn K (.ref cda) fd.qualname && (match K.lookup cda with
      | some ⟨_, _, .fields vs, _⟩ => (match (vs[2]? : Option Value) with
        | some (.str f _) => file == f
        | _ => false)
      | _ => false)
    | _ => false) && (defNone fd.defaults && (match fd.closure with
    | [(_, cc)] => (match K.lookup cc with
      | some ⟨_, _, .cell (some (.ref D)), _⟩ => decide (D = C)
      | _ => false)
    | _ => false))
  | _ => false
def supB3 (K : PySem.W.Frag) (C fI : Addr) : Bool := decide (PySem.W.subIn K (.ref C) (.type "ValueError") = some true) && (decide (PySem.W.mroIn K C (.ref C) = some true) && (decide (PySem.W.nsIn K cStatics "thirdparty.any" = some none) && (decide (PySem.W.findIn K (.ref C) "__init__" = some (some (.ref fI))) &&
  (decide (PySem.W.typeIn K (.ref fI) = some (.type "function")) && (decide (PySem.W.findIn K (.ref C) "__setattr__" = some (some (.builtin "object.__setattr__"))) && (decide (PySem.W.subIn K (.ref C) (.type "BaseException") = some true) && (decide (PySem.W.typeIn K (.ref C) = some (.type "type")) && PySem.W.keepIn K (.ref C))))))))
def supB (file : Str) (K : PySem.W.Frag) (c : Str) : Bool := supB1 K (ga K c) && (supB2 file K (ga K c) (supAt K c) && supB3 K (ga K c) (supAt K c))
theorem supB1_ok {K : PySem.W.Frag} {C : Addr} (h : supB1 K C = true) : ∃ nm q N bs bm sn sub ab col dd k0 k1 k2 k3 k5, K.lookup C = some (excClassObj nm q C N bs bm true sn sub ab col dd k0 k1 k2 k3 k5 "ValueError.__new__") ∧ PySem.HandSPX.refsVE bm = true ∧ PySem.W.alongIn K "__init__" bm = some (some (.builtin "ValueError.__init__")) := by
  unfold supB1 at h
  split at h
  · rename_i t dd cd sl lk
    split at h
    · rename_i C' bm k0 k1 k2 k3 n k5 hm hs
      obtain ⟨h1, h⟩ := ba h
      obtain ⟨h2, h⟩ := ba h
      obtain ⟨h3, h⟩ := ba h
      obtain ⟨h4, h⟩ := ba h
      obtain ⟨h5, h⟩ := ba h
      obtain ⟨h6, h7⟩ := ba h
      have h1 := of_decide_eq_true h1
      have h2 := of_decide_eq_true h2
      have h3 := of_decide_eq_true h3
      have h7 := of_decide_eq_true h7
      obtain ⟨nm, bs, mro, ns, qn, hd, sn, sub, ab, col, del⟩ := cd
      dsimp only at hm h4 h5
      have h4 : del = false := by simpa using h4
      subst h1 h2 h3 hm h4 h5
      have hsl : sl = #[k0, k1, k2, k3, some (.builtin "ValueError.__new__"), k5] := by
        obtain ⟨l⟩ := sl
        simp only at hs
        rw [hs]
      subst hsl
      exact ⟨nm, qn, ns, bs, bm, sn, sub, ab, col, dd, k0, k1, k2, k3, k5, lk, h6, h7⟩
    · cases h
  · cases h
theorem supB_ok {file : Str} {K : PySem.W.Frag} {P : Program} {d : SupD} (h : supB file K d.cls = true) (e : supW K d.cls = d.val) (hf : (P.main.file : Str) = file) : SupF P K (ga K d.cls) (supAt K d.cls) d.name d.qual d.params d.body d.scope := by
  obtain ⟨h1, h⟩ := ba h
  obtain ⟨h2, h3⟩ := ba h
  obtain ⟨a1, h3⟩ := ba h3
  obtain ⟨a2, h3⟩ := ba h3
  obtain ⟨a3, h3⟩ := ba h3
  obtain ⟨a4, h3⟩ := ba h3
  obtain ⟨a5, h3⟩ := ba h3
  obtain ⟨a6, h3⟩ := ba h3
  obtain ⟨a7, h3⟩ := ba h3
  obtain ⟨a8, a9⟩ := ba h3
  refine ⟨?_, supB1_ok h1, of_decide_eq_true a1, of_decide_eq_true a2, of_decide_eq_true a3, of_decide_eq_true a4, of_decide_eq_true a5, of_decide_eq_true a6, of_decide_eq_true a7, of_decide_eq_true a8, a9⟩
  unfold supW at e
  unfold supB2 at h2
  cases q : K.lookup (supAt K d.cls) with
  | none => rw [q] at h2; cases h2
  | some o =>
    obtain ⟨oc, od, dt, osl⟩ := o
    rw [q] at h2 e
    cases dt with
    | func fd =>
      obtain ⟨n1, n2, n3, n4, n5, n6, n7, n8, n9, n10, n11, n12, n13, n14, n15⟩ := fd
      have e2 : (some (n1, n2, n3, n4, n5, n6, n7.map (fun x => x.1), n15) : SupW) = some (d.name, d.qual, d.params, FuncBody.stmts d.body, d.scope, mainGlobals, [("__class__" : Str)], builtinsNs) := e
      simp only [Option.some.injEq, Prod.mk.injEq] at e2
      obtain ⟨z1, z2, z3, z4, z5, z6, z7, z8⟩ := e2
      subst z1 z2 z3 z4 z5 z6 z8
      obtain ⟨h4, h5⟩ := ba h2
      obtain ⟨h0, h5⟩ := ba h5
      dsimp only at h4 h5
      have e0 : n8 = .none := defNone_ok h0
      subst e0
      cases n13 with
      | ref cda =>
        obtain ⟨h6, h7⟩ := ba h4
        match n7, z7, h5 with
        | [(nm, cc)], z7, h5 =>
          have z7 : nm = ("__class__" : Str) := by simpa using z7
          subst z7
          dsimp only at h5
          cases q2 : K.lookup cda with
          | none => rw [q2] at h7; cases h7
          | some o2 =>
            obtain ⟨oc2, od2, dt2, osl2⟩ := o2
            rw [q2] at h7
            cases dt2 with
            | fields vs =>
              dsimp only at h7
              cases q3 : vs[2]? with
              | none => rw [q3] at h7; cases h7
              | some v =>
                rw [q3] at h7
                cases v with
                | str f tf =>
                  dsimp only at h7
                  cases q4 : K.lookup cc with
                  | none => rw [q4] at h5; cases h5
                  | some o4 =>
                    obtain ⟨oc4, od4, dt4, osl4⟩ := o4
                    rw [q4] at h5
                    cases dt4 with
                    | cell cv =>
                      cases cv with
                      | none => cases h5
                      | some cv =>
                        cases cv with
                        | ref D =>
                          have h5 := of_decide_eq_true h5
                          subst h5
                          exact ⟨oc, od, osl, n9, n10, n11, n12, n14, cda, cc, vs, rfl, h6, ⟨_, _, _, q2⟩, ⟨f, tf, q3, by rw [hf]; exact h7⟩, ⟨_, _, _, q4⟩⟩
                        | _ => cases h5
                    | _ => cases h5
                | _ => cases h7
            | _ => cases h7
        | [], z7, h5 => cases h5
        | _ :: _ :: _, z7, h5 => cases h5
      | _ => cases h4
    | _ => cases h2
/-! ### the Hook -/
abbrev AlY : Type := (AlT × Bool) × List SupW
def asY (g : Addr → Option Obj) (n : Nat) : List Addr := asD g n ++ [cStatics]
def obsY (n : Nat) (fa : List Fa) (fn : List DefD) (ts : List Tab) (tf : List Defn) (sx : List SupD) (ex : PySem.W.Frag → Bool) (g : Addr → Option Obj) : AlY := ((obsT fa fn ts (frT g (asY g n)), ex (frT g (asY g n)) && tabsB g tf (frT g (asY g n))), sx.map fun d => supW (frT g (asY g n)) d.cls)
def valY (fn : List DefD) (ts : List Tab) (sx : List SupD) (w : World) : AlY := ((valT fn ts w, true), sx.map SupD.val)
structure SaysY (fa : List Fa) (fn : List DefD) (ts : List Tab) (tf : List Defn) (sx : List SupD) (ex : PySem.W.Frag → Bool) (w : World) (h : Heap) (K : PySem.W.Frag) : Prop where
  x : SaysX fa fn ts tf ex w h K
  s : (sx.map fun d => supW K d.cls) = sx.map SupD.val
theorem tabs_told {h : Heap} {as : List Addr} {tf : List Defn} (e : tabsB h.get? tf (frT h.get? as) = true) : ∀ p ∈ tf, PySem.W.codeHdIn (frT h.get? as) (cT (frT h.get? as) p).1 (cT (frT h.get? as) p).2 = true ∧ ∃ o, h.get? (cT (frT h.get? as) p).2 = some o ∧ emptyTab o = true := fun p hp => by
  obtain ⟨h3, h4⟩ := ba (List.all_eq_true.mp e p hp)
  refine ⟨h3, ?_⟩
  cases q : h.get? (cT (frT h.get? as) p).2 with
  | none => rw [q] at h4; cases h4
  | some o => rw [q] at h4; exact ⟨o, rfl, h4⟩
theorem saysY_of {n : Nat} {fa : List Fa} {fn : List DefD} {ts : List Tab} {tf : List Defn} {sx : List SupD} {ex : PySem.W.Frag → Bool} {w : World} {h : Heap} (e : obsY n fa fn ts tf sx ex h.get? = valY fn ts sx w) : SaysY fa fn ts tf sx ex w h (frT h.get? (asY h.get? n)) := by
  have e1 : obsT fa fn ts (frT h.get? (asY h.get? n)) = valT fn ts w := congrArg (fun z : AlY => z.1.1) e
  have e2 : (ex (frT h.get? (asY h.get? n)) && tabsB h.get? tf (frT h.get? (asY h.get? n))) = true := congrArg (fun z : AlY => z.1.2) e
  obtain ⟨h1, h2⟩ := ba e2
  have key := tabs_told h2
  exact ⟨⟨e1, h1, fun p hp => (key p hp).1, fun p hp => let ⟨_, o, q, z⟩ := key p hp; frT_none q z, fun p hp => by
    obtain ⟨_, o, q, z⟩ := key p hp
    rw [q, emptyTab_eq z]⟩, congrArg (fun z : AlY => z.2) e⟩
def hookY (n : Nat) (fa : List Fa) (fn : List DefD) (ts : List Tab) (tf : List Defn) (sx : List SupD) (ex : PySem.W.Frag → Bool) : PySem.W.Hook where
  α := AlY
  obs := fun s => obsY n fa fn ts tf sx ex s.heap.get?
  val := fun w => valY fn ts sx w
  says := fun w h => ∃ K : PySem.W.Frag, K.In h ∧ SaysY fa fn ts tf sx ex w h K
  of := fun _ _ e => ⟨_, frT_in, saysY_of e⟩
  keeps := fun _ _ _ ⟨K, hK, c, d⟩ k => ⟨K, PySem.W.Frag.In.keeps hK k, ⟨c.t, c.more, c.hd, c.out, fun p hp => k _ _ (c.empty p hp)⟩, d⟩
theorem obsY_eq {n : Nat} {fa : List Fa} {fn : List DefD} {ts : List Tab} {tf : List Defn} {sx : List SupD} {ex : PySem.W.Frag → Bool} {g : Addr → Option Obj} {s : Shared} (h : ∀ a, g a = s.heap.get? a) : obsY n fa fn ts tf sx ex g = (hookY n fa fn ts tf sx ex).obs s := by
  have e : g = s.heap.get? := funext h
  rw [e] <;> rfl
theorem SaysY.sup {fa : List Fa} {fn : List DefD} {ts : List Tab} {tf : List Defn} {sx : List SupD} {ex : PySem.W.Frag → Bool} {w : World} {h : Heap} {K : PySem.W.Frag} (c : SaysY fa fn ts tf sx ex w h K) (i : Nat) {d : SupD} (e : sx[i]? = some d) : supW K d.cls = d.val := by
  have z := congrArg (fun l : List SupW => l[i]?) c.s
  simp only [List.getElem?_map, e, Option.map_some] at z
  exact Option.some.inj z
/-- what isinstance asks of a class of plain instances -/
def insCB (K : PySem.W.Frag) (C : Addr) : Bool := decide (PySem.W.findIn K (.ref C) "__class__" = some (some (.builtin "object.__class__"))) && (decide (PySem.W.specialIn K (.builtin "object.__class__") "__get__" = some (some (.builtin "getset_descriptor.__get__"))) && (decide (PySem.W.takesIn K (.builtin "object.__class__") = some true) && decide (PySem.W.mroIn K C (.type "object") = some true)))
theorem insC_ok {K : PySem.W.Frag} {C : Addr} (c : Cls K C) (h : insCB K C = true) : InsC K C := by
  obtain ⟨h1, h⟩ := ba h
  obtain ⟨h2, h⟩ := ba h
  obtain ⟨h3, h4⟩ := ba h
  exact ⟨c, of_decide_eq_true h1, of_decide_eq_true h2, of_decide_eq_true h3, of_decide_eq_true h4⟩
end Z


namespace Hd
open PySem PySem.Spec PyProof.Rows L2 Z
def top (i : Nat) : Stmt := PySem.Challenge.pw_mostlaid_k18_nets_told.main.body.getD i (.Pass ⟨0, 0, 0, 0⟩)
abbrev s_is_integer : Stmt := top 7
def d_is_integer : He.DefD := ⟨(("is_integer", none)), "is_integer", "is_integer", defArgs s_is_integer, defBody s_is_integer, defScope s_is_integer, [], []⟩
abbrev s_lowest : Stmt := top 8
def d_lowest : He.DefD := ⟨(("lowest", none)), "lowest", "lowest", defArgs s_lowest, defBody s_lowest, defScope s_lowest, [], []⟩
abbrev s_is_figures : Stmt := top 9
def d_is_figures : He.DefD := ⟨(("is_figures", none)), "is_figures", "is_figures", defArgs s_is_figures, defBody s_is_figures, defScope s_is_figures, [], []⟩
abbrev s_number_of_text : Stmt := top 10
def d_number_of_text : He.DefD := ⟨(("number_of_text", none)), "number_of_text", "number_of_text", defArgs s_number_of_text, defBody s_number_of_text, defScope s_number_of_text, [], []⟩
abbrev s_exact : Stmt := top 11
def d_exact : He.DefD := ⟨(("exact", none)), "exact", "exact", defArgs s_exact, defBody s_exact, defScope s_exact, [], []⟩
abbrev s_is_number : Stmt := top 12
def d_is_number : He.DefD := ⟨(("is_number", none)), "is_number", "is_number", defArgs s_is_number, defBody s_is_number, defScope s_is_number, [], []⟩
abbrev s_is_corner : Stmt := top 14
def d_is_corner : He.DefD := ⟨(("_is_corner", none)), "_is_corner", "_is_corner", defArgs s_is_corner, defBody s_is_corner, defScope s_is_corner, [], []⟩
abbrev s_is_index : Stmt := top 15
def d_is_index : He.DefD := ⟨(("_is_index", none)), "_is_index", "_is_index", defArgs s_is_index, defBody s_is_index, defScope s_is_index, [], []⟩
abbrev s_is_face : Stmt := top 16
def d_is_face : He.DefD := ⟨(("_is_face", none)), "_is_face", "_is_face", defArgs s_is_face, defBody s_is_face, defScope s_is_face, [], []⟩
abbrev s_Net_init : Stmt := inClass (top 17) 0
def d_Net_init : He.DefD := ⟨(("Net", some "__init__")), "__init__", "Net.__init__", defArgs s_Net_init, defBody s_Net_init, defScope s_Net_init, [], []⟩
abbrev s_Net_eq : Stmt := inClass (top 17) 1
def d_Net_eq : He.DefD := ⟨(("Net", some "__eq__")), "__eq__", "Net.__eq__", defArgs s_Net_eq, defBody s_Net_eq, defScope s_Net_eq, [], []⟩
abbrev s_law_bag : Stmt := top 19
def d_law_bag : He.DefD := ⟨(("_law_bag", none)), "_law_bag", "_law_bag", defArgs s_law_bag, defBody s_law_bag, defScope s_law_bag, [], []⟩
abbrev s_law_draw : Stmt := top 20
def d_law_draw : He.DefD := ⟨(("_law_draw", none)), "_law_draw", "_law_draw", defArgs s_law_draw, defBody s_law_draw, defScope s_law_draw, [], []⟩
abbrev s_law_of : Stmt := top 21
def d_law_of : He.DefD := ⟨(("_law_of", none)), "_law_of", "_law_of", defArgs s_law_of, defBody s_law_of, defScope s_law_of, [], []⟩
abbrev s_law_same : Stmt := top 22
def d_law_same : He.DefD := ⟨(("_law_same", none)), "_law_same", "_law_same", defArgs s_law_same, defBody s_law_same, defScope s_law_same, [], []⟩
abbrev s_law_low : Stmt := top 23
def d_law_low : He.DefD := ⟨(("_law_low", none)), "_law_low", "_law_low", defArgs s_law_low, defBody s_law_low, defScope s_law_low, [], []⟩
abbrev s_law_is_num : Stmt := top 24
def d_law_is_num : He.DefD := ⟨(("_law_is_num", none)), "_law_is_num", "_law_is_num", defArgs s_law_is_num, defBody s_law_is_num, defScope s_law_is_num, [], []⟩
abbrev s_law_hand : Stmt := top 25
def d_law_hand : He.DefD := ⟨(("_law_hand", none)), "_law_hand", "_law_hand", defArgs s_law_hand, defBody s_law_hand, defScope s_law_hand, [], []⟩
abbrev s_law_handed : Stmt := top 26
def d_law_handed : He.DefD := ⟨(("_law_handed", none)), "_law_handed", "_law_handed", defArgs s_law_handed, defBody s_law_handed, defScope s_law_handed, [], []⟩
abbrev s_law_number : Stmt := top 27
def d_law_number : He.DefD := ⟨(("_law_number", none)), "_law_number", "_law_number", defArgs s_law_number, defBody s_law_number, defScope s_law_number, [], []⟩
abbrev s_law_try : Stmt := top 28
def d_law_try : He.DefD := ⟨(("_law_try", none)), "_law_try", "_law_try", defArgs s_law_try, defBody s_law_try, defScope s_law_try, [], []⟩
abbrev s_law_bad : Stmt := top 29
def d_law_bad : He.DefD := ⟨(("_law_bad", none)), "_law_bad", "_law_bad", defArgs s_law_bad, defBody s_law_bad, defScope s_law_bad, [], []⟩
abbrev s_law_bent_corner : Stmt := top 30
def d_law_bent_corner : He.DefD := ⟨(("_law_bent_corner", none)), "_law_bent_corner", "_law_bent_corner", defArgs s_law_bent_corner, defBody s_law_bent_corner, defScope s_law_bent_corner, [], []⟩
abbrev s_law_bent_face : Stmt := top 31
def d_law_bent_face : He.DefD := ⟨(("_law_bent_face", none)), "_law_bent_face", "_law_bent_face", defArgs s_law_bent_face, defBody s_law_bent_face, defScope s_law_bent_face, [], []⟩
abbrev s_law_any : Stmt := top 32
def d_law_any : He.DefD := ⟨(("_law_any", none)), "_law_any", "_law_any", defArgs s_law_any, defBody s_law_any, defScope s_law_any, [], []⟩
abbrev s_law_bend : Stmt := top 33
def d_law_bend : He.DefD := ⟨(("_law_bend", none)), "_law_bend", "_law_bend", defArgs s_law_bend, defBody s_law_bend, defScope s_law_bend, [], []⟩
abbrev s_law_drawn : Stmt := top 34
def d_law_drawn : He.DefD := ⟨(("_law_drawn", none)), "_law_drawn", "_law_drawn", defArgs s_law_drawn, defBody s_law_drawn, defScope s_law_drawn, [], []⟩
abbrev s_law_pair : Stmt := top 35
def d_law_pair : He.DefD := ⟨(("_law_pair", none)), "_law_pair", "_law_pair", defArgs s_law_pair, defBody s_law_pair, defScope s_law_pair, [], []⟩
abbrev s_law_once : Stmt := top 36
def d_law_once : He.DefD := ⟨(("_law_once", none)), "_law_once", "_law_once", defArgs s_law_once, defBody s_law_once, defScope s_law_once, [], []⟩
abbrev s_law : Stmt := top 37
def d_law : He.DefD := ⟨(("law", none)), "law", "law", defArgs s_law, defBody s_law, defScope s_law, [], []⟩
def fn : List He.DefD := [d_is_integer, d_lowest, d_is_figures, d_number_of_text, d_exact, d_is_number, d_is_corner, d_is_index, d_is_face, d_Net_init, d_Net_eq, d_law_bag, d_law_draw, d_law_of, d_law_same, d_law_low, d_law_is_num, d_law_hand, d_law_handed, d_law_number, d_law_try, d_law_bad, d_law_bent_corner, d_law_bent_face, d_law_any, d_law_bend, d_law_drawn, d_law_pair, d_law_once, d_law]
def fa : List He.Fa := [.glo "is_integer", .glo "lowest", .glo "is_figures", .glo "number_of_text", .glo "exact", .glo "is_number", .glo "_is_corner", .glo "_is_index", .glo "_is_face", .glo "_law_bag", .glo "_law_draw", .glo "_law_of", .glo "_law_same", .glo "_law_low", .glo "_law_is_num", .glo "_law_hand", .glo "_law_handed", .glo "_law_number", .glo "_law_try", .glo "_law_bad", .glo "_law_bent_corner", .glo "_law_bent_face", .glo "_law_any", .glo "_law_bend", .glo "_law_drawn", .glo "_law_pair", .glo "_law_once", .glo "law", .glo "Refused", .glo "BadNumber", .glo "BadNet", .glo "Net", .free "ValueError", .free "int", .free "isinstance", .free "str", .free "bool", .free "range", .free "len", .free "tuple", .free "all", .free "enumerate", .free "list", .free "abs", .free "super", .free "zip", .int "DIGITS" 60, .cls "Net", .noat "Net" "corners", .noat "Net" "faces", .mkr "Net", .exm "BadNet" "Refused" true, .noat "BadNet" "word", .noat "BadNet" "index", .meth "Net" "__eq__"]
def ex : PySem.W.Frag → Bool := fun K => (extB K "gcd" "math.gcd") && (excCB K (He.ga K "BadNet") && (xfB K (He.ga K "BadNet") && (insCB K (He.ga K "Net") && (decide (PySem.W.kitOne K (.ref (He.ga K "BadNet")) (.type "ValueError") = some true) && supB PySem.Challenge.pw_mostlaid_k18_nets_told.main.file K "BadNet"))))
abbrev Hc := Cn fa fn ex
section
variable {K : PySem.W.Frag} {mg : Str → Option Value}
theorem g_is_integer (C : Hc K mg) : mg "is_integer" = some (.ref (He.ga K "is_integer")) := C.glo 0
theorem g_lowest (C : Hc K mg) : mg "lowest" = some (.ref (He.ga K "lowest")) := C.glo 1
theorem g_is_figures (C : Hc K mg) : mg "is_figures" = some (.ref (He.ga K "is_figures")) := C.glo 2
theorem g_number_of_text (C : Hc K mg) : mg "number_of_text" = some (.ref (He.ga K "number_of_text")) := C.glo 3
theorem g_exact (C : Hc K mg) : mg "exact" = some (.ref (He.ga K "exact")) := C.glo 4
theorem g_is_number (C : Hc K mg) : mg "is_number" = some (.ref (He.ga K "is_number")) := C.glo 5
theorem g_is_corner (C : Hc K mg) : mg "_is_corner" = some (.ref (He.ga K "_is_corner")) := C.glo 6
theorem g_is_index (C : Hc K mg) : mg "_is_index" = some (.ref (He.ga K "_is_index")) := C.glo 7
theorem g_is_face (C : Hc K mg) : mg "_is_face" = some (.ref (He.ga K "_is_face")) := C.glo 8
theorem g_law_bag (C : Hc K mg) : mg "_law_bag" = some (.ref (He.ga K "_law_bag")) := C.glo 9
theorem g_law_draw (C : Hc K mg) : mg "_law_draw" = some (.ref (He.ga K "_law_draw")) := C.glo 10
theorem g_law_of (C : Hc K mg) : mg "_law_of" = some (.ref (He.ga K "_law_of")) := C.glo 11
theorem g_law_same (C : Hc K mg) : mg "_law_same" = some (.ref (He.ga K "_law_same")) := C.glo 12
theorem g_law_low (C : Hc K mg) : mg "_law_low" = some (.ref (He.ga K "_law_low")) := C.glo 13
theorem g_law_is_num (C : Hc K mg) : mg "_law_is_num" = some (.ref (He.ga K "_law_is_num")) := C.glo 14
theorem g_law_hand (C : Hc K mg) : mg "_law_hand" = some (.ref (He.ga K "_law_hand")) := C.glo 15
theorem g_law_handed (C : Hc K mg) : mg "_law_handed" = some (.ref (He.ga K "_law_handed")) := C.glo 16
theorem g_law_number (C : Hc K mg) : mg "_law_number" = some (.ref (He.ga K "_law_number")) := C.glo 17
theorem g_law_try (C : Hc K mg) : mg "_law_try" = some (.ref (He.ga K "_law_try")) := C.glo 18
theorem g_law_bad (C : Hc K mg) : mg "_law_bad" = some (.ref (He.ga K "_law_bad")) := C.glo 19
theorem g_law_bent_corner (C : Hc K mg) : mg "_law_bent_corner" = some (.ref (He.ga K "_law_bent_corner")) := C.glo 20
theorem g_law_bent_face (C : Hc K mg) : mg "_law_bent_face" = some (.ref (He.ga K "_law_bent_face")) := C.glo 21
theorem g_law_any (C : Hc K mg) : mg "_law_any" = some (.ref (He.ga K "_law_any")) := C.glo 22
theorem g_law_bend (C : Hc K mg) : mg "_law_bend" = some (.ref (He.ga K "_law_bend")) := C.glo 23
theorem g_law_drawn (C : Hc K mg) : mg "_law_drawn" = some (.ref (He.ga K "_law_drawn")) := C.glo 24
theorem g_law_pair (C : Hc K mg) : mg "_law_pair" = some (.ref (He.ga K "_law_pair")) := C.glo 25
theorem g_law_once (C : Hc K mg) : mg "_law_once" = some (.ref (He.ga K "_law_once")) := C.glo 26
theorem g_law (C : Hc K mg) : mg "law" = some (.ref (He.ga K "law")) := C.glo 27
theorem g_Refused (C : Hc K mg) : mg "Refused" = some (.ref (He.ga K "Refused")) := C.glo 28
theorem g_BadNumber (C : Hc K mg) : mg "BadNumber" = some (.ref (He.ga K "BadNumber")) := C.glo 29
theorem g_BadNet (C : Hc K mg) : mg "BadNet" = some (.ref (He.ga K "BadNet")) := C.glo 30
theorem g_Net (C : Hc K mg) : mg "Net" = some (.ref (He.ga K "Net")) := C.glo 31
theorem fr_ValueError (C : Hc K mg) : mg "ValueError" = none := C.free 32
theorem fr_int (C : Hc K mg) : mg "int" = none := C.free 33
theorem fr_isinstance (C : Hc K mg) : mg "isinstance" = none := C.free 34
theorem fr_str (C : Hc K mg) : mg "str" = none := C.free 35
theorem fr_bool (C : Hc K mg) : mg "bool" = none := C.free 36
theorem fr_range (C : Hc K mg) : mg "range" = none := C.free 37
theorem fr_len (C : Hc K mg) : mg "len" = none := C.free 38
theorem fr_tuple (C : Hc K mg) : mg "tuple" = none := C.free 39
theorem fr_all (C : Hc K mg) : mg "all" = none := C.free 40
theorem fr_enumerate (C : Hc K mg) : mg "enumerate" = none := C.free 41
theorem fr_list (C : Hc K mg) : mg "list" = none := C.free 42
theorem fr_abs (C : Hc K mg) : mg "abs" = none := C.free 43
theorem fr_super (C : Hc K mg) : mg "super" = none := C.free 44
theorem fr_zip (C : Hc K mg) : mg "zip" = none := C.free 45
theorem i_DIGITS (C : Hc K mg) : ∃ t, mg "DIGITS" = some (.int 60 t) := C.int 46
theorem cl_Net (C : Hc K mg) : Cls K (He.ga K "Net") := He.cls_ok (C.fact 47)
theorem na_Net_corners (C : Hc K mg) : NoAttr K (He.ga K "Net") "corners" := He.noat_ok (C.fact 48)
theorem na_Net_faces (C : Hc K mg) : NoAttr K (He.ga K "Net") "faces" := He.noat_ok (C.fact 49)
theorem mk_Net (C : Hc K mg) : Mk K (He.ga K "Net") (He.fAd K ("Net", some "__init__")) := He.mkr_ok (C.fact 50)
theorem na_BadNet_word (C : Hc K mg) : NoAttr K (He.ga K "BadNet") "word" := He.noat_ok (C.fact 52)
theorem na_BadNet_index (C : Hc K mg) : NoAttr K (He.ga K "BadNet") "index" := He.noat_ok (C.fact 53)
theorem f_is_integer (C : Hc K mg) : FunD K "is_integer" "is_integer" (defArgs s_is_integer) (defBody s_is_integer) (defScope s_is_integer) [] [] (He.fAd K (("is_integer", none))) (fdAt K (("is_integer", none))) := C.def_ 0 (d := d_is_integer)
theorem f_lowest (C : Hc K mg) : FunD K "lowest" "lowest" (defArgs s_lowest) (defBody s_lowest) (defScope s_lowest) [] [] (He.fAd K (("lowest", none))) (fdAt K (("lowest", none))) := C.def_ 1 (d := d_lowest)
theorem f_is_figures (C : Hc K mg) : FunD K "is_figures" "is_figures" (defArgs s_is_figures) (defBody s_is_figures) (defScope s_is_figures) [] [] (He.fAd K (("is_figures", none))) (fdAt K (("is_figures", none))) := C.def_ 2 (d := d_is_figures)
theorem f_number_of_text (C : Hc K mg) : FunD K "number_of_text" "number_of_text" (defArgs s_number_of_text) (defBody s_number_of_text) (defScope s_number_of_text) [] [] (He.fAd K (("number_of_text", none))) (fdAt K (("number_of_text", none))) := C.def_ 3 (d := d_number_of_text)
theorem f_exact (C : Hc K mg) : FunD K "exact" "exact" (defArgs s_exact) (defBody s_exact) (defScope s_exact) [] [] (He.fAd K (("exact", none))) (fdAt K (("exact", none))) := C.def_ 4 (d := d_exact)
theorem f_is_number (C : Hc K mg) : FunD K "is_number" "is_number" (defArgs s_is_number) (defBody s_is_number) (defScope s_is_number) [] [] (He.fAd K (("is_number", none))) (fdAt K (("is_number", none))) := C.def_ 5 (d := d_is_number)
theorem f_is_corner (C : Hc K mg) : FunD K "_is_corner" "_is_corner" (defArgs s_is_corner) (defBody s_is_corner) (defScope s_is_corner) [] [] (He.fAd K (("_is_corner", none))) (fdAt K (("_is_corner", none))) := C.def_ 6 (d := d_is_corner)
theorem f_is_index (C : Hc K mg) : FunD K "_is_index" "_is_index" (defArgs s_is_index) (defBody s_is_index) (defScope s_is_index) [] [] (He.fAd K (("_is_index", none))) (fdAt K (("_is_index", none))) := C.def_ 7 (d := d_is_index)
theorem f_is_face (C : Hc K mg) : FunD K "_is_face" "_is_face" (defArgs s_is_face) (defBody s_is_face) (defScope s_is_face) [] [] (He.fAd K (("_is_face", none))) (fdAt K (("_is_face", none))) := C.def_ 8 (d := d_is_face)
theorem f_Net_init (C : Hc K mg) : FunD K "__init__" "Net.__init__" (defArgs s_Net_init) (defBody s_Net_init) (defScope s_Net_init) [] [] (He.fAd K (("Net", some "__init__"))) (fdAt K (("Net", some "__init__"))) := C.def_ 9 (d := d_Net_init)
theorem f_Net_eq (C : Hc K mg) : FunD K "__eq__" "Net.__eq__" (defArgs s_Net_eq) (defBody s_Net_eq) (defScope s_Net_eq) [] [] (He.fAd K (("Net", some "__eq__"))) (fdAt K (("Net", some "__eq__"))) := C.def_ 10 (d := d_Net_eq)
theorem f_law_bag (C : Hc K mg) : FunD K "_law_bag" "_law_bag" (defArgs s_law_bag) (defBody s_law_bag) (defScope s_law_bag) [] [] (He.fAd K (("_law_bag", none))) (fdAt K (("_law_bag", none))) := C.def_ 11 (d := d_law_bag)
theorem f_law_draw (C : Hc K mg) : FunD K "_law_draw" "_law_draw" (defArgs s_law_draw) (defBody s_law_draw) (defScope s_law_draw) [] [] (He.fAd K (("_law_draw", none))) (fdAt K (("_law_draw", none))) := C.def_ 12 (d := d_law_draw)
theorem f_law_of (C : Hc K mg) : FunD K "_law_of" "_law_of" (defArgs s_law_of) (defBody s_law_of) (defScope s_law_of) [] [] (He.fAd K (("_law_of", none))) (fdAt K (("_law_of", none))) := C.def_ 13 (d := d_law_of)
theorem f_law_same (C : Hc K mg) : FunD K "_law_same" "_law_same" (defArgs s_law_same) (defBody s_law_same) (defScope s_law_same) [] [] (He.fAd K (("_law_same", none))) (fdAt K (("_law_same", none))) := C.def_ 14 (d := d_law_same)
theorem f_law_low (C : Hc K mg) : FunD K "_law_low" "_law_low" (defArgs s_law_low) (defBody s_law_low) (defScope s_law_low) [] [] (He.fAd K (("_law_low", none))) (fdAt K (("_law_low", none))) := C.def_ 15 (d := d_law_low)
theorem f_law_is_num (C : Hc K mg) : FunD K "_law_is_num" "_law_is_num" (defArgs s_law_is_num) (defBody s_law_is_num) (defScope s_law_is_num) [] [] (He.fAd K (("_law_is_num", none))) (fdAt K (("_law_is_num", none))) := C.def_ 16 (d := d_law_is_num)
theorem f_law_hand (C : Hc K mg) : FunD K "_law_hand" "_law_hand" (defArgs s_law_hand) (defBody s_law_hand) (defScope s_law_hand) [] [] (He.fAd K (("_law_hand", none))) (fdAt K (("_law_hand", none))) := C.def_ 17 (d := d_law_hand)
theorem f_law_handed (C : Hc K mg) : FunD K "_law_handed" "_law_handed" (defArgs s_law_handed) (defBody s_law_handed) (defScope s_law_handed) [] [] (He.fAd K (("_law_handed", none))) (fdAt K (("_law_handed", none))) := C.def_ 18 (d := d_law_handed)
theorem f_law_number (C : Hc K mg) : FunD K "_law_number" "_law_number" (defArgs s_law_number) (defBody s_law_number) (defScope s_law_number) [] [] (He.fAd K (("_law_number", none))) (fdAt K (("_law_number", none))) := C.def_ 19 (d := d_law_number)
theorem f_law_try (C : Hc K mg) : FunD K "_law_try" "_law_try" (defArgs s_law_try) (defBody s_law_try) (defScope s_law_try) [] [] (He.fAd K (("_law_try", none))) (fdAt K (("_law_try", none))) := C.def_ 20 (d := d_law_try)
theorem f_law_bad (C : Hc K mg) : FunD K "_law_bad" "_law_bad" (defArgs s_law_bad) (defBody s_law_bad) (defScope s_law_bad) [] [] (He.fAd K (("_law_bad", none))) (fdAt K (("_law_bad", none))) := C.def_ 21 (d := d_law_bad)
theorem f_law_bent_corner (C : Hc K mg) : FunD K "_law_bent_corner" "_law_bent_corner" (defArgs s_law_bent_corner) (defBody s_law_bent_corner) (defScope s_law_bent_corner) [] [] (He.fAd K (("_law_bent_corner", none))) (fdAt K (("_law_bent_corner", none))) := C.def_ 22 (d := d_law_bent_corner)
theorem f_law_bent_face (C : Hc K mg) : FunD K "_law_bent_face" "_law_bent_face" (defArgs s_law_bent_face) (defBody s_law_bent_face) (defScope s_law_bent_face) [] [] (He.fAd K (("_law_bent_face", none))) (fdAt K (("_law_bent_face", none))) := C.def_ 23 (d := d_law_bent_face)
theorem f_law_any (C : Hc K mg) : FunD K "_law_any" "_law_any" (defArgs s_law_any) (defBody s_law_any) (defScope s_law_any) [] [] (He.fAd K (("_law_any", none))) (fdAt K (("_law_any", none))) := C.def_ 24 (d := d_law_any)
theorem f_law_bend (C : Hc K mg) : FunD K "_law_bend" "_law_bend" (defArgs s_law_bend) (defBody s_law_bend) (defScope s_law_bend) [] [] (He.fAd K (("_law_bend", none))) (fdAt K (("_law_bend", none))) := C.def_ 25 (d := d_law_bend)
theorem f_law_drawn (C : Hc K mg) : FunD K "_law_drawn" "_law_drawn" (defArgs s_law_drawn) (defBody s_law_drawn) (defScope s_law_drawn) [] [] (He.fAd K (("_law_drawn", none))) (fdAt K (("_law_drawn", none))) := C.def_ 26 (d := d_law_drawn)
theorem f_law_pair (C : Hc K mg) : FunD K "_law_pair" "_law_pair" (defArgs s_law_pair) (defBody s_law_pair) (defScope s_law_pair) [] [] (He.fAd K (("_law_pair", none))) (fdAt K (("_law_pair", none))) := C.def_ 27 (d := d_law_pair)
theorem f_law_once (C : Hc K mg) : FunD K "_law_once" "_law_once" (defArgs s_law_once) (defBody s_law_once) (defScope s_law_once) [] [] (He.fAd K (("_law_once", none))) (fdAt K (("_law_once", none))) := C.def_ 28 (d := d_law_once)
theorem f_law (C : Hc K mg) : FunD K "law" "law" (defArgs s_law) (defBody s_law) (defScope s_law) [] [] (He.fAd K (("law", none))) (fdAt K (("law", none))) := C.def_ 29 (d := d_law)
theorem xm_BadNet (C : Hc K mg) : PySem.W.exmOne K (.ref (He.ga K "BadNet")) (.ref (He.ga K "Refused")) = some true := He.exm_ok (C.fact 51)
theorem eq_Net (C : Hc K mg) : PySem.W.findIn K (.ref (He.ga K "Net")) "__eq__" = some (some (.ref (He.fAd K ("Net", some "__eq__")))) := (He.meth_ok (C.fact 54)).at_
theorem fn_Net (C : Hc K mg) : PySem.W.isFn K (.ref (He.fAd K ("Net", some "__eq__"))) = true := (He.meth_ok (C.fact 54)).fn
theorem e_gcd (C : Hc K mg) (h : extB K "gcd" "math.gcd" = true) : mg "gcd" = some (.builtin "math.gcd") := C.ext h
end
abbrev R : PySem.W.OpenRow := PySem.W.OpenLaw.row PySem.Challenge.rw_mostlaid_k18_nets_told
abbrev s_BadNet_init : Stmt := inClass (top 4) 0
def sx : List SupD := [⟨"BadNet", "__init__", "BadNet.__init__", defArgs s_BadNet_init, defBody s_BadNet_init, defScope s_BadNet_init⟩]
def tf : List He.Defn := [("_law_once", none)]
abbrev hk : PySem.W.Hook := hookY 5 fa fn [] tf sx ex
def ob (s : PySem.W.SharedT) : AlY := obsY 5 fa fn [] tf sx ex (HandSHeadRun.getT s)
theorem ob_eq (s : PySem.W.SharedT) : ob s = hk.obs s.abs := obsY_eq (HandSHeadRun.getT_eq s)
def loose0 : List PySem.Str := ["Refused", "BadNumber", "BadNet", "DIGITS", "is_integer", "lowest", "is_figures", "number_of_text", "exact", "is_number", "_is_corner", "_is_index", "_is_face", "Net", "_law_bag", "_law_draw", "_law_of", "_law_same", "_law_low", "_law_is_num", "_law_hand", "_law_handed", "_law_number", "_law_try", "_law_bad", "_law_bent_corner", "_law_bent_face", "_law_any", "_law_bend", "_law_drawn"]
def loose1 : List PySem.Str := ["_law_pair", "_law_once"]
abbrev loose : List PySem.Str := loose0 ++ loose1
theorem run (w : World) : HandSHeadRun.RunEqI R (PySem.W.view R.prog [0, 37]) hk ob 40000 loose w := by
  unfold HandSHeadRun.RunEqI
  kernel_rfl
end Hd
/-! enumerate over tuples and lists -/
namespace Z
open PySem PySem.Spec PyProof.Rows L2
section
variable {prog : Program} {w : World} {A : Around} {E : Value → Shared → Prop} {s : Shared}
theorem meets_enum1 {v : Value} {o : Obj} {H : Heap → Prop} (B : Begins v o H) :
    Meets (Builtin.«enumerate.__new__» ⟨[.type "enumerate", v], []⟩) (fun _ R s => H s.heap ∧
      R (.ok (.ret (.ref (s.heap.push o).objs.size))) { s with heap := (s.heap.push o).push { cls := .type "enumerate", data := .fields #[.none, .bool false, .ref s.heap.objs.size, rawInt 0, .none, .none] } }) :=
  .of_wp fun prog w A R s h => by
    obtain ⟨hp, g, d, tk, os⟩ := s; obtain ⟨h1, h⟩ := h
    have hsub := sub_enumerate
    have q1 : ∀ {A' : Around} {E : Value → Shared → Prop} {Q : Value → Shared → Prop}, Q (.ref hp.objs.size) ⟨hp.push o, g, d, tk, os⟩ → wpAny (model prog w) A' (pyIter v) Q E ⟨hp, g, d, tk, os⟩ :=
      fun q => B.iter prog w _ _ ⟨hp, g, d, tk, os⟩ _ h1 q
    wp_walk using q1
    refine wpAny_stack_any fun st => wpAny_pure ?_
    split
    · rename_i c _ _ _ _ _
      cases (c == Value.type "enumerate")
      · wp_walk using q1
        exact ⟨_, rfl, h⟩
      · wp_walk using q1
        exact ⟨_, rfl, h⟩
    · wp_walk using q1
      exact ⟨_, rfl, h⟩
/-- enumerate(v): its two new cells -/
theorem enum_begins1 {v : Value} {o : Obj} {H : Heap → Prop} {Q : Value → Shared → Prop} (B : Begins v o H) (h1 : H s.heap)
    (h : ∀ h', IsEnum h' (s.heap.objs.size + 1) s.heap.objs.size 0 .none → h'.get? s.heap.objs.size = some o → h'.objs.size = s.heap.objs.size + 2 →
      (∀ b o, s.heap.get? b = some o → h'.get? b = some o) → Q (.ref (s.heap.objs.size + 1)) { s with heap := h' }) :
    wpAny (model prog w) A (call (.type "enumerate") [v]) Q E s := by
  refine callType_new PySem.F.called_enumerate (by decide) (PySem.F.typeCall_enumerate_1 _) (PySem.F.newCall_enumerate_1 _) (fun obj => PySem.F.args_object_init_2 obj _) PySem.F.entry_enumerate_new
    (meets_enum1 B) ⟨h1, ?_⟩
  have hz : (s.heap.push o).objs.size = s.heap.objs.size + 1 := Heap.size_push ..
  show _ ∧ _
  rw [hz]
  have he : IsEnum ((s.heap.push o).push { cls := .type "enumerate", data := .fields #[.none, .bool false, .ref s.heap.objs.size, rawInt 0, .none, .none] }) (s.heap.objs.size + 1) s.heap.objs.size 0 .none := by
    have := Heap.get?_push_size (s.heap.push o) (o := { cls := .type "enumerate", data := .fields #[.none, .bool false, .ref s.heap.objs.size, rawInt 0, .none, .none] }) rfl
    rw [hz] at this; exact this
  refine ⟨⟨_, he, rfl⟩, h _ he (Heap.get?_push_of_some _ (Heap.get?_push_size _ B.free)) (by rw [Heap.size_push, hz]) fun b o x => Heap.get?_push_of_some _ (Heap.get?_push_of_some _ x)⟩
end
/-- the tuple at a as it stands, each item in a new pair -/
def IteT (K : PySem.W.Frag) (a : Addr) : It :=
  ⟨fun i H => ∃ (xs : List V) (x : V), SqT K H a xs ∧ xs[i]? = some x, fun i H v H' => ∃ T x, v = .ref T ∧ H T = none ∧ H' = upd H T (.tup [.int (i : Nat), x]) ∧ ∀ xs, SqT K H a xs → xs[i]? = some x, fun i H => ∃ xs : List V, SqT K H a xs ∧ xs.length ≤ i⟩
theorem turn_enumT {P : Program} {w : World} {K : PySem.W.Frag} {elts : List Expr} {kk : Nat} {tpos : Pos} (a e it : Addr) :
    Turn P w K (.Tuple elts kk tpos) (IteT K a) [e, it] e (fun i h => (∃ old, IsEnum h e it ((i : Nat) : Int) old) ∧ h.IsTupleIter it a i ∧ e ≠ it) where
  mem := by simp
  obj := fun i h st b hb => by
    obtain ⟨⟨old, he⟩, ⟨o, ho, hc, hd⟩, _⟩ := st
    have e' : b = e ∨ b = it := by simpa using hb
    rcases e' with z | z
    · rw [z]; exact ⟨_, he, fun v q => nomatch q⟩
    · rw [z]; exact ⟨o, ho, fun v q => by rw [hd] at q; cases q⟩
  keep := fun i h h' st k => let ⟨⟨old, he⟩, hi, hne⟩ := st; ⟨⟨old, k e (by simp) _ he⟩, hi.at fun o q => k it (by simp) o q, hne⟩
  item := by
    intro X hP hw hK hc i pins s σ H E I hf st hg
    subst hP hw hK
    obtain ⟨⟨old, he⟩, hit, hne⟩ := st
    obtain ⟨xs, x, hq, hx⟩ := hg
    obtain ⟨its, rv, p, hz⟩ := I.tuple hq
    obtain ⟨u, hu, ru⟩ := rv.get hx
    have hl := rv.length
    have hel : e < s.heap.objs.size := Heap.lt_size he
    have hil : it < s.heap.objs.size := by obtain ⟨_, q, _⟩ := hit; exact Heap.lt_size q
    have hp : s.heap.IsTuple a its.toArray := p
    have nai : a ≠ it := fun z => by
      obtain ⟨o, q, c, _⟩ := hit
      obtain ⟨o2, q2, c2, _⟩ := hp
      rw [z, q] at q2; cases q2
      rw [c] at c2; simp at c2
    have nea : e ≠ a := fun z => by
      obtain ⟨o2, q2, c2, _⟩ := hp
      have he2 : s.heap.get? e = some _ := he
      rw [z, q2] at he2
      have z3 := Option.some.inj he2
      rw [z3] at c2; simp at c2
    have hlt : i < its.toArray.size := by
      have := (List.getElem?_eq_some_iff.mp hu).1
      simpa using this
    refine wpAny_pyNext_enum_itemD (Draws.tuple (A := X.A.in1) (show X.A.in1.handled = none from I.ok.hd hc) it a nai its.toArray) he ⟨hit, hp⟩ hlt hne (by simp; exact ⟨hne, nea⟩) fun y h' tk hP ho hst hT hsz hk => ?_
    have hy : y = u := by
      have q : its.toArray[i]? = some y := hP
      rw [show its.toArray[i]? = some u by simpa using hu] at q
      exact (Option.some.inj q).symm
    subst hy
    refine ⟨_, rfl, wpAny_letOwnedTupleGo_enum (s := { s with heap := h', toks := tk + 1 }) ho fun h'' he' sb => ?_⟩
    have hT2 : h''.get? s.heap.objs.size = some { cls := .type "tuple", data := .seq #[.int i tk, y] } := (sb.2 _ (Nat.ne_of_gt hel)).trans hT
    have new : ObjOk X.prog X.w (upd H s.heap.objs.size (.tup [.int (i : Nat), x])) h'' s.heap.objs.size (.tup [.int (i : Nat), x]) :=
      ⟨by show 2 ≤ sizeLine; decide, [.int i tk, y], .cons ⟨_, rfl⟩ (.cons ru .nil), ⟨_, hT2, rfl, _, rfl⟩⟩
    have I1 : Inv X pins σ (upd H s.heap.objs.size (.tup [.int (i : Nat), x])) { s with heap := h'', toks := tk + 1 } :=
      I.turnedNew (ch := [e, it]) (fun b ob hb q => (sb.2 b (fun z => hb (by simp [z]))).trans (hk b ob (fun z => hb (by simp [z])) (fun z => hb (by simp [z])) q)) hf (Nat.le_refl _) new
    refine ⟨.ref s.heap.objs.size, _, I1, rfl, ⟨_, x, rfl, I.hok.fresh (Nat.le_refl _), rfl, fun ys hy => by rw [I.tuple_inj hy hq]; exact hx⟩, ⟨⟨y, ?_⟩, hst.1.at fun o q => (sb.2 it (Ne.symm hne)).trans q, hne⟩, fun b hb => ?_⟩
    · have e1 : ((i + 1 : Nat) : Int) = (i : Int) + 1 := by omega
      rw [e1]; exact he'
    · have hb' : b < s.heap.objs.size := by
        have e' : b = e ∨ b = it := by simpa using hb
        rcases e' with z | z
        · rw [z]; exact hel
        · rw [z]; exact hil
      rw [upd_ne (Nat.ne_of_lt hb')]
      exact (hf b hb).1
  done := by
    intro X hP hw hK hc i pins s σ H E I hf st hg
    subst hP hw hK
    obtain ⟨⟨old, he⟩, hit, hne⟩ := st
    obtain ⟨xs, hq, hx⟩ := hg
    obtain ⟨its, rv, p, hz⟩ := I.tuple hq
    obtain ⟨f0, f1, f2, f3, f4, f5⟩ := hf it (by simp)
    have hl := rv.length
    have hp : s.heap.IsTuple a its.toArray := p
    have nai : a ≠ it := fun z => by
      obtain ⟨o, q, c, _⟩ := hit
      obtain ⟨o2, q2, c2, _⟩ := hp
      rw [z, q] at q2; cases q2
      rw [c] at c2; simp at c2
    have hT : s.TypeIs (.ref e) "enumerate" := ⟨_, he, rfl⟩
    unfold pyNext
    refine wpAny_bind (wpAny_attempt (wpAny_callSpecial?_slot (name := Str.ofString "__next__") hT PySem.F.slot_enumerate_next
      (wpAny_call_entry PySem.F.slot_enumerate_next hT PySem.F.entry_enumerate_next ?_ (PySem.F.args_enumerate_next_1 _))))
    show wpAny _ _ (field (.ref e) 2 >>= _) _ _ _
    refine wpAny_bind (wpAny_field he rfl (x := .ref it) rfl ?_)
    refine wpAny_bind (wpAny_nextOf_tuple_end (show X.A.in1.handled = none from I.ok.hd hc) hit hp (by simp; omega) fun h' x he' hx' => ?_)
    obtain ⟨o, ho, hc2⟩ := hx'
    refine wpAny_bind (wpAny_isInstance (T := "StopIteration") (b := true) ⟨o, ho, hc2⟩ isSubtype_stop ?_)
    exact wpAny_pure ⟨rfl, I.turned (t' := s.toks) (fun b o hb q => he' b o hb q) f0 f1 f3 f4 f5⟩
  self := fun A i s Q E st h => let ⟨⟨_, he⟩, _⟩ := st; wpAny_pyIter_enum he h
/-- enumerate(e), a list or a tuple -/
def iEnumG (K : PySem.W.Frag) (ta : TA) : TI := fun σ H R => ta σ H fun vs H1 => ∃ a xs, vs = [.ref a] ∧ ((SqL K H1 a xs ∧ R (Ite K a) H1) ∨ (SqT K H1 a xs ∧ R (IteT K a) H1))
theorem pi_enumG {X : Cx} {e : Expr} {ta : TA} {p pos tpos : Pos} {elts : List Expr} {kk : Nat} (hg : Gl X "enumerate") (hm : X.mg "enumerate" = none) (ha : PA X [e] ta) (hs : starEach [e] X.env = [(false, eval e X.env)] := by rfl) :
    PI X (.Tuple elts kk tpos) (.Call (.Name "enumerate" p) [e] [] pos) (iEnumG X.K ta) := by
  refine ⟨fun pins s σ H R I h => ?_⟩
  refine Call_ (ld_blt I hg hm boot_enumerate (PyProof.Rows.callWith_type1 (thn (ha.run pos pins s σ H _ I h) fun us s1 ⟨vs, H1, I1, r1, q1⟩ => ?_) hs rfl))
  obtain ⟨a, xs, ex, q⟩ := q1
  subst ex
  cases r1 with
  | cons r rr =>
    cases rr
    cases r
    have fp : ∀ b ∈ ([s1.heap.objs.size + 1, s1.heap.objs.size] : List Addr), FpOk X pins H1 b := fun b hb => by
      have e' : b = s1.heap.objs.size + 1 ∨ b = s1.heap.objs.size := by simpa using hb
      have hle : s1.heap.objs.size ≤ b := by
        rcases e' with z | z
        · rw [z]; exact Nat.le_add_right _ _
        · rw [z]; exact Nat.le_refl _
      exact I1.fpOk hle (I1.hok.fresh hle)
    rcases q with ⟨hq, q⟩ | ⟨hq, q⟩
    · obtain ⟨its, rv, p', hz⟩ := I1.list hq
      refine call_enumerate_list p'.isList fun h' he hit hsz hk => wpAny_pyIter_enum he ?_
      have I2 : Inv X pins σ H1 { s1 with heap := h' } := I1.kept (t' := s1.toks) hk
      exact ⟨s1.heap.objs.size + 1, [s1.heap.objs.size + 1, s1.heap.objs.size], _, _, H1, rfl, I2, turn_enum a (s1.heap.objs.size + 1) s1.heap.objs.size, ⟨⟨.none, he⟩, hit, Nat.succ_ne_self _⟩, fp, q⟩
    · obtain ⟨its, rv, p', hz⟩ := I1.tuple hq
      refine enum_begins1 (begins_tuple a its.toArray) p' fun h' he hit hsz hk => wpAny_pyIter_enum he ?_
      have I2 : Inv X pins σ H1 { s1 with heap := h' } := I1.kept (t' := s1.toks) hk
      exact ⟨s1.heap.objs.size + 1, [s1.heap.objs.size + 1, s1.heap.objs.size], _, _, H1, rfl, I2, turn_enumT a (s1.heap.objs.size + 1) s1.heap.objs.size, ⟨⟨.none, he⟩, ⟨_, hit, rfl, rfl⟩, Nat.succ_ne_self _⟩, fp, q⟩
theorem itOk_eT {K : PySem.W.Frag} {H1 : Hp} {a : Addr} {ds : List D} (st : Lp → Prop) (h : ∀ H L, Kp H1 H → RepH K H L → st L → ∃ vs, SqT K H a vs ∧ RelDs K H ds vs) : ItOk K H1 (IteT K a) (enD 0 ds) st where
  stop := fun i H L k r s hi => by
    obtain ⟨vs, q, rd⟩ := h H L k r s
    rw [enD_len] at hi
    exact ⟨vs, q, by rw [← rd.length]; exact hi⟩
  go := fun i H L k r s hi => by
    obtain ⟨vs, q, rd⟩ := h H L k r s
    rw [enD_len, rd.length] at hi
    obtain ⟨x, e⟩ := get_lt hi
    exact ⟨vs, x, q, e⟩
  yld := fun i H L x H' k r s hi y => by
    obtain ⟨T, y, rfl, hT, rfl, g⟩ := y
    obtain ⟨vs, q, rd⟩ := h H L k r s
    obtain ⟨d, e, rr⟩ := rd.getv (g vs q)
    refine ⟨_, enD_get 0 ds i d e, ?_, Kp.new hT, r.hid hT⟩
    rw [Nat.zero_add]
    exact .tup upd_same (.cons (.int _) (.cons (rr.mono (Kp.new hT)) .nil))
def enG (d : D) (L1 : Lp) (R : List D → (Lp → Prop) → Lp → Prop) : Prop := sqK (seqD d L1) fun ds => R (enD 0 ds) (fun L => seqD d L = some ds) L1
def vEnumG (t : TE') : TI' := fun τ L R => t τ L fun d L1 => enG d L1 R
theorem vEnumG_e {t : TE'} {τ : S'} {L : Lp} {R : List D → (Lp → Prop) → Lp → Prop} : vEnumG t τ L R = t τ L fun d L1 => enG d L1 R := rfl
theorem enG_of {d : D} {L : Lp} {ds : List D} {R : List D → (Lp → Prop) → Lp → Prop} (h : seqD d L = some ds) (q : R (enD 0 ds) (fun L => seqD d L = some ds) L) : enG d L R := by
  unfold enG
  rw [h]
  exact q
theorem i_enumG {X : Cx} {e : Expr} {t : TE'} {p pos tpos : Pos} {elts : List Expr} {kk : Nat} (ha : QE X e t) (hg : Gl X "enumerate") (hm : X.mg "enumerate" = none) (hs : starEach [e] X.env = [(false, eval e X.env)] := by rfl) :
    QI X (.Tuple elts kk tpos) (.Call (.Name "enumerate" p) [e] [] pos) (vEnumG t) := PI.str (pi_enumG hg hm (pa_cons ha pa_nil hs) hs) fun σ H R h => by
  obtain ⟨τ, L, R', a, b, c, k⟩ := h
  refine ⟨τ, L, _, a, b, c, fun d L1 v H1 q kp rh rd => ?_⟩
  unfold enG at q
  cases es : seqD d L1 with
  | none => rw [es] at q; exact q.elim
  | some ds =>
    rw [es, sqK_some] at q
    cases d with
    | tup xs =>
      cases es
      cases rd with
      | tup s r => exact ⟨_, _, rfl, .inr ⟨.inl (.inl s), k _ _ L1 _ H1 q kp rh (itOk_eT _ fun H L k2 _ _ => ⟨_, .inl (.inl (k2.sqt s)), r.mono k2⟩)⟩⟩
    | ilst xs =>
      cases es
      cases rd with
      | ilst s r => exact ⟨_, _, rfl, .inl ⟨s.sql, k _ _ L1 _ H1 q kp rh (itOk_e _ fun H L k2 _ _ => ⟨_, (k2.sqi s).sql, r.mono k2⟩)⟩⟩
    | ref p =>
      obtain ⟨a2, vs, e2, r, h2⟩ := seqL_rel rh rd (show seqL (.ref p) L1 = some ds from es)
      subst e2
      exact ⟨_, vs, rfl, .inl ⟨.inl h2, k _ _ L1 _ H1 q kp rh (itOk_e _ fun H L k2 rh2 e3 => by
        obtain ⟨b2, ws, e4, r4, h4⟩ := seqL_rel rh2 (rd.mono k2) (show seqL (.ref p) L = some ds from e3)
        cases e4
        exact ⟨ws, .inl h4, r4⟩)⟩⟩
    | _ => cases es
end Z

namespace Hd
open PySem PySem.Spec PyProof.Rows L2 Z
abbrev numD (q : Rat) : D := .tup [.int q.num, .int (q.den : Int)]
abbrev C3 : Type := Rat × Rat × Rat
abbrev F3 : Type := Int × Int × Int
abbrev cD (c : C3) : D := .tup [numD c.1, numD c.2.1, numD c.2.2]
abbrev fD (f : F3) : D := .tup [.int f.1, .int f.2.1, .int f.2.2]
/-- small enough for a product -/
def Sm (q : Rat) : Prop := q.num.natAbs < 2 ^ 4000 ∧ q.den < 2 ^ 4000
/-- a number with a denominator that divides d, below b -/
def Wd (d b : Nat) (q : Rat) : Prop := ∃ x : Int, q = mkRat x d ∧ x.natAbs < b
/-- a coordinate -/
abbrev Ok1 (q : Rat) : Prop := Wd 27720 (2 ^ 60) q
def Ok3 (c : C3) : Prop := Ok1 c.1 ∧ Ok1 c.2.1 ∧ Ok1 c.2.2
/-- as it is passed -/
def Hnd (q : Rat) (d : D) : Prop := d = numD q ∨ (q.den = 1 ∧ d = .int q.num)
def HC (c : C3) (d : D) : Prop := ∃ d1 d2 d3, d = .tup [d1, d2, d3] ∧ Hnd c.1 d1 ∧ Hnd c.2.1 d2 ∧ Hnd c.2.2 d3
inductive All2 {α β : Type} (R : α → β → Prop) : List α → List β → Prop where
  | nil : All2 R [] []
  | cons {a : α} {b : β} {as : List α} {bs : List β} : R a b → All2 R as bs → All2 R (a :: as) (b :: bs)
def sp_is_integer : Sp' := fun ds L Q E => match ds with
  | [d] => tyK (tyD d L) fun n => Q (.bl (n == "int")) L
  | _ => False
def sp_lowest : Sp' := fun ds L Q E => match ds with
  | [.int n, .int d] => 0 < d ∧ d.natAbs < 2 ^ 8500 ∧ Q (numD (mkRat n d.toNat)) L
  | _ => False
def sp_exact : Sp' := fun ds L Q E => match ds with
  | [d] => (∃ q : Rat, Hnd q d ∧ q.den < 2 ^ 8500 ∧ Q (numD q) L) ∨ ∃ n e : Int, d = .tup [.int n, .int e] ∧ 0 < e ∧ e.natAbs < 2 ^ 8500 ∧ Q (numD (mkRat n e.toNat)) L
  | _ => False
def InF (m : Int) (f : F3) : Prop := (0 ≤ f.1 ∧ f.1 < m) ∧ (0 ≤ f.2.1 ∧ f.2.1 < m) ∧ (0 ≤ f.2.2 ∧ f.2.2 < m)
abbrev bagO (ns : List Int) (i r m t : Int) : O := .lst [.ilst (ns.map D.int), .int i, .int r, .int m, .int t]
/-- a bag, at most T draws -/
def IsBag (T : Nat) (o : O) : Prop := ∃ (ns : List Int) (i r m t : Int), o = bagO ns i r m t ∧ ns.length < 64 ∧ 0 ≤ i ∧ 0 ≤ r ∧ 0 ≤ m ∧ m < 2 ^ 64 ∧ 0 ≤ t ∧ t ≤ T
def sp_law_draw : Sp' := fun ds L Q E => match ds with
  | [.ref b, .int m] => ∃ o T, L b = some o ∧ IsBag T o ∧ T < 1099511627776 ∧ 0 < m ∧ m < 2 ^ 60 ∧ ∀ (n : Nat) o', (n : Int) < m → IsBag (T + 1) o' → Q (.int n) (up L b o')
  | _ => False
def sp_law_of : Sp' := fun ds L Q E => match ds with
  | [.ref b, d] => ∃ o T xs, L b = some o ∧ IsBag T o ∧ T < 1099511627776 ∧ d = .ilst xs ∧ xs ≠ [] ∧ xs.length < 1000 ∧ ∀ x ∈ xs, ∀ o', IsBag (T + 1) o' → Q x (up L b o')
  | _ => False
def Same : Nat → Lp → D → D → Prop
  | 0, _, _, _ => False
  | n + 1, L, d, e => match d, e with
    | .int i, .int j => i = j
    | .bl i, .bl j => i = j
    | .str i, .str j => i = j
    | .non, .non => True
    | .tup ds, .tup es => ds.length ≤ sizeLine ∧ All2 (Same n L) ds es
    | .ilst ds, .ilst es => ds.length ≤ sizeLine ∧ All2 (Same n L) ds es
    | .ref a, .ilst es => ∃ ds, L a = some (.lst ds) ∧ ds.length ≤ sizeLine ∧ All2 (Same n L) ds es
    | _, _ => False
def sp_law_sameN (n : Nat) : Sp' := fun ds L Q E => match ds with
  | [d, e] => Same n L d e ∧ Q (.bl true) L
  | _ => False
def sp_law_same : Sp' := sp_law_sameN 6
def sp_law_low : Sp' := fun ds L Q E => match ds with
  | [.int n, .int d] => 0 < d ∧ d.natAbs < 2 ^ 8500 ∧ Q (numD (mkRat n d.toNat)) L
  | _ => False
def sp_law_hand : Sp' := fun ds L Q E => match ds with
  | [.ref b, d] => ∃ o T q, L b = some o ∧ IsBag T o ∧ T < 1099511627776 ∧ d = numD q ∧ ∀ e o', Hnd q e → IsBag (T + 1) o' → Q e (up L b o')
  | _ => False
def sp_law_number : Sp' := fun ds L Q E => match ds with
  | [.ref b] => ∃ o T, L b = some o ∧ IsBag T o ∧ T + 9 < 1099511627776 ∧ ∀ q o', Ok1 q → IsBag (T + 9) o' → Q (numD q) (up L b o')
  | _ => False

/-- any value: its depth at most n, its integers small -/
def OkV : Nat → D → Prop
  | _, .non => True
  | _, .bl _ => True
  | _, .str _ => True
  | _, .int i => i.natAbs < 2 ^ 60
  | 0, _ => False
  | n + 1, .tup ds => ds.length ≤ 20 ∧ ∀ d ∈ ds, OkV n d
  | n + 1, .ilst ds => ds.length ≤ 20 ∧ ∀ d ∈ ds, OkV n d
  | _ + 1, _ => False
def isNumD (d : D) : Bool := match d with
  | .int _ => true
  | .tup [.int n, .int e] => decide (0 < e) && decide (Nat.gcd n.natAbs e.natAbs = 1)
  | _ => false
def isCornerD (d : D) : Bool := match d with
  | .tup ds => decide (ds.length = 3) && (ds.map isNumD).all id
  | _ => false
def isIdxD (m : Int) (d : D) : Bool := match d with
  | .int i => decide (0 ≤ i) && decide (i < m)
  | _ => false
def isFaceD (m : Int) (d : D) : Bool := match d with
  | .tup ds => decide (ds.length = 3) && (ds.map (isIdxD m)).all id
  | _ => false
def exN (d : D) : D := match d with
  | .int n => .tup [.int n, .int 1]
  | d => d
def exC (d : D) : D := match d with
  | .tup ds => .tup (ds.map exN)
  | d => d
/-- the first item that is not right, from the index k on -/
def badAt (p : D → Bool) : Nat → List D → Option Nat
  | _, [] => none
  | k, d :: ds => if p d = true then badAt p (k + 1) ds else some k
def badD (cds fds : List D) : Option (Str × Nat) := match badAt isCornerD 0 cds with
  | some i => some ("corner", i)
  | none => (match badAt (isFaceD cds.length) 0 fds with
    | some i => some ("face", i)
    | none => none)
def badT (o : Option (Str × Nat)) : D := match o with
  | some (w, i) => .tup [.str "BadNet", .str w, .int i]
  | none => .tup []
def sp_is_number : Sp' := fun ds L Q E => match ds with
  | [d] => OkV 2 d ∧ Q (.bl (isNumD d)) L
  | _ => False
def sp_is_corner : Sp' := fun ds L Q E => match ds with
  | [d] => OkV 3 d ∧ Q (.bl (isCornerD d)) L
  | _ => False
def sp_is_index : Sp' := fun ds L Q E => match ds with
  | [d, .int m] => OkV 2 d ∧ Q (.bl (isIdxD m d)) L
  | _ => False
def sp_is_face : Sp' := fun ds L Q E => match ds with
  | [d, .int m] => OkV 3 d ∧ Q (.bl (isFaceD m d)) L
  | _ => False
abbrev netD (K : PySem.W.Frag) (cs : List C3) (fs : List F3) : D := .obj (He.ga K "Net") [("corners", .tup (cs.map cD)), ("faces", .tup (fs.map fD))]
/-- lists of items -/
structure Its (a b : D) (L : Lp) (cds fds : List D) : Prop where
  ea : seqD a L = some cds
  eb : seqD b L = some fds
  oc : ∀ d ∈ cds, OkV 3 d
  of : ∀ d ∈ fds, OkV 3 d
  lc : cds.length ≤ 20
  lf : fds.length ≤ 20
def sp_Net_init (K : PySem.W.Frag) : Sp' := fun ds L Q E => match ds with
  | [.ref x, a, b] => ∃ cds fds, Its a b L cds fds ∧ L x = some (.ins (He.ga K "Net") []) ∧ (∀ w i, badD cds fds = some (w, i) → E (He.ga K "BadNet") [("index", .int (i : Nat)), ("word", .str w)] L) ∧
      (badD cds fds = none → Q .non (up L x (.ins (He.ga K "Net") [("corners", .tup (cds.map exC)), ("faces", .tup fds)])))
  | _ => False
def sp_Net_eq (K : PySem.W.Frag) : Sp' := fun ds L Q E => match ds with
  | [d, e] => ∃ cs fs cs' fs', d = netD K cs fs ∧ e = netD K cs' fs' ∧ Q (.bl (decide (cs = cs' ∧ fs = fs'))) L
  | _ => False
/-! the law's -/
def lamT (K : PySem.W.Frag) : List (Addr × Str) := [((He.cT K (("_law_once", none))).2, (envOfC "_law_once" ⟨.function, [], false, false, []⟩ 0 0 .none).qual ++ "<lambda>")]
def sp_law_bag : Sp' := fun ds L Q E => match ds with
  | [d] => ∃ ns : List Int, (d = .ilst (ns.map D.int) ∨ d = .scr ns ∨ ∃ a, d = .ref a ∧ L a = some (.lst (ns.map D.int))) ∧ ∀ b o, L b = none → IsBag 0 o → Q (.ref b) (up L b o)
  | _ => False
def sp_law_is_num : Sp' := fun ds L Q E => match ds with
  | [d] => OkV 2 d ∧ Q (.bl (isNumD d)) L
  | _ => False
def sp_law_handed : Sp' := fun ds L Q E => match ds with
  | [.ref b, d] => ∃ o T cs, L b = some o ∧ IsBag T o ∧ T + 200 < 1099511627776 ∧ d = .ilst (cs.map cD) ∧ cs.length ≤ 40 ∧ ∀ ds o' p, IsBag (T + 200) o' → All2 HC cs ds → L p = none → Q (.ref p) (up (up L b o') p (.lst ds))
  | _ => False
def sp_law_bad : Sp' := fun ds L Q E => match ds with
  | [a, b] => ∃ cds fds, Its a b L cds fds ∧ Q (badT (badD cds fds)) L
  | _ => False
def tlen (d : D) : Nat := match d with
  | .tup ds => ds.length
  | .ilst ds => ds.length
  | _ => 0
def sp_law_bent_corner : Sp' := fun ds L Q E => match ds with
  | [.ref b, d] => ∃ o T ds, L b = some o ∧ IsBag T o ∧ T + 5 < 1099511627776 ∧ d = .tup ds ∧ OkV 3 d ∧ ds.length ≤ 10 ∧ ∀ e o', OkV 3 e → tlen e ≤ ds.length + 1 → IsBag (T + 5) o' → Q e (up L b o')
  | _ => False
def sp_law_bent_face : Sp' := fun ds L Q E => match ds with
  | [.ref b, d, .int m] => ∃ o T ds, L b = some o ∧ IsBag T o ∧ T + 5 < 1099511627776 ∧ d = .tup ds ∧ OkV 3 d ∧ ds.length ≤ 10 ∧ (0 ≤ m ∧ m ≤ 20) ∧ ∀ e o', OkV 3 e → tlen e ≤ ds.length + 1 → IsBag (T + 5) o' → Q e (up L b o')
  | _ => False
def sp_law_any : Sp' := fun ds L Q E => match ds with
  | [.ref b] => ∃ o T, L b = some o ∧ IsBag T o ∧ T + 5 < 1099511627776 ∧ ∀ e o', OkV 3 e → tlen e ≤ 4 → IsBag (T + 5) o' → Q e (up L b o')
  | _ => False
def OkIs (k : Nat) (ds : List D) : Prop := ∀ d ∈ ds, OkV 3 d ∧ tlen d ≤ k
def sp_law_bend : Sp' := fun ds L Q E => match ds with
  | [.ref b, .ref p, .ref q] => ∃ o T k n cds fds, L b = some o ∧ IsBag T o ∧ T + 20 < 1099511627776 ∧ b ≠ p ∧ b ≠ q ∧ p ≠ q ∧ L p = some (.lst cds) ∧ L q = some (.lst fds) ∧ OkIs k cds ∧ OkIs k fds ∧ cds.length ≤ n ∧ fds.length ≤ n ∧ 4 ≤ k ∧ k ≤ 8 ∧ n ≤ 15 ∧
      ∀ cds' fds' o', OkIs (k + 1) cds' → OkIs (k + 1) fds' → cds'.length ≤ n + 1 → fds'.length ≤ n + 1 → IsBag (T + 20) o' → Q .non (up (up (up L b o') p (.lst cds')) q (.lst fds'))
  | _ => False
def sp_law_drawn : Sp' := fun ds L Q E => match ds with
  | [.ref b] => ∃ o T, L b = some o ∧ IsBag T o ∧ T + 300 < 1099511627776 ∧ ∀ (cs : List C3) (fs : List F3) o', cs.length ≤ 8 → fs.length ≤ 7 → (∀ c ∈ cs, Ok3 c) → (∀ f ∈ fs, InF cs.length f) → IsBag (T + 300) o' → Q (.tup [.ilst (cs.map cD), .ilst (fs.map fD)]) (up L b o')
  | _ => False
def sp_law_pair : Sp' := fun ds L Q E => match ds with
  | [d] => isNumD d = true ∧ Q (exN d) L
  | _ => False
def sp_law_once (K : PySem.W.Frag) : Sp' := fun ds L Q E => match ds with
  | [.ref b] => ∃ o T, L b = some o ∧ IsBag T o ∧ T + 3000 < 1099511627776 ∧ TabsAre (lamT K) L ∧ ∀ o', IsBag (T + 3000) o' → Q (.bl true) (up L b o')
  | _ => False
/-- the law -/
def sp_law (K : PySem.W.Frag) : Sp' := fun ds L Q E => match ds with
  | [d] => ∃ ns : List Int, (d = .ilst (ns.map D.int) ∨ d = .scr ns ∨ ∃ a, d = .ref a ∧ L a = some (.lst (ns.map D.int))) ∧ TabsAre (lamT K) L ∧ ∀ L', Q (.bl true) L'
  | _ => False
end Hd

namespace Hd
open PySem PySem.Spec PyProof.Rows L2 Z
def ts_law_try (K : PySem.W.Frag) : TsX := fun aa CC od => (wIfS (wAnd (zTru (wIsE2 K aa CC od (.ref (He.ga K "BadNet")) (wVar 1))) (zTru (wIsE2 K aa CC od (.type "ValueError") (wVar 1)))) (wRet (wTup (wCons (wC (.str "BadNet")) (wCons (wXf K aa CC od "word" (wVar 1)) (wCons (wXf K aa CC od "index" (wVar 1)) wNil))))) wNext)
def tr_law_try (K : PySem.W.Frag) : TS' := (wRet (wTup (wCons (wC (.str "other")) wNil)))
def t_is_integer (K : PySem.W.Frag) : TS' := (wRet (wAndV (wCB (isiW "int") (wCons (wVar 0) (wCons (wC (.ty "int")) wNil))) (wNotV (wCB (isiW "bool") (wCons (wVar 0) (wCons (wC (.ty "bool")) wNil))))))
abbrev RD_is_integer (K : PySem.W.Frag) : Prop := ∀ ds L Q E, sp_is_integer ds L Q E → t_is_integer K { nx := fun _ L1 => Dn (Q .non) L1, rt := fun d L1 => Dn (Q d) L1 } (start' ["value"] ds) L
def t_lowest_1 (K : PySem.W.Frag) : TS' := (wRet (wTup (wCons (wOp fdivD (wVar 0) (wVar 2)) (wCons (wOp fdivD (wVar 1) (wVar 2)) wNil))))
def t_lowest (K : PySem.W.Frag) : TS' := (wSeq (wAsg (wCB gcdD (wCons (wVar 0) (wCons (wVar 1) wNil))) (hName 2))
  (wSeq (wIfS (wB (wOp ltD (wVar 1) (wC (.int 0)))) (wAsg (wUn negD (wVar 2)) (hName 2)) wNext)
  (t_lowest_1 K)))
abbrev RD_lowest (K : PySem.W.Frag) : Prop := ∀ ds L Q E, sp_lowest ds L Q E → t_lowest K { nx := fun _ L1 => Dn (Q .non) L1, rt := fun d L1 => Dn (Q d) L1 } (start' ["n", "d", "shared"] ds) L
def t_exact_3 (K : PySem.W.Frag) : TS' := wNever
def t_exact_2 (K : PySem.W.Frag) : TS' := (wSeq (wIfS (zTru (wCB (isiW "str") (wCons (wVar 0) (wCons (wC (.ty "str")) wNil)))) (wSeq wNever
  (wIfS (wB (wOp (isnD true) (wVar 3) (wC .non))) (wRet (wVar 3)) wNext)) wNext)
  (t_exact_3 K))
def t_exact_1 (K : PySem.W.Frag) : TS' := (wSeq (wIfS (wAnd (zTru (wCB (isiW "tuple") (wCons (wVar 0) (wCons (wC (.ty "tuple")) wNil)))) (wB (wOp (eqD false) (wCB lenD (wCons (wVar 0) wNil)) (wC (.int 2))))) (wSeq (wAsg (wVar 0) (hTup 2 (hCons (hName 1) (hCons (hName 2) hNil))))
  (wIfS (wAnd (zTru (wCall sp_is_integer [] X0 (wCons (wVar 1) wNil))) (wAnd (zTru (wCall sp_is_integer [] X0 (wCons (wVar 2) wNil))) (wB (wOp (eqD true) (wVar 2) (wC (.int 0)))))) (wRet (wCall sp_lowest [] X0 (wCons (wVar 1) (wCons (wVar 2) wNil)))) wNext)) wNext)
  (t_exact_2 K))
def t_exact (K : PySem.W.Frag) : TS' := (wSeq (wIfS (zTru (wCall sp_is_integer [] X0 (wCons (wVar 0) wNil))) (wRet (wTup (wCons (wVar 0) (wCons (wC (.int 1)) wNil)))) wNext)
  (t_exact_1 K))
abbrev RD_exact (K : PySem.W.Frag) : Prop := ∀ ds L Q E, sp_exact ds L Q E → t_exact K { nx := fun _ L1 => Dn (Q .non) L1, rt := fun d L1 => Dn (Q d) L1 } (start' ["value", "n", "d", "found"] ds) L
def t_is_number_3 (K : PySem.W.Frag) : TS' := (wRet (wAndV (wOp gtD (wVar 2) (wC (.int 0))) (wOp (eqD false) (wCB gcdD (wCons (wVar 1) (wCons (wVar 2) wNil))) (wC (.int 1)))))
def t_is_number_2 (K : PySem.W.Frag) : TS' := (wSeq (wAsg (wVar 0) (hTup 2 (hCons (hName 1) (hCons (hName 2) hNil))))
  (wSeq (wIfS (wOr (zNot (zTru (wCall sp_is_integer [] X0 (wCons (wVar 1) wNil)))) (zNot (zTru (wCall sp_is_integer [] X0 (wCons (wVar 2) wNil))))) (wRet (wC (.bl false))) wNext)
  (t_is_number_3 K)))
def t_is_number_1 (K : PySem.W.Frag) : TS' := (wSeq (wIfS (wOr (zNot (zTru (wCB (isiW "tuple") (wCons (wVar 0) (wCons (wC (.ty "tuple")) wNil))))) (wB (wOp (eqD true) (wCB lenD (wCons (wVar 0) wNil)) (wC (.int 2))))) (wRet (wC (.bl false))) wNext)
  (t_is_number_2 K))
def t_is_number (K : PySem.W.Frag) : TS' := (wSeq (wIfS (zTru (wCall sp_is_integer [] X0 (wCons (wVar 0) wNil))) (wRet (wC (.bl true))) wNext)
  (t_is_number_1 K))
abbrev RD_is_number (K : PySem.W.Frag) : Prop := ∀ ds L Q E, sp_is_number ds L Q E → t_is_number K { nx := fun _ L1 => Dn (Q .non) L1, rt := fun d L1 => Dn (Q d) L1 } (start' ["value", "n", "d"] ds) L
def t_is_corner (K : PySem.W.Frag) : TS' := (wRet (wAndV (wCB (isiW "tuple") (wCons (wVar 0) (wCons (wC (.ty "tuple")) wNil))) (wAndV (wOp (eqD false) (wCB lenD (wCons (wVar 0) wNil)) (wC (.int 3))) (wCB (allF fun bs => bs.all id) (wCons (wLcF (vSeq (wVar 0)) (pName 1) wYes (wCall sp_is_number [] X0 (wCons (wVar 1) wNil)) [1]) wNil)))))
abbrev RD_is_corner (K : PySem.W.Frag) : Prop := ∀ ds L Q E, sp_is_corner ds L Q E → t_is_corner K { nx := fun _ L1 => Dn (Q .non) L1, rt := fun d L1 => Dn (Q d) L1 } (start' ["value", "one"] ds) L
def t_is_index (K : PySem.W.Frag) : TS' := (wRet (wAndV (wCB (isiW "int") (wCons (wVar 0) (wCons (wC (.ty "int")) wNil))) (wAndV (wNotV (wCB (isiW "bool") (wCons (wVar 0) (wCons (wC (.ty "bool")) wNil)))) (wChain leD ltD (wC (.int 0)) (wVar 0) (wVar 1)))))
abbrev RD_is_index (K : PySem.W.Frag) : Prop := ∀ ds L Q E, sp_is_index ds L Q E → t_is_index K { nx := fun _ L1 => Dn (Q .non) L1, rt := fun d L1 => Dn (Q d) L1 } (start' ["value", "many"] ds) L
def t_is_face (K : PySem.W.Frag) : TS' := (wRet (wAndV (wCB (isiW "tuple") (wCons (wVar 0) (wCons (wC (.ty "tuple")) wNil))) (wAndV (wOp (eqD false) (wCB lenD (wCons (wVar 0) wNil)) (wC (.int 3))) (wCB (allF fun bs => bs.all id) (wCons (wLcF (vSeq (wVar 0)) (pName 2) wYes (wCall sp_is_index [] X0 (wCons (wVar 2) (wCons (wVar 1) wNil))) [2]) wNil)))))
abbrev RD_is_face (K : PySem.W.Frag) : Prop := ∀ ds L Q E, sp_is_face ds L Q E → t_is_face K { nx := fun _ L1 => Dn (Q .non) L1, rt := fun d L1 => Dn (Q d) L1 } (start' ["value", "many", "one"] ds) L
def t_Net_init_1 (K : PySem.W.Frag) (E' : XK') : TS' := (wIfS (zNot (zTru (wCall sp_is_corner [] X0 (wCons (wVar 4) wNil)))) (wRaiseN E' (He.ga K "BadNet") ["word", "index"] (wCons (wC (.str "corner")) (wCons (wVar 3) wNil))) wNext)
def t_Net_init_3 (K : PySem.W.Frag) (E' : XK') : TS' := (wIfS (zNot (zTru (wCall sp_is_face [] X0 (wCons (wVar 5) (wCons (wCB lenD (wCons (wVar 1) wNil)) wNil))))) (wRaiseN E' (He.ga K "BadNet") ["word", "index"] (wCons (wC (.str "face")) (wCons (wVar 3) wNil))) wNext)
def t_Net_init_4 (K : PySem.W.Frag) (E' : XK') : TS' := (wSeq (wFldS K (wVar 0) (wCB tupleD (wCons (wLcF (vSeq (wVar 1)) (pName 4) wYes (wCB tupleD (wCons (wLcF (vSeq (wVar 4)) (pName 6) wYes (wCall sp_exact [] X0 (wCons (wVar 6) wNil)) [6]) wNil)) [4]) wNil)) "corners")
  (wFldS K (wVar 0) (wCB tupleD (wCons (wVar 2) wNil)) "faces"))
def t_Net_init_2 (K : PySem.W.Frag) (E' : XK') : TS' := (wSeq (wFor (vEnumG (wVar 2)) (hTup 2 (hCons (hName 3) (hCons (hName 5) hNil))) (t_Net_init_3 K E'))
  (t_Net_init_4 K E'))
def t_Net_init (K : PySem.W.Frag) (E' : XK') : TS' := (wSeq (wFor (vEnumG (wVar 1)) (hTup 2 (hCons (hName 3) (hCons (hName 4) hNil))) (t_Net_init_1 K E'))
  (t_Net_init_2 K E'))
abbrev RD_Net_init (K : PySem.W.Frag) : Prop := ∀ ds L Q E', (sp_Net_init K) ds L Q E' → t_Net_init K E' { nx := fun _ L1 => Dn (Q .non) L1, rt := fun d L1 => Dn (Q d) L1 } (start' ["self", "corners", "faces", "at", "corner", "face", "one"] ds) L
def t_Net_eq (K : PySem.W.Frag) : TS' := (wRet (wAndV (wIsO K (.ref (He.ga K "Net")) (wVar 1)) (wAndV (wOp (eqD false) (wFldF K (wVar 0) "corners") (wFldF K (wVar 1) "corners")) (wOp (eqD false) (wFldF K (wVar 0) "faces") (wFldF K (wVar 1) "faces")))))
abbrev RD_Net_eq (K : PySem.W.Frag) : Prop := ∀ ds L Q E, (sp_Net_eq K) ds L Q E → t_Net_eq K { nx := fun _ L1 => Dn (Q .non) L1, rt := fun d L1 => Dn (Q d) L1 } (start' ["self", "other"] ds) L
def t_law_bag_1 (K : PySem.W.Frag) : TS' := (wAsg (wOp modD (wCB intcD (wCons (wOp powD (wOp addF (wOp addF (wVar 1) (wOp modD (wCB intcD (wCons (wVar 2) wNil)) (wC (.int 18446744073709551557)))) (wC (.int 389))) (wC (.int 3))) wNil)) (wC (.int 18446744073709551557))) (hName 1))
def t_law_bag_2 (K : PySem.W.Frag) : TS' := (wRet (wLst (wCons (wCB listF (wCons (wSlF (wVar 0) wNoPart (wPart (wC (.int 63)))) wNil)) (wCons (wC (.int 0)) (wCons (wC (.int 0)) (wCons (wVar 1) (wCons (wC (.int 0)) wNil)))))))
def t_law_bag (K : PySem.W.Frag) : TS' := (wSeq (wAsg (wC (.int 13963)) (hName 1))
  (wSeq (wFor (vSeq (wSlF (wVar 0) wNoPart (wPart (wC (.int 63))))) (hName 2) (t_law_bag_1 K))
  (t_law_bag_2 K)))
abbrev RD_law_bag (K : PySem.W.Frag) : Prop := ∀ ds L Q E, sp_law_bag ds L Q E → t_law_bag K { nx := fun _ L1 => Dn (Q .non) L1, rt := fun d L1 => Dn (Q d) L1 } (start' ["_law_script", "_law_mixed", "_law_cell"] ds) L
def t_law_draw_2 (K : PySem.W.Frag) : TS' := (wSeq (wAsg (wOp modD (wCB intcD (wCons (wOp powD (wOp addF (wOp addF (wIxk 3 (wVar 0)) (wOp mulF (wIxk 4 (wVar 0)) (wC (.int 1000003)))) (wC (.int 31))) (wC (.int 3))) wNil)) (wC (.int 18446744073709551557))) (hSub (wVar 0) (wC (.int 3)) setD))
  (wRet (wOp modD (wCB intcD (wCons (wOp fdivD (wIxk 3 (wVar 0)) (wC (.int 1073741827))) wNil)) (wVar 1))))
def t_law_draw_1 (K : PySem.W.Frag) : TS' := (wSeq (wIfS (wB (wOp gtD (wIxk 2 (wVar 0)) (wC (.int 0)))) (wSeq (wAsg (wOp modD (wCB intcD (wCons (wIxk 2 (wVar 0)) wNil)) (wVar 1)) (hName 3))
  (wSeq (wAsg (wOp fdivD (wCB intcD (wCons (wIxk 2 (wVar 0)) wNil)) (wVar 1)) (hSub (wVar 0) (wC (.int 2)) setD))
  (wRet (wVar 3)))) wNext)
  (t_law_draw_2 K))
def t_law_draw (K : PySem.W.Frag) : TS' := (wSeq (wAsg (wOp addF (wIxk 4 (wVar 0)) (wC (.int 1))) (hSub (wVar 0) (wC (.int 4)) setD))
  (wSeq (wIfS (wAnd (wB (wOp (eqD false) (wIxk 2 (wVar 0)) (wC (.int 0)))) (wB (wOp ltD (wIxk 1 (wVar 0)) (wCB lenD (wCons (wIxk 0 (wVar 0)) wNil))))) (wSeq (wAsg (wCB intcD (wCons (wOp ixD (wIxk 0 (wVar 0)) (wIxk 1 (wVar 0))) wNil)) (hName 2))
  (wSeq (wAsg (wOp addF (wIxk 1 (wVar 0)) (wC (.int 1))) (hSub (wVar 0) (wC (.int 1)) setD))
  (wIfS (wB (wOp geD (wVar 2) (wOp powD (wC (.int 10)) (wC (.int 18))))) (wAsg (wVar 2) (hSub (wVar 0) (wC (.int 2)) setD)) (wAsg (wOp modD (wCB intcD (wCons (wOp powD (wOp addF (wOp addF (wIxk 3 (wVar 0)) (wOp mulF (wOp modD (wCB intcD (wCons (wVar 2) wNil)) (wC (.int 18446744073709551557))) (wC (.int 11)))) (wC (.int 41))) (wC (.int 3))) wNil)) (wC (.int 18446744073709551557))) (hSub (wVar 0) (wC (.int 3)) setD))))) wNext)
  (t_law_draw_1 K)))
abbrev RD_law_draw (K : PySem.W.Frag) : Prop := ∀ ds L Q E, sp_law_draw ds L Q E → t_law_draw K { nx := fun _ L1 => Dn (Q .non) L1, rt := fun d L1 => Dn (Q d) L1 } (start' ["_law_bag_here", "_law_many_y", "_law_cell", "_law_digit"] ds) L
def t_law_of (K : PySem.W.Frag) : TS' := (wRet (wOp ixD (wVar 1) (wCall sp_law_draw [] X0 (wCons (wVar 0) (wCons (wCB lenD (wCons (wVar 1) wNil)) wNil)))))
abbrev RD_law_of (K : PySem.W.Frag) : Prop := ∀ ds L Q E, sp_law_of ds L Q E → t_law_of K { nx := fun _ L1 => Dn (Q .non) L1, rt := fun d L1 => Dn (Q d) L1 } (start' ["_law_bag_here", "_law_things"] ds) L
def t_law_same_1 (K : PySem.W.Frag) (sp_rec : Sp') : TS' := (wRet (wAndV (wOp (eqD false) (wCB lenD (wCons (wVar 0) wNil)) (wCB lenD (wCons (wVar 1) wNil))) (wCB (allF fun bs => bs.all id) (wCons (wLcF (vZip (wVar 0) (wVar 1)) (pTup 2 (pCons (pName 2) (pCons (pName 3) pNil))) wYes (wCall sp_rec [] X0 (wCons (wVar 2) (wCons (wVar 3) wNil))) [2, 3]) wNil))))
def t_law_same_4 (K : PySem.W.Frag) (sp_rec : Sp') : TS' := (wSeq (wIfS (wOr (wB (wOp (eqD true) (wCB (isiW "str") (wCons (wVar 0) (wCons (wC (.ty "str")) wNil))) (wCB (isiW "str") (wCons (wVar 1) (wCons (wC (.ty "str")) wNil))))) (wB (wOp (eqD true) (wCB (isiW "int") (wCons (wVar 0) (wCons (wC (.ty "int")) wNil))) (wCB (isiW "int") (wCons (wVar 1) (wCons (wC (.ty "int")) wNil)))))) (wRet (wC (.bl false))) wNext)
  (wRet (wOp (eqD false) (wVar 0) (wVar 1))))
def t_law_same_3 (K : PySem.W.Frag) (sp_rec : Sp') : TS' := (wSeq (wIfS (wOr (zTru (wCB isi2D (wCons (wVar 0) (wCons (wTup (wCons (wC (.ty "list")) (wCons (wC (.ty "tuple")) wNil))) wNil)))) (wB (wOp (eqD true) (wCB (isiW "bool") (wCons (wVar 0) (wCons (wC (.ty "bool")) wNil))) (wCB (isiW "bool") (wCons (wVar 1) (wCons (wC (.ty "bool")) wNil)))))) (wRet (wC (.bl false))) wNext)
  (t_law_same_4 K sp_rec))
def t_law_same_2 (K : PySem.W.Frag) (sp_rec : Sp') : TS' := (wSeq (wIfS (wOr (wB (wOp (isnD false) (wVar 1) (wC .non))) (wB (wOp (isnD false) (wVar 0) (wC .non)))) (wRet (wAndV (wOp (isnD false) (wVar 1) (wC .non)) (wOp (isnD false) (wVar 0) (wC .non)))) wNext)
  (t_law_same_3 K sp_rec))
def t_law_same (K : PySem.W.Frag) (sp_rec : Sp') : TS' := (wSeq (wIfS (zTru (wCB isi2D (wCons (wVar 1) (wCons (wTup (wCons (wC (.ty "list")) (wCons (wC (.ty "tuple")) wNil))) wNil)))) (wSeq (wIfS (wOr (wB (wOp (eqD true) (wCB (isiW "list") (wCons (wVar 0) (wCons (wC (.ty "list")) wNil))) (wCB (isiW "list") (wCons (wVar 1) (wCons (wC (.ty "list")) wNil))))) (wB (wOp (eqD true) (wCB (isiW "tuple") (wCons (wVar 0) (wCons (wC (.ty "tuple")) wNil))) (wCB (isiW "tuple") (wCons (wVar 1) (wCons (wC (.ty "tuple")) wNil)))))) (wRet (wC (.bl false))) wNext)
  (t_law_same_1 K sp_rec)) wNext)
  (t_law_same_2 K sp_rec))
abbrev RD_law_same (K : PySem.W.Frag) (sp_rec : Sp') (n : Nat) : Prop := ∀ ds L Q E, sp_law_sameN (n + 1) ds L Q E → t_law_same K sp_rec { nx := fun _ L1 => Dn (Q .non) L1, rt := fun d L1 => Dn (Q d) L1 } (start' ["_law_found", "_law_due", "_law_part_a", "_law_part_b"] ds) L
def t_law_low_2 (K : PySem.W.Frag) : TS' := (wPar 2 3 (wCons (wVar 3) (wCons (wOp modD (wCB intcD (wCons (wVar 2) wNil)) (wVar 3)) wNil)))
def t_law_low_3 (K : PySem.W.Frag) : TS' := (wRet (wTup (wCons (wOp fdivD (wVar 0) (wVar 2)) (wCons (wOp fdivD (wVar 1) (wVar 2)) wNil))))
def t_law_low_1 (K : PySem.W.Frag) : TS' := (wSeq (wPar 2 3 (wCons (wCB absD (wCons (wVar 0) wNil)) (wCons (wVar 1) wNil)))
  (wSeq (wWhile (wB (wOp gtD (wVar 3) (wC (.int 0)))) (t_law_low_2 K))
  (t_law_low_3 K)))
def t_law_low (K : PySem.W.Frag) : TS' := (wSeq (wIfS (wB (wOp ltD (wVar 1) (wC (.int 0)))) (wPar 0 1 (wCons (wUn negD (wVar 0)) (wCons (wUn negD (wVar 1)) wNil))) wNext)
  (t_law_low_1 K))
abbrev RD_law_low (K : PySem.W.Frag) : Prop := ∀ ds L Q E, sp_law_low ds L Q E → t_law_low K { nx := fun _ L1 => Dn (Q .non) L1, rt := fun d L1 => Dn (Q d) L1 } (start' ["_law_num", "_law_den", "_law_high", "_law_rest"] ds) L
def t_law_is_num_4 (K : PySem.W.Frag) : TS' := (wRet (wAndV (wOp geD (wIxk 1 (wVar 0)) (wC (.int 1))) (wOp (eqD false) (wCall sp_law_low [] X0 (wCons (wIxk 0 (wVar 0)) (wCons (wIxk 1 (wVar 0)) wNil))) (wVar 0))))
def t_law_is_num_3 (K : PySem.W.Frag) : TS' := (wSeq (wIfS (zNot (zTru (wCB (allF fun bs => bs.all id) (wCons (wLcF (vSeq (wVar 0)) (pName 1) wYes (wAndV (wCB (isiW "int") (wCons (wVar 1) (wCons (wC (.ty "int")) wNil))) (wNotV (wCB (isiW "bool") (wCons (wVar 1) (wCons (wC (.ty "bool")) wNil))))) [1]) wNil)))) (wRet (wC (.bl false))) wNext)
  (t_law_is_num_4 K))
def t_law_is_num_2 (K : PySem.W.Frag) : TS' := (wSeq (wIfS (wOr (zNot (zTru (wCB (isiW "tuple") (wCons (wVar 0) (wCons (wC (.ty "tuple")) wNil))))) (wB (wOp (eqD true) (wCB lenD (wCons (wVar 0) wNil)) (wC (.int 2))))) (wRet (wC (.bl false))) wNext)
  (t_law_is_num_3 K))
def t_law_is_num_1 (K : PySem.W.Frag) : TS' := (wSeq (wIfS (zTru (wCB (isiW "int") (wCons (wVar 0) (wCons (wC (.ty "int")) wNil)))) (wRet (wC (.bl true))) wNext)
  (t_law_is_num_2 K))
def t_law_is_num (K : PySem.W.Frag) : TS' := (wSeq (wIfS (zTru (wCB (isiW "bool") (wCons (wVar 0) (wCons (wC (.ty "bool")) wNil)))) (wRet (wC (.bl false))) wNext)
  (t_law_is_num_1 K))
abbrev RD_law_is_num (K : PySem.W.Frag) : Prop := ∀ ds L Q E, sp_law_is_num ds L Q E → t_law_is_num K { nx := fun _ L1 => Dn (Q .non) L1, rt := fun d L1 => Dn (Q d) L1 } (start' ["_law_p", "_law_part"] ds) L
def t_law_hand (K : PySem.W.Frag) : TS' := (wSeq (wIfS (wAnd (wB (wOp (eqD false) (wIxk 1 (wVar 1)) (wC (.int 1)))) (wB (wOp (eqD false) (wCall sp_law_draw [] X0 (wCons (wVar 0) (wCons (wC (.int 2)) wNil))) (wC (.int 0))))) (wRet (wIxk 0 (wVar 1))) wNext)
  (wRet (wVar 1)))
abbrev RD_law_hand (K : PySem.W.Frag) : Prop := ∀ ds L Q E, sp_law_hand ds L Q E → t_law_hand K { nx := fun _ L1 => Dn (Q .non) L1, rt := fun d L1 => Dn (Q d) L1 } (start' ["_law_bag_here", "_law_p"] ds) L
def t_law_handed (K : PySem.W.Frag) : TS' := (wRet (wLc (vSeq (wVar 1)) (hName 2) wYes (wCB tupleD (wCons (wLcF (vSeq (wVar 2)) (pName 3) wYes (wCall sp_law_hand [] X0 (wCons (wVar 0) (wCons (wVar 3) wNil))) [3]) wNil)) [2]))
abbrev RD_law_handed (K : PySem.W.Frag) : Prop := ∀ ds L Q E, sp_law_handed ds L Q E → t_law_handed K { nx := fun _ L1 => Dn (Q .non) L1, rt := fun d L1 => Dn (Q d) L1 } (start' ["_law_bag_here", "_law_spots", "_law_spot", "_law_p"] ds) L
def t_law_number_2 (K : PySem.W.Frag) : TS' := (wRet (wTup (wCons (wOp subD (wCall sp_law_draw [] X0 (wCons (wVar 0) (wCons (wC (.int 19)) wNil))) (wC (.int 9))) (wCons (wC (.int 1)) wNil))))
def t_law_number_1 (K : PySem.W.Frag) : TS' := (wSeq (wIfS (wB (wOp gtD (wVar 1) (wC (.int 7)))) (wRet (wCall sp_law_low [] X0 (wCons (wOp subD (wCall sp_law_draw [] X0 (wCons (wVar 0) (wCons (wC (.int 121)) wNil))) (wC (.int 60))) (wCons (wOp addF (wC (.int 1)) (wCall sp_law_draw [] X0 (wCons (wVar 0) (wCons (wC (.int 12)) wNil)))) wNil)))) wNext)
  (t_law_number_2 K))
def t_law_number (K : PySem.W.Frag) : TS' := (wSeq (wAsg (wCall sp_law_draw [] X0 (wCons (wVar 0) (wCons (wC (.int 12)) wNil))) (hName 1))
  (wSeq (wIfS (wB (wOp (eqD false) (wVar 1) (wC (.int 11)))) (wRet (wTup (wCons (wOp subD (wCall sp_law_draw [] X0 (wCons (wVar 0) (wCons (wC (.int 2001)) wNil))) (wC (.int 1000))) (wCons (wC (.int 1)) wNil)))) wNext)
  (t_law_number_1 K)))
abbrev RD_law_number (K : PySem.W.Frag) : Prop := ∀ ds L Q E, sp_law_number ds L Q E → t_law_number K { nx := fun _ L1 => Dn (Q .non) L1, rt := fun d L1 => Dn (Q d) L1 } (start' ["_law_bag_here", "_law_way"] ds) L
def t_law_bad_1 (K : PySem.W.Frag) : TS' := (wSeq (wAsg (wOp ixD (wVar 0) (wVar 2)) (hName 3))
  (wIfS (wOr (zNot (zTru (wCB (isiW "tuple") (wCons (wVar 3) (wCons (wC (.ty "tuple")) wNil))))) (wOr (wB (wOp (eqD true) (wCB lenD (wCons (wVar 3) wNil)) (wC (.int 3)))) (zNot (zTru (wCB (allF fun bs => bs.all id) (wCons (wLcF (vSeq (wVar 3)) (pName 5) wYes (wCall sp_law_is_num [] X0 (wCons (wVar 5) wNil)) [5]) wNil)))))) (wRet (wTup (wCons (wC (.str "BadNet")) (wCons (wC (.str "corner")) (wCons (wVar 2) wNil))))) wNext))
def t_law_bad_5 (K : PySem.W.Frag) : TS' := (wIfS (zNot (zTru (wCB (allF fun bs => bs.all id) (wCons (wLcF (vSeq (wVar 3)) (pName 4) wYes (wChain leD ltD (wC (.int 0)) (wVar 4) (wCB lenD (wCons (wVar 0) wNil))) [4]) wNil)))) (wRet (wTup (wCons (wC (.str "BadNet")) (wCons (wC (.str "face")) (wCons (wVar 2) wNil))))) wNext)
def t_law_bad_4 (K : PySem.W.Frag) : TS' := (wSeq (wIfS (zNot (zTru (wCB (allF fun bs => bs.all id) (wCons (wLcF (vSeq (wVar 3)) (pName 4) wYes (wAndV (wCB (isiW "int") (wCons (wVar 4) (wCons (wC (.ty "int")) wNil))) (wNotV (wCB (isiW "bool") (wCons (wVar 4) (wCons (wC (.ty "bool")) wNil))))) [4]) wNil)))) (wRet (wTup (wCons (wC (.str "BadNet")) (wCons (wC (.str "face")) (wCons (wVar 2) wNil))))) wNext)
  (t_law_bad_5 K))
def t_law_bad_3 (K : PySem.W.Frag) : TS' := (wSeq (wAsg (wOp ixD (wVar 1) (wVar 2)) (hName 3))
  (wSeq (wIfS (wOr (zNot (zTru (wCB (isiW "tuple") (wCons (wVar 3) (wCons (wC (.ty "tuple")) wNil))))) (wB (wOp (eqD true) (wCB lenD (wCons (wVar 3) wNil)) (wC (.int 3))))) (wRet (wTup (wCons (wC (.str "BadNet")) (wCons (wC (.str "face")) (wCons (wVar 2) wNil))))) wNext)
  (t_law_bad_4 K)))
def t_law_bad_2 (K : PySem.W.Frag) : TS' := (wSeq (wFor (vRng1 (wCB lenD (wCons (wVar 1) wNil))) (hName 2) (t_law_bad_3 K))
  (wRet (wTup wNil)))
def t_law_bad (K : PySem.W.Frag) : TS' := (wSeq (wFor (vRng1 (wCB lenD (wCons (wVar 0) wNil))) (hName 2) (t_law_bad_1 K))
  (t_law_bad_2 K))
abbrev RD_law_bad (K : PySem.W.Frag) : Prop := ∀ ds L Q E, sp_law_bad ds L Q E → t_law_bad K { nx := fun _ L1 => Dn (Q .non) L1, rt := fun d L1 => Dn (Q d) L1 } (start' ["_law_corner_items", "_law_face_items", "_law_k", "_law_item", "_law_i", "_law_p"] ds) L
def t_law_bent_corner_1 (K : PySem.W.Frag) : TS' := (wSeq (wAsg (wCall sp_law_of [] X0 (wCons (wVar 0) (wCons (wLstF (wCons (wC .non) (wCons (wC (.bl true)) (wCons (wC (.bl false)) (wCons (wC (.str "1")) (wCons (wC (.str "")) (wCons (wTup (wCons (wC (.int 2)) (wCons (wC (.int 4)) wNil))) (wCons (wTup (wCons (wC (.int 1)) (wCons (wC (.int 0)) wNil))) (wCons (wTup (wCons (wC (.int 0)) (wCons (wC (.int 2)) wNil))) (wCons (wTup (wCons (wC (.int 3)) (wCons (wUn negD (wC (.int 1))) wNil))) (wCons (wTup (wCons (wC (.int 1)) wNil)) (wCons (wTup (wCons (wC (.int 1)) (wCons (wC (.int 2)) (wCons (wC (.int 1)) wNil)))) (wCons (wLstF (wCons (wC (.int 1)) (wCons (wC (.int 2)) wNil))) (wCons (wTup (wCons (wC (.bl true)) (wCons (wC (.int 1)) wNil))) (wCons (wTup (wCons (wC (.int 1)) (wCons (wC (.bl true)) wNil))) (wCons (wTup (wCons (wC (.str "1")) (wCons (wC (.int 1)) wNil))) (wCons (wTup (wCons (wTup (wCons (wC (.int 1)) (wCons (wC (.int 1)) wNil))) (wCons (wC (.int 1)) wNil))) (wCons (wTup wNil) (wCons (wLstF wNil) (wCons (wTup (wCons (wC (.int 0)) (wCons (wUn negD (wC (.int 1))) wNil))) (wCons (wTup (wCons (wUn negD (wC (.int 2))) (wCons (wC (.int 2)) wNil))) wNil))))))))))))))))))))) wNil))) (hName 4))
  (wRet (wOp addF (wOp addF (wSlF (wVar 1) wNoPart (wPart (wVar 2))) (wTup (wCons (wVar 4) wNil))) (wSlF (wVar 1) (wPart (wOp addF (wVar 2) (wC (.int 1)))) wNoPart))))
def t_law_bent_corner (K : PySem.W.Frag) : TS' := (wSeq (wPar 2 3 (wCons (wCall sp_law_draw [] X0 (wCons (wVar 0) (wCons (wC (.int 3)) wNil))) (wCons (wCall sp_law_draw [] X0 (wCons (wVar 0) (wCons (wC (.int 16)) wNil))) wNil)))
  (wSeq (wIfS (wB (wOp ltD (wVar 3) (wC (.int 3)))) (wRet (wOp ixD (wLstF (wCons (wCB listF (wCons (wVar 1) wNil)) (wCons (wSlF (wVar 1) wNoPart (wPart (wC (.int 2)))) (wCons (wOp addF (wVar 1) (wTup (wCons (wTup (wCons (wC (.int 1)) (wCons (wC (.int 1)) wNil))) wNil))) wNil)))) (wVar 3))) wNext)
  (t_law_bent_corner_1 K)))
abbrev RD_law_bent_corner (K : PySem.W.Frag) : Prop := ∀ ds L Q E, sp_law_bent_corner ds L Q E → t_law_bent_corner K { nx := fun _ L1 => Dn (Q .non) L1, rt := fun d L1 => Dn (Q d) L1 } (start' ["_law_bag_here", "_law_corner", "_law_at", "_law_way", "_law_odd"] ds) L
def t_law_bent_face_1 (K : PySem.W.Frag) : TS' := (wSeq (wAsg (wCall sp_law_of [] X0 (wCons (wVar 0) (wCons (wLstF (wCons (wC .non) (wCons (wC (.bl true)) (wCons (wC (.bl false)) (wCons (wC (.str "0")) (wCons (wUn negD (wC (.int 1))) (wCons (wVar 2) (wCons (wOp addF (wVar 2) (wC (.int 1))) (wCons (wUn negD (wVar 2)) (wCons (wOp powD (wC (.int 10)) (wC (.int 9))) (wCons (wTup (wCons (wC (.int 0)) wNil)) (wCons (wLstF (wCons (wC (.int 0)) wNil)) (wCons (wC (.str "")) (wCons (wTup wNil) (wCons (wUn negD (wOp powD (wC (.int 10)) (wC (.int 9)))) wNil))))))))))))))) wNil))) (hName 5))
  (wRet (wOp addF (wOp addF (wSlF (wVar 1) wNoPart (wPart (wVar 3))) (wTup (wCons (wVar 5) wNil))) (wSlF (wVar 1) (wPart (wOp addF (wVar 3) (wC (.int 1)))) wNoPart))))
def t_law_bent_face (K : PySem.W.Frag) : TS' := (wSeq (wPar 3 4 (wCons (wCall sp_law_draw [] X0 (wCons (wVar 0) (wCons (wC (.int 3)) wNil))) (wCons (wCall sp_law_draw [] X0 (wCons (wVar 0) (wCons (wC (.int 12)) wNil))) wNil)))
  (wSeq (wIfS (wB (wOp ltD (wVar 4) (wC (.int 3)))) (wRet (wOp ixD (wLstF (wCons (wCB listF (wCons (wVar 1) wNil)) (wCons (wSlF (wVar 1) wNoPart (wPart (wC (.int 2)))) (wCons (wOp addF (wVar 1) (wTup (wCons (wC (.int 0)) wNil))) wNil)))) (wVar 4))) wNext)
  (t_law_bent_face_1 K)))
abbrev RD_law_bent_face (K : PySem.W.Frag) : Prop := ∀ ds L Q E, sp_law_bent_face ds L Q E → t_law_bent_face K { nx := fun _ L1 => Dn (Q .non) L1, rt := fun d L1 => Dn (Q d) L1 } (start' ["_law_bag_here", "_law_face", "_law_many", "_law_at", "_law_way", "_law_odd"] ds) L
def t_law_any (K : PySem.W.Frag) : TS' := (wRet (wCall sp_law_of [] X0 (wCons (wVar 0) (wCons (wLstF (wCons (wC .non) (wCons (wC (.bl true)) (wCons (wC (.bl false)) (wCons (wC (.int 0)) (wCons (wC (.int 7)) (wCons (wC (.str "")) (wCons (wC (.str "corner")) (wCons (wTup wNil) (wCons (wLstF wNil) (wCons (wTup (wCons (wC (.int 0)) (wCons (wC (.int 0)) wNil))) (wCons (wTup (wCons (wC (.int 0)) (wCons (wC (.int 0)) (wCons (wC (.int 0)) wNil)))) (wCons (wLstF (wCons (wC (.int 0)) (wCons (wC (.int 0)) (wCons (wC (.int 0)) wNil)))) (wCons (wTup (wCons (wC (.int 1)) (wCons (wC (.int 2)) (wCons (wC (.int 3)) wNil)))) (wCons (wC (.str "abc")) (wCons (wTup (wCons (wTup (wCons (wC (.int 1)) (wCons (wC (.int 2)) wNil))) (wCons (wTup (wCons (wC (.int 1)) (wCons (wC (.int 3)) wNil))) (wCons (wTup (wCons (wC (.int 1)) (wCons (wC (.int 4)) wNil))) wNil)))) (wCons (wTup (wCons (wC (.int 0)) (wCons (wC (.int 0)) (wCons (wC (.int 0)) (wCons (wC (.int 0)) wNil))))) (wCons (wTup (wCons (wTup (wCons (wC (.int 1)) (wCons (wC (.int 2)) wNil))) (wCons (wTup (wCons (wC (.int 2)) (wCons (wC (.int 4)) wNil))) (wCons (wC (.int 0)) wNil)))) (wCons (wTup (wCons (wC (.bl false)) (wCons (wC (.int 0)) (wCons (wC (.int 0)) wNil)))) (wCons (wTup (wCons (wC (.int 0)) (wCons (wC (.int 0)) (wCons (wUn negD (wC (.int 1))) wNil)))) wNil)))))))))))))))))))) wNil))))
abbrev RD_law_any (K : PySem.W.Frag) : Prop := ∀ ds L Q E, sp_law_any ds L Q E → t_law_any K { nx := fun _ L1 => Dn (Q .non) L1, rt := fun d L1 => Dn (Q d) L1 } (start' ["_law_bag_here"] ds) L
def t_law_bend (K : PySem.W.Frag) : TS' := (wSeq (wAsg (wCB lenD (wCons (wVar 1) wNil)) (hName 3))
  (wSeq (wAsg (wIf (wB (wOp ltD (wCall sp_law_draw [] X0 (wCons (wVar 0) (wCons (wC (.int 5)) wNil))) (wC (.int 2)))) (wTup (wCons (wVar 1) (wCons (wC (.str "corner")) wNil))) (wTup (wCons (wVar 2) (wCons (wC (.str "face")) wNil)))) (hTup 2 (hCons (hName 4) (hCons (hName 5) hNil))))
  (wSeq (wAsg (wCall sp_law_draw [] X0 (wCons (wVar 0) (wCons (wOp addF (wCB lenD (wCons (wVar 4) wNil)) (wC (.int 1))) wNil))) (hName 6))
  (wIfS (wOr (wB (wOp (eqD false) (wVar 6) (wCB lenD (wCons (wVar 4) wNil)))) (wB (wOp (eqD false) (wCall sp_law_draw [] X0 (wCons (wVar 0) (wCons (wC (.int 5)) wNil))) (wC (.int 0))))) (wDrop (wBM "list" insertD (wVar 4) (wCons (wVar 6) (wCons (wCall sp_law_any [] X0 (wCons (wVar 0) wNil)) wNil)))) (wIfS (zNot (zTru (wCB (isiW "tuple") (wCons (wOp ixD (wVar 4) (wVar 6)) (wCons (wC (.ty "tuple")) wNil))))) (wAsg (wCall sp_law_any [] X0 (wCons (wVar 0) wNil)) (hSub (wVar 4) (wVar 6) setD)) (wIfS (wB (wOp (eqD false) (wVar 5) (wC (.str "corner")))) (wAsg (wCall sp_law_bent_corner [] X0 (wCons (wVar 0) (wCons (wOp ixD (wVar 4) (wVar 6)) wNil))) (hSub (wVar 4) (wVar 6) setD)) (wAsg (wCall sp_law_bent_face [] X0 (wCons (wVar 0) (wCons (wOp ixD (wVar 4) (wVar 6)) (wCons (wVar 3) wNil)))) (hSub (wVar 4) (wVar 6) setD))))))))
abbrev RD_law_bend (K : PySem.W.Frag) : Prop := ∀ ds L Q E, sp_law_bend ds L Q E → t_law_bend K { nx := fun _ L1 => Dn (Q .non) L1, rt := fun d L1 => Dn (Q d) L1 } (start' ["_law_bag_here", "_law_corner_items", "_law_face_items", "_law_many", "_law_items", "_law_word", "_law_at"] ds) L
def t_law_drawn_1 (K : PySem.W.Frag) : TS' := (wIfS (wB (wOp (eqD false) (wCall sp_law_draw [] X0 (wCons (wVar 0) (wCons (wC (.int 8)) wNil))) (wC (.int 0)))) (wAsg (wOp ixD (wVar 2) (wCall sp_law_draw [] X0 (wCons (wVar 0) (wCons (wVar 3) wNil)))) (hSub (wVar 2) (wVar 3) setD)) wNext)
def t_law_drawn_3 (K : PySem.W.Frag) : TS' := (wIfS (wB (wOp gtD (wVar 1) (wC (.int 0)))) (wDrop (wBM "list" appendD (wVar 4) (wCons (wTup (wCons (wCall sp_law_draw [] X0 (wCons (wVar 0) (wCons (wVar 1) wNil))) (wCons (wCall sp_law_draw [] X0 (wCons (wVar 0) (wCons (wVar 1) wNil))) (wCons (wCall sp_law_draw [] X0 (wCons (wVar 0) (wCons (wVar 1) wNil))) wNil)))) wNil))) wNext)
def t_law_drawn_2 (K : PySem.W.Frag) : TS' := (wSeq (wAsg (wLst wNil) (hName 4))
  (wSeq (wFor (vRng1 (wCall sp_law_draw [] X0 (wCons (wVar 0) (wCons (wC (.int 8)) wNil)))) (hName 3) (t_law_drawn_3 K))
  (wRet (wTup (wCons (wFz (wVar 2)) (wCons (wFz (wVar 4)) wNil))))))
def t_law_drawn (K : PySem.W.Frag) : TS' := (wSeq (wAsg (wCall sp_law_of [] X0 (wCons (wVar 0) (wCons (wLstF (wCons (wC (.int 4)) (wCons (wC (.int 3)) (wCons (wC (.int 5)) (wCons (wC (.int 6)) (wCons (wC (.int 1)) (wCons (wC (.int 2)) (wCons (wC (.int 8)) (wCons (wC (.int 0)) (wCons (wC (.int 4)) (wCons (wC (.int 3)) (wCons (wC (.int 7)) wNil)))))))))))) wNil))) (hName 1))
  (wSeq (wAsg (wLc (vRng1 (wVar 1)) (hName 3) wYes (wTup (wCons (wCall sp_law_number [] X0 (wCons (wVar 0) wNil)) (wCons (wCall sp_law_number [] X0 (wCons (wVar 0) wNil)) (wCons (wCall sp_law_number [] X0 (wCons (wVar 0) wNil)) wNil)))) [3]) (hName 2))
  (wSeq (wFor (vRng2 (wC (.int 1)) (wVar 1)) (hName 3) (t_law_drawn_1 K))
  (t_law_drawn_2 K))))
abbrev RD_law_drawn (K : PySem.W.Frag) : Prop := ∀ ds L Q E, sp_law_drawn ds L Q E → t_law_drawn K { nx := fun _ L1 => Dn (Q .non) L1, rt := fun d L1 => Dn (Q d) L1 } (start' ["_law_bag_here", "_law_many", "_law_cs", "_law_k", "_law_fs"] ds) L
def t_law_pair (K : PySem.W.Frag) : TS' := (wRet (wIf (zTru (wCB (isiW "int") (wCons (wVar 0) (wCons (wC (.ty "int")) wNil)))) (wTup (wCons (wVar 0) (wCons (wC (.int 1)) wNil))) (wVar 0)))
abbrev RD_law_pair (K : PySem.W.Frag) : Prop := ∀ ds L Q E, sp_law_pair ds L Q E → t_law_pair K { nx := fun _ L1 => Dn (Q .non) L1, rt := fun d L1 => Dn (Q d) L1 } (start' ["_law_p"] ds) L
def t_law_once_5 (K : PySem.W.Frag) : TS' := (wDrop (wCall sp_law_bend [] X0 (wCons (wVar 0) (wCons (wVar 13) (wCons (wVar 14) wNil)))))
def t_law_once_8 (K : PySem.W.Frag) : TS' := (wSeq (wAsg (wCB tupleD (wCons (wLcF (vSeq (wVar 13)) (pName 18) wYes (wCB tupleD (wCons (wLcF (vSeq (wVar 18)) (pName 19) wYes (wCall sp_law_pair [] X0 (wCons (wVar 19) wNil)) [19]) wNil)) [18]) wNil)) (hName 17))
  (wRet (wCall sp_law_same [] X0 (wCons (wLstF (wCons (wFldF K (wIxk 1 (wVar 15)) "corners") (wCons (wFldF K (wIxk 1 (wVar 15)) "faces") wNil))) (wCons (wLstF (wCons (wVar 17) (wCons (wCB tupleD (wCons (wVar 14) wNil)) wNil))) wNil)))))
def t_law_once_7 (K : PySem.W.Frag) : TS' := (wSeq (wIfS (wB (wOp (eqD true) (wIxk 0 (wVar 15)) (wC (.str "")))) (wRet (wC (.bl false))) wNext)
  (t_law_once_8 K))
def t_law_once_6 (K : PySem.W.Frag) : TS' := (wSeq (wAsg (wLam (lamT K) K (He.ga K "Refused") (ts_law_try K) (tr_law_try K) (fun E' => wMake (He.ga K "Net") (sp_Net_init K) E' (wCons (wVar 13) (wCons (wVar 14) wNil)))) (hName 15))
  (wSeq (wAsg (wCall sp_law_bad [] X0 (wCons (wVar 13) (wCons (wVar 14) wNil))) (hName 16))
  (wSeq (wIfS (wB (wOp (eqD true) (wVar 16) (wTup wNil))) (wRet (wAndV (wCall sp_law_same [] X0 (wCons (wVar 15) (wCons (wVar 16) wNil))) (wAndV (wCall sp_law_same [] X0 (wCons (wFldF K (wFz (wMake (He.ga K "Net") (sp_Net_init K) X0 (wCons (wVar 1) (wCons (wVar 2) wNil)))) "corners") (wCons (wCB tupleD (wCons (wVar 1) wNil)) wNil))) (wOp (ownEqD (He.ga K "Net") (sp_Net_eq K)) (wVar 6) (wVar 7))))) wNext)
  (t_law_once_7 K))))
def t_law_once_4 (K : PySem.W.Frag) : TS' := (wSeq (wAsg (wTup (wCons (wCB listD (wCons (wVar 1) wNil)) (wCons (wCB listD (wCons (wVar 2) wNil)) wNil))) (hTup 2 (hCons (hName 13) (hCons (hName 14) hNil))))
  (wSeq (wFor (vRng1 (wOp addF (wC (.int 1)) (wCall sp_law_draw [] X0 (wCons (wVar 0) (wCons (wC (.int 2)) wNil))))) (hName 11) (t_law_once_5 K))
  (t_law_once_6 K)))
def t_law_once_3 (K : PySem.W.Frag) : TS' := (wSeq (wAsg (wFz (wMake (He.ga K "Net") (sp_Net_init K) X0 (wCons (wVar 8) (wCons (wVar 9) wNil)))) (hName 12))
  (wSeq (wIfS (zNot (zTru (wCall sp_law_same [] X0 (wCons (wOp (ownEqD (He.ga K "Net") (sp_Net_eq K)) (wVar 6) (wVar 12)) (wCons (wAndV (wOp (eqD false) (wVar 8) (wVar 1)) (wOp (eqD false) (wVar 9) (wVar 2))) wNil))))) (wRet (wC (.bl false))) wNext)
  (t_law_once_4 K)))
def t_law_once_2 (K : PySem.W.Frag) : TS' := (wSeq (wPar 8 9 (wCons (wCB listD (wCons (wVar 1) wNil)) (wCons (wCB listD (wCons (wVar 2) wNil)) wNil)))
  (wSeq (wIfS (wAnd (wB (wOp gtD (wCB lenD (wCons (wVar 1) wNil)) (wC (.int 0)))) (wB (wOp (eqD false) (wCall sp_law_draw [] X0 (wCons (wVar 0) (wCons (wC (.int 2)) wNil))) (wC (.int 0))))) (wSeq (wPar 10 11 (wCons (wCall sp_law_draw [] X0 (wCons (wVar 0) (wCons (wCB lenD (wCons (wVar 1) wNil)) wNil))) (wCons (wCall sp_law_draw [] X0 (wCons (wVar 0) (wCons (wC (.int 3)) wNil))) wNil)))
  (wAsg (wOp addF (wOp addF (wSlF (wOp ixD (wVar 1) (wVar 10)) wNoPart (wPart (wVar 11))) (wTup (wCons (wCall sp_law_number [] X0 (wCons (wVar 0) wNil)) wNil))) (wSlF (wOp ixD (wVar 1) (wVar 10)) (wPart (wOp addF (wVar 11) (wC (.int 1)))) wNoPart)) (hSub (wVar 8) (wVar 10) setD))) (wIfS (wB (wOp gtD (wCB lenD (wCons (wVar 2) wNil)) (wC (.int 0)))) (wSeq (wAsg (wCall sp_law_draw [] X0 (wCons (wVar 0) (wCons (wCB lenD (wCons (wVar 2) wNil)) wNil))) (hName 10))
  (wAsg (wOp addF (wSlF (wOp ixD (wVar 2) (wVar 10)) (wPart (wC (.int 1))) wNoPart) (wSlF (wOp ixD (wVar 2) (wVar 10)) wNoPart (wPart (wC (.int 1))))) (hSub (wVar 9) (wVar 10) setD))) wNext))
  (t_law_once_3 K)))
def t_law_once_1 (K : PySem.W.Frag) : TS' := (wSeq (wAsg (wFz (wMakeK (He.ga K "Net") (sp_Net_init K) List.reverse X0 (wCons (wCB listF (wCons (wVar 2) wNil)) (wCons (wFz (wCall sp_law_handed [] X0 (wCons (wVar 0) (wCons (wVar 1) wNil)))) wNil)))) (hName 7))
  (wSeq (wDrop (wBM "list" insertD (wVar 4) (wCons (wC (.int 0)) (wCons (wTup (wCons (wC (.int 5)) (wCons (wC (.int 5)) (wCons (wC (.int 5)) wNil)))) wNil))))
  (wSeq (wDrop (wBM "list" appendD (wVar 5) (wCons (wTup (wCons (wC (.int 0)) (wCons (wC (.int 0)) (wCons (wC (.int 0)) wNil)))) wNil)))
  (wSeq (wIfS (zNot (zTru (wCall sp_law_same [] X0 (wCons (wLstF (wCons (wFldF K (wVar 6) "corners") (wCons (wFldF K (wVar 6) "faces") (wCons (wOp (ownEqD (He.ga K "Net") (sp_Net_eq K)) (wVar 6) (wVar 7)) (wCons (wOp (ownEqD (He.ga K "Net") (sp_Net_eq K)) (wVar 7) (wVar 6)) wNil))))) (wCons (wOp addF (wVar 3) (wLstF (wCons (wC (.bl true)) (wCons (wC (.bl true)) wNil)))) wNil))))) (wRet (wC (.bl false))) wNext)
  (t_law_once_2 K)))))
def t_law_once (K : PySem.W.Frag) : TS' := (wSeq (wAsg (wCall sp_law_drawn [] X0 (wCons (wVar 0) wNil)) (hTup 2 (hCons (hName 1) (hCons (hName 2) hNil))))
  (wSeq (wAsg (wLstF (wCons (wCB tupleD (wCons (wVar 1) wNil)) (wCons (wCB tupleD (wCons (wVar 2) wNil)) wNil))) (hName 3))
  (wSeq (wPar 4 5 (wCons (wCall sp_law_handed [] X0 (wCons (wVar 0) (wCons (wVar 1) wNil))) (wCons (wCB listD (wCons (wVar 2) wNil)) wNil)))
  (wSeq (wAsg (wIf (wB (wOp (eqD false) (wCall sp_law_draw [] X0 (wCons (wVar 0) (wCons (wC (.int 4)) wNil))) (wC (.int 0)))) (wFz (wMake (He.ga K "Net") (sp_Net_init K) X0 (wCons (wCB tupleD (wCons (wVar 4) wNil)) (wCons (wCB tupleD (wCons (wVar 5) wNil)) wNil)))) (wFz (wMake (He.ga K "Net") (sp_Net_init K) X0 (wCons (wVar 4) (wCons (wVar 5) wNil))))) (hName 6))
  (wSeq (wIfS (zNot (zTru (wCall sp_law_same [] X0 (wCons (wLstF (wCons (wFldF K (wVar 6) "corners") (wCons (wFldF K (wVar 6) "faces") wNil))) (wCons (wVar 3) wNil))))) (wRet (wC (.bl false))) wNext)
  (t_law_once_1 K))))))
abbrev RD_law_once (K : PySem.W.Frag) : Prop := ∀ ds L Q E, (sp_law_once K) ds L Q E → t_law_once K { nx := fun _ L1 => Dn (Q .non) L1, rt := fun d L1 => Dn (Q d) L1 } (start' ["_law_bag_here", "_law_cs", "_law_fs", "_law_due", "_law_given_a", "_law_given_b", "_law_solid", "_law_twin", "_law_other_cs", "_law_other_fs", "_law_at", "_law_k", "_law_third", "_law_corner_items", "_law_face_items", "_law_found", "_law_bad_here", "_law_right", "_law_item", "_law_p"] ds) L
def t_law_1 (K : PySem.W.Frag) : TS' := (wIfS (zNot (zTru (wCall (sp_law_once K) [] X0 (wCons (wVar 1) wNil)))) (wRet (wC (.bl false))) wNext)
def t_law (K : PySem.W.Frag) : TS' := (wSeq (wAsg (wCall sp_law_bag [] X0 (wCons (wVar 0) wNil)) (hName 1))
  (wSeq (wFor (vRng1 (wC (.int 2))) (hName 2) (t_law_1 K))
  (wRet (wC (.bl true)))))
abbrev RD_law (K : PySem.W.Frag) : Prop := ∀ ds L Q E, (sp_law K) ds L Q E → t_law K { nx := fun _ L1 => Dn (Q .non) L1, rt := fun d L1 => Dn (Q d) L1 } (start' ["_law_script", "_law_bag_here", "_law_turn"] ds) L
end Hd

set_option exponentiation.threshold 20000
open PySem PySem.Spec PyProof.Rows L2 Z
namespace Hd
local macro_rules | `(tactic| walk_at "st") => `(tactic| simp (implicitDefEqProofs := false) only [↓seqD_up, ↓seqL_up, ↓len_ilst, ↓len_up, ↓truD_ilst, up_up, List.length_map, ↓wFor_m, ↓frzK_up, ↓frzK_upi, ↓wFz_e, ↓wFg_e, ↓wLstF_e, ↓addF_int, ↓addF_l, ↓addF_tup, ↓addF_str, ↓mulF_int, ↓mulF_l, ↓wSlF_e, ↓slF_tup, ↓slF_str, ↓slF_l, ↓slF_scr, ↓slF_ref, ↓listF_eq, ↓listdF_eq, ↓sortedF_eq, ↓allF_eq, ↓sumF_eq, ↓extF_eq, ↓vEnumF_e, ↓enF_l, ↓fldF_obj, ↓fldF_ref, ↓wFldF_e, ↓wLcF_e, ↓pName_e, ↓pNil_e, ↓pCons_e, ↓pTup_e, ↓gK_some, ↓obind_e, ↓seqL_ilst, ↓addM_eq, ↓sq2_some, ↓wVar_0, ↓wVar_s, ↓hNil_e, ↓hCons_e, ↓wDget_e, ↓wDget2_e, ↓wDput_m, ↓wSortIt_e, ↓wMake_e, ↓wIfS_m, ↓wSeq_m, ↓wAsg_m, ↓hName_e, ↓wC_e, ↓wNil_e, ↓wCons_e, ↓wTup_e, ↓wLst_e, ↓wOp_e, ↓wUn_e, ↓wIf_e, ↓wAndV_e, ↓wOrV_e, ↓wNotV_e, ↓wB_e, ↓wAnd_e, ↓wOr_e, ↓zNot_e, ↓zTru_e, ↓hCons_e, ↓hTup_e, ↓hSub_e, ↓wNext_m, ↓wDrop_m, ↓wRet_m, ↓wRetN_m, ↓wPar_m, ↓wCB_e, ↓wCall_e, ↓wIxk_e, ↓wSl_e, ↓wNoPart_e, ↓wPart_e, ↓wBM_e, ↓wBM0_e, ↓wChain_e, ↓wNever_e, ↓vSeq_e, ↓vEnum_e, ↓vRng1_e, ↓vRng2_e, vZip, ↓blK_bl, ↓tupK_tup, ↓pairK_2, ↓inK_int, ↓truD_bl, ↓truD_int, ↓truD_non, ↓truD_tup, ↓isn_non, ↓isn_int, ↓isn_bl, ↓isn_str, ↓isn_tup, ↓isn_ref, ↓Z.add_int, ↓add_tup, ↓add_ref, ↓intD_eq, ↓intD0_eq, ↓Z.mul_int, ↓Z.eq_int, ↓Z.ne_int, ↓Z.eq_bl, ↓ne_bl, ↓Z.eq_str, ↓Z.ne_str, ↓eq_non, ↓eq_tup, ↓eq_ref, ↓Z.neg_int, ↓seq_tup, ↓seq_ilst, ↓Z.ix_tup, ↓ix_int, ↓sqK_some, ↓ixK_0, ↓ixK_s, ↓tyK_some, ↓ty_non, ↓ty_bl, ↓ty_int, ↓ty_str, ↓ty_tup, ↓ty_ilst, ↓isi_eq, ↓isi2_eq, isiW, ↓len_tup, ↓intc_int, ↓abs_int, ↓gcd_int, ↓list_seq, ↓tuple_seq, ↓all_ref, ↓sum_ref, ↓Z.sl_tup, ↓sl_ilst, ↓sl_ref, ↓walk_tup, ↓walk_ilst, ↓walk_ref, ↓en_ref, start', List.map_cons, List.map_nil, List.cons_append, List.nil_append, List.append_nil, List.length_cons, List.length_nil, List.replicate, List.set_cons_zero, List.set_cons_succ, List.set_nil, List.getElem?_cons_zero, List.getElem?_cons_succ, wipeD, Nat.zero_add, Nat.reduceAdd, Nat.reduceSub, Nat.sub_self, Nat.sub_zero, true_and, and_true, if_true, if_false, Bool.not_true, Bool.not_false, ite_true, ite_false, Bool.false_eq_true, decide_true, decide_false, decide_eq_true_eq, Int.cast_ofNat_Int, reduceIte, Bool.not_eq_true', decide_eq_false_iff_not, Bool.and_true, Bool.true_and, Bool.and_false, Bool.false_and, Bool.or_true, Bool.true_or, Bool.or_false, Bool.false_or, beq_self_eq_true, bne_self_eq_false, not_true_eq_false, not_false_eq_true, String.reduceBEq, String.reduceBNe, Int.reduceToNat, Bool.true_eq_false, reduceCtorEq, Int.reduceEq, Int.reduceLT, Int.reduceLE, gt_iff_lt, ge_iff_le, ↓wBreak_m, ↓wCont_m, ↓wPar3_m, trioK_3, ↓wFldS_m, ↓wFld_e, ↓wChain_e, ↓wLam_e, ↓wIsE_e, ↓wRaise0_e, ↓wCallX_e, ↓wCallKX_e, ↓wYes_e, ↓wCallK_e, isDct_eq, dkK_eq, ↓wDnewT_e])
local macro_rules | `(tactic| walk_at "go") => `(tactic| ((first | with_reducible refine hld_i ?_ | skip); try walk_at "st"))
local macro_rules | `(tactic| walk_at "sx") => `(tactic| ((try simp only [sp_is_integer, sp_lowest, sp_exact, sp_law_draw, sp_law_of, sp_law_same, sp_law_low, sp_law_hand, sp_law_number, sp_is_number, sp_is_corner, sp_is_index, sp_is_face, sp_Net_init, sp_Net_eq, sp_law_bag, sp_law_is_num, sp_law_handed, sp_law_bad, sp_law_bent_corner, sp_law_bent_face, sp_law_any, sp_law_bend, sp_law_drawn, sp_law_pair]); try walk_at "st"))
local macro_rules | `(tactic| walk_at "s0") => `(tactic| simp (implicitDefEqProofs := false) only [start', List.map_cons, List.map_nil, List.length_cons, List.length_nil, Nat.zero_add, Nat.reduceAdd, Nat.reduceSub, List.replicate, List.cons_append, List.nil_append])
local macro_rules | `(tactic| walk_at "rr") => `(tactic| repeat (first | with_reducible refine hld_i ?_ | walk_at "st"))
local macro_rules | `(tactic| walk_at "rx") => `(tactic| repeat (first | with_reducible refine hld_i ?_ | walk_at "st" | simp only [sp_is_integer, sp_lowest, sp_exact, sp_law_draw, sp_law_of, sp_law_same, sp_law_low, sp_law_hand, sp_law_number, sp_is_number, sp_is_corner, sp_is_index, sp_is_face, sp_Net_init, sp_Net_eq, sp_law_bag, sp_law_is_num, sp_law_handed, sp_law_bad, sp_law_bent_corner, sp_law_bent_face, sp_law_any, sp_law_bend, sp_law_drawn, sp_law_pair]))
local macro_rules | `(tactic| walk_at "dw") => `(tactic| (refine draw (by first | exact up_same | assumption) (by assumption) (by omega) (by omega) (by omega) ?_))

variable {K : PySem.W.Frag}
theorem mk_num {n : Int} {d : Nat} (hd : d ≠ 0) : (mkRat n d).num = n / ((Nat.gcd n.natAbs d : Nat) : Int) := by
  rw [Rat.num_mkRat, if_neg hd, Nat.gcd_comm]
theorem mk_den {n : Int} {d : Nat} (hd : d ≠ 0) : (((mkRat n d).den : Nat) : Int) = (d : Int) / ((Nat.gcd n.natAbs d : Nat) : Int) := by
  rw [Rat.den_mkRat, if_neg hd, Nat.gcd_comm]
  simp
theorem numD_mk {n d : Int} (hd : 0 < d) : numD (mkRat n d.toNat) = .tup [.int (n / ((Nat.gcd n.natAbs d.natAbs : Nat) : Int)), .int (d / ((Nat.gcd n.natAbs d.natAbs : Nat) : Int))] := by
  obtain ⟨m, rfl⟩ : ∃ m : Nat, d = m := ⟨d.toNat, by omega⟩
  have hm : m ≠ 0 := by omega
  unfold numD
  rw [Int.toNat_natCast, Int.natAbs_natCast, mk_num hm, mk_den hm]
theorem gcd_div {n d : Int} (hd : 0 < d) (hb : d.natAbs < 2 ^ 8500) (x : Int) : CDivW x ((Nat.gcd n.natAbs d.natAbs : Nat) : Int) := by
  have g0 : 0 < n.natAbs.gcd d.natAbs := Nat.gcd_pos_of_pos_right _ (by omega)
  refine wide_div (b := 8500) (by omega) ?_ (by decide) (by decide)
  rw [Int.natAbs_natCast]
  exact Nat.lt_of_le_of_lt (Nat.gcd_le_right _ (by omega)) hb
theorem rd_is_integer : RD_is_integer K := by
  intro ds L Q E h
  unfold sp_is_integer at h
  split at h
  · rename_i d
    unfold t_is_integer
    walk_at "st"
    cases e : tyD d L with
    | none => rw [e] at h; exact h.elim
    | some n =>
      rw [e] at h
      walk_at "st"
      have h : Q (.bl (n == "int")) L := h
      by_cases c1 : n = "int"
      · subst c1; exact .mk h
      · by_cases c2 : n = "bool"
        · subst c2; exact .mk h
        · have e1 : (n == "int") = false := by simp [c1]
          have e2 : (n == "bool") = false := by simp [c2]
          simp only [e1, e2] at h ⊢
          exact .mk h
  · exact h.elim
theorem rd_lowest : RD_lowest K := by
  intro ds L Q E h
  unfold sp_lowest at h
  split at h
  · rename_i n d
    obtain ⟨hd, hb, q⟩ := h
    unfold t_lowest t_lowest_1
    walk_at "st"
    walk_at "go"
    rw [if_neg (by omega)]
    walk_at "rr"
    walk_at "go"
    rw [numD_mk hd] at q
    exact ⟨gcd_div hd hb _, gcd_div hd hb _, .mk q⟩
  · exact h.elim
theorem rd_exact : RD_exact K := by
  intro ds L Q E h
  have two : ∀ n e : Int, 0 < e → e.natAbs < 2 ^ 8500 → Q (numD (mkRat n e.toNat)) L → t_exact K { nx := fun _ L1 => Dn (Q .non) L1, rt := fun d L1 => Dn (Q d) L1 } (start' ["value", "n", "d", "found"] [.tup [.int n, .int e]]) L := by
    intro n e he hb q
    unfold t_exact t_exact_1 t_exact_2 t_exact_3
    walk_at "rx"
    have hne : ¬ e = 0 := by omega
    simp only [hne, decide_false, Bool.not_false]
    walk_at "rr"
    exact ⟨he, hb, .mk q⟩
  unfold sp_exact at h
  split at h
  · rename_i d
    rcases h with ⟨q, hq, hb, h⟩ | ⟨n, e, rfl, he, hb, h⟩
    · rcases hq with rfl | ⟨h1, rfl⟩
      · refine two _ _ (by have := q.den_pos; omega) (by simpa using hb) ?_
        rw [Int.toNat_natCast, Rat.mkRat_self]
        exact h
      · unfold t_exact t_exact_1 t_exact_2 t_exact_3
        walk_at "rx"
        unfold numD at h
        rw [h1] at h
        exact .mk h
    · exact two n e he hb h
  · exact h.elim
/-- few bits -/
theorem mulok {i j : Int} {a b : Nat} (ha : i.natAbs < 2 ^ a) (hb : j.natAbs < 2 ^ b) (h : a + b ≤ 900000) : CMulW i j :=
  wide_mul (a := a + 1) (b := b + 1) (Nat.lt_of_lt_of_le ha (Nat.pow_le_pow_right (by decide) (by omega))) (Nat.lt_of_lt_of_le hb (Nat.pow_le_pow_right (by decide) (by omega))) (by omega) (by omega) (by omega)
theorem lt_mul2 {i j : Int} {a b : Nat} (ha : i.natAbs < 2 ^ a) (hb : j.natAbs < 2 ^ b) : (i * j).natAbs < 2 ^ (a + b) := by
  rw [Int.natAbs_mul, Nat.pow_add]
  exact Nat.mul_lt_mul'' ha hb
theorem lt_add2 {i j : Int} {a : Nat} (ha : i.natAbs < 2 ^ a) (hb : j.natAbs < 2 ^ a) : (i + j).natAbs < 2 ^ (a + 1) := by
  rw [Nat.pow_succ]; omega
theorem lt_sub2 {i j : Int} {a : Nat} (ha : i.natAbs < 2 ^ a) (hb : j.natAbs < 2 ^ a) : (i - j).natAbs < 2 ^ (a + 1) := by
  rw [Nat.pow_succ]; omega
theorem rd_law_low : RD_law_low K := by
  intro ds L Q E h
  unfold sp_law_low at h
  split at h
  · rename_i n d
    obtain ⟨hd, hb, q⟩ := h
    unfold t_law_low t_law_low_1 t_law_low_2 t_law_low_3
    walk_at "st"
    rw [if_neg (by omega)]
    walk_at "rr"
    walk_at "go"
    walk_at "go"
    refine ⟨fun m τ' L' => ∃ (hi re : Nat), τ' = [some (.int n), some (.int d), some (.int hi), some (.int re)] ∧ L' = L ∧ m = re ∧ Nat.gcd hi re = Nat.gcd n.natAbs d.natAbs, ⟨d.natAbs, n.natAbs, d.natAbs, ?_, rfl, rfl, rfl⟩, ?_⟩
    · simp only [List.cons.injEq, Option.some.injEq, D.int.injEq, and_true, true_and]
      constructor <;> (try split) <;> omega
    · rintro m τ' L' ⟨hi, re, rfl, rfl, rfl, hg⟩
      walk_at "st"
      by_cases c : (0 : Int) < (m : Int)
      · rw [if_pos c]
        walk_at "rr"
        refine ⟨c, .mk ⟨hi % m, Nat.mod_lt _ (by omega), m, hi % m, ?_, rfl, rfl, ?_⟩⟩
        · simp
        · rw [← hg, Nat.gcd_comm hi m, Nat.gcd_rec m hi, Nat.gcd_comm]
      · rw [if_neg c]
        walk_at "rr"
        have c0 : m = 0 := by omega
        subst c0
        rw [Nat.gcd_zero_right] at hg
        walk_at "go"
        rw [numD_mk hd] at q
        rw [hg]
        exact ⟨gcd_div hd hb _, gcd_div hd hb _, .mk q⟩
  · exact h.elim
end Hd

set_option exponentiation.threshold 20000
open PySem PySem.Spec PyProof.Rows L2 Z
namespace Hd
local macro_rules | `(tactic| walk_at "st") => `(tactic| simp (implicitDefEqProofs := false) only [↓seqD_up, ↓seqL_up, ↓len_ilst, ↓len_up, ↓truD_ilst, up_up, List.length_map, ↓wFor_m, ↓frzK_up, ↓frzK_upi, ↓wFz_e, ↓wFg_e, ↓wLstF_e, ↓addF_int, ↓addF_l, ↓addF_tup, ↓addF_str, ↓mulF_int, ↓mulF_l, ↓wSlF_e, ↓slF_tup, ↓slF_str, ↓slF_l, ↓slF_scr, ↓slF_ref, ↓listF_eq, ↓listdF_eq, ↓sortedF_eq, ↓allF_eq, ↓sumF_eq, ↓extF_eq, ↓vEnumF_e, ↓enF_l, ↓fldF_obj, ↓fldF_ref, ↓wFldF_e, ↓wLcF_e, ↓pName_e, ↓pNil_e, ↓pCons_e, ↓pTup_e, ↓gK_some, ↓obind_e, ↓seqL_ilst, ↓addM_eq, ↓sq2_some, ↓wVar_0, ↓wVar_s, ↓hNil_e, ↓hCons_e, ↓wDget_e, ↓wDget2_e, ↓wDput_m, ↓wSortIt_e, ↓wMake_e, ↓wIfS_m, ↓wSeq_m, ↓wAsg_m, ↓hName_e, ↓wC_e, ↓wNil_e, ↓wCons_e, ↓wTup_e, ↓wLst_e, ↓wOp_e, ↓wUn_e, ↓wIf_e, ↓wAndV_e, ↓wOrV_e, ↓wNotV_e, ↓wB_e, ↓wAnd_e, ↓wOr_e, ↓zNot_e, ↓zTru_e, ↓hCons_e, ↓hTup_e, ↓hSub_e, ↓wNext_m, ↓wDrop_m, ↓wRet_m, ↓wRetN_m, ↓wPar_m, ↓wCB_e, ↓wCall_e, ↓wIxk_e, ↓wSl_e, ↓wNoPart_e, ↓wPart_e, ↓wBM_e, ↓wBM0_e, ↓wChain_e, ↓wNever_e, ↓vSeq_e, ↓vEnum_e, ↓vRng1_e, ↓vRng2_e, vZip, ↓blK_bl, ↓tupK_tup, ↓pairK_2, ↓inK_int, ↓truD_bl, ↓truD_int, ↓truD_non, ↓truD_tup, ↓isn_non, ↓isn_int, ↓isn_bl, ↓isn_str, ↓isn_tup, ↓isn_ref, ↓Z.add_int, ↓add_tup, ↓add_ref, ↓intD_eq, ↓intD0_eq, ↓Z.mul_int, ↓Z.eq_int, ↓Z.ne_int, ↓Z.eq_bl, ↓ne_bl, ↓Z.eq_str, ↓Z.ne_str, ↓eq_non, ↓eq_tup, ↓eq_ref, ↓Z.neg_int, ↓seq_tup, ↓seq_ilst, ↓Z.ix_tup, ↓ix_int, ↓sqK_some, ↓ixK_0, ↓ixK_s, ↓tyK_some, ↓ty_non, ↓ty_bl, ↓ty_int, ↓ty_str, ↓ty_tup, ↓ty_ilst, ↓isi_eq, ↓isi2_eq, isiW, ↓len_tup, ↓intc_int, ↓abs_int, ↓gcd_int, ↓list_seq, ↓tuple_seq, ↓all_ref, ↓sum_ref, ↓Z.sl_tup, ↓sl_ilst, ↓sl_ref, ↓walk_tup, ↓walk_ilst, ↓walk_ref, ↓en_ref, start', List.map_cons, List.map_nil, List.cons_append, List.nil_append, List.append_nil, List.length_cons, List.length_nil, List.replicate, List.set_cons_zero, List.set_cons_succ, List.set_nil, List.getElem?_cons_zero, List.getElem?_cons_succ, wipeD, Nat.zero_add, Nat.reduceAdd, Nat.reduceSub, Nat.sub_self, Nat.sub_zero, true_and, and_true, if_true, if_false, Bool.not_true, Bool.not_false, ite_true, ite_false, Bool.false_eq_true, decide_true, decide_false, decide_eq_true_eq, Int.cast_ofNat_Int, reduceIte, Bool.not_eq_true', decide_eq_false_iff_not, Bool.and_true, Bool.true_and, Bool.and_false, Bool.false_and, Bool.or_true, Bool.true_or, Bool.or_false, Bool.false_or, beq_self_eq_true, bne_self_eq_false, not_true_eq_false, not_false_eq_true, String.reduceBEq, String.reduceBNe, Int.reduceToNat, Bool.true_eq_false, reduceCtorEq, Int.reduceEq, Int.reduceLT, Int.reduceLE, gt_iff_lt, ge_iff_le, ↓wBreak_m, ↓wCont_m, ↓wPar3_m, trioK_3, ↓wFldS_m, ↓wFld_e, ↓wChain_e, ↓wLam_e, ↓wIsE_e, ↓wRaise0_e, ↓wCallX_e, ↓wCallKX_e, ↓wYes_e, ↓wCallK_e, isDct_eq, dkK_eq, ↓wDnewT_e])
local macro_rules | `(tactic| walk_at "go") => `(tactic| ((first | with_reducible refine hld_i ?_ | skip); try walk_at "st"))
local macro_rules | `(tactic| walk_at "sx") => `(tactic| ((try simp only [sp_is_integer, sp_lowest, sp_exact, sp_law_draw, sp_law_of, sp_law_same, sp_law_low, sp_law_hand, sp_law_number, sp_is_number, sp_is_corner, sp_is_index, sp_is_face, sp_Net_init, sp_Net_eq, sp_law_bag, sp_law_is_num, sp_law_handed, sp_law_bad, sp_law_bent_corner, sp_law_bent_face, sp_law_any, sp_law_bend, sp_law_drawn, sp_law_pair]); try walk_at "st"))
local macro_rules | `(tactic| walk_at "s0") => `(tactic| simp (implicitDefEqProofs := false) only [start', List.map_cons, List.map_nil, List.length_cons, List.length_nil, Nat.zero_add, Nat.reduceAdd, Nat.reduceSub, List.replicate, List.cons_append, List.nil_append])
local macro_rules | `(tactic| walk_at "rr") => `(tactic| repeat (first | with_reducible refine hld_i ?_ | walk_at "st"))
local macro_rules | `(tactic| walk_at "rx") => `(tactic| repeat (first | with_reducible refine hld_i ?_ | walk_at "st" | simp only [sp_is_integer, sp_lowest, sp_exact, sp_law_draw, sp_law_of, sp_law_same, sp_law_low, sp_law_hand, sp_law_number, sp_is_number, sp_is_corner, sp_is_index, sp_is_face, sp_Net_init, sp_Net_eq, sp_law_bag, sp_law_is_num, sp_law_handed, sp_law_bad, sp_law_bent_corner, sp_law_bent_face, sp_law_any, sp_law_bend, sp_law_drawn, sp_law_pair]))
local macro_rules | `(tactic| walk_at "dw") => `(tactic| (refine draw (by first | exact up_same | assumption) (by assumption) (by omega) (by omega) (by omega) ?_))

variable {K : PySem.W.Frag}
theorem cut_to {α : List D} (k : Nat) : Z.cutD α none (some (k : Int)) = α.take k := by
  unfold Z.cutD
  rw [HT.sIx_none, HT.sIx_nat, List.drop_zero, Nat.sub_zero, ← List.take_eq_take_min]
theorem cut_from {α : List D} (k : Nat) : Z.cutD α (some (k : Int)) none = α.drop k := by
  unfold Z.cutD
  rw [HT.sIx_none, HT.sIx_nat]
  rcases Nat.le_total k α.length with h | h
  · rw [Nat.min_eq_left h, List.take_of_length_le (by simp)]
  · rw [Nat.min_eq_right h, List.drop_length, List.drop_eq_nil_of_le h, List.take_nil]

theorem rd_law_bag : RD_law_bag K := by
  intro ds L Q E h
  unfold sp_law_bag at h
  split at h
  · obtain ⟨ns, hd, h⟩ := h
    unfold t_law_bag
    have ec : Z.cutD (ns.map D.int) none (some 63) = (ns.take 63).map D.int := by
      rw [show (63 : Int) = ((63 : Nat) : Int) from rfl, cut_to, List.map_take]
    rcases hd with rfl | rfl | ⟨a0, rfl, ha⟩
    all_goals
      walk_at "s0"
      walk_at "rr"
      try (rw [seqL_ref ha, sqK_some]; walk_at "rr")
      rw [ec]
      refine for_t (ns.take 63) D.int (fun i τ' L' => (∃ d0 m x, (d0 = D.ilst (ns.map D.int) ∨ d0 = .scr ns ∨ ∃ a, d0 = .ref a ∧ L a = some (.lst (ns.map D.int))) ∧ τ' = [some d0, some (.int m), x] ∧ 0 ≤ m ∧ m < 2 ^ 64) ∧ L' = L) ⟨⟨_, _, _, by first | exact .inl rfl | exact .inr (.inl rfl) | exact .inr (.inr ⟨_, rfl, ha⟩), rfl, by decide, by decide⟩, rfl⟩ (fun _ _ _ _ _ => trivial) ?_ ?_
      · rintro i j τ' L' hx ⟨⟨d0, m, y, hd, rfl, h0, h1⟩, rfl⟩
        unfold t_law_bag_1
        walk_at "rr"
        have e1 := Int.emod_lt_of_pos j (b := 18446744073709551557) (by decide)
        have e2 := Int.emod_nonneg j (b := 18446744073709551557) (by decide)
        refine ⟨CPowW.of ?_ (by decide) (by decide), .mk ⟨⟨_, _, _, hd, rfl, Int.emod_nonneg _ (by decide), ?_⟩, rfl⟩⟩
        · have : (m + j % 18446744073709551557 + 389).natAbs < 2 ^ 66 := by omega
          exact Nat.lt_of_lt_of_le this (Nat.pow_le_pow_right (by decide) (by decide))
        · exact Int.lt_of_lt_of_le (Int.emod_lt_of_pos _ (by decide)) (by decide)
      · rintro τ' L' ⟨⟨d0, m, y, hd, rfl, h0, h1⟩, rfl⟩
        walk_at "rr"
        unfold t_law_bag_2
        rcases hd with rfl | rfl | ⟨a0, rfl, ha⟩
        all_goals
          walk_at "rr"
          try (rw [seqL_ref ha, sqK_some]; walk_at "rr")
          rw [ec]
          intro p np
          exact .mk (h p _ np ⟨ns.take 63, 0, 0, m, 0, rfl, by rw [List.length_take]; omega, by decide, by decide, h0, h1, by decide, by decide⟩)
  · exact h.elim
theorem isbag_mk {T : Nat} {ns : List Int} {i r m t : Int} (h : ns.length < 64) (i0 : 0 ≤ i) (r0 : 0 ≤ r) (m0 : 0 ≤ m) (m1 : m < 2 ^ 64) (t0 : 0 ≤ t) (t1 : t ≤ T) : IsBag T (bagO ns i r m t) := ⟨ns, i, r, m, t, rfl, h, i0, r0, m0, m1, t0, t1⟩
theorem draw_tail {b : Addr} {ns : List Int} {T : Nat} {many i r m t : Int} {L : Lp} {Q : VK'} {x y : Option D} (h63 : ns.length < 64) (i0 : 0 ≤ i) (r0 : 0 ≤ r) (m0 : 0 ≤ m) (m1 : m < 2 ^ 64) (t0 : 0 ≤ t) (t1 : t ≤ T + 1) (hT : T < 1099511627776) (hm0 : 0 < many) (hm1 : many < 2 ^ 60)
    (h : ∀ (n : Nat) o', (n : Int) < many → IsBag (T + 1) o' → Q (.int n) (up L b o')) : t_law_draw_1 K { nx := fun x L1 => Dn (Q D.non) L1, rt := fun d L1 => Dn (Q d) L1 } [some (.ref b), some (.int many), x, y] (up L b (bagO ns i r m t)) := by
  have fin : ∀ k : Int, 0 ≤ k → k < many → ∀ o, IsBag (T + 1) o → Dn (Q (.int k)) (up L b o) := fun k k0 k1 o hB => by
    obtain ⟨n, rfl⟩ : ∃ n : Nat, k = n := ⟨k.toNat, by omega⟩
    exact .mk (h n o k1 hB)
  have sb : ∀ o : List D, seqD (.ref b) (up L b (.lst o)) = some o := fun o => seq_ref up_same
  unfold t_law_draw_1 t_law_draw_2
  walk_at "rr"
  by_cases c1 : 0 < r
  · rw [if_pos c1]
    walk_at "rr"
    refine ⟨hm0, ?_⟩
    walk_at "rr"
    refine ⟨wide_div (b := 60) hm0 (by omega) (by decide) (by decide), set_at up_same rfl ?_⟩
    try rw [up_up]
    walk_at "rr"
    exact fin _ (Int.emod_nonneg _ (by omega)) (Int.emod_lt_of_pos _ hm0) _ (isbag_mk h63 i0 (Int.ediv_nonneg r0 (by omega)) m0 m1 t0 (by omega))
  · rw [if_neg c1]
    walk_at "rr"
    have b1 : (m + t * 1000003 + 31).natAbs < 2 ^ 66 := by omega
    refine ⟨mulok (a := 60) (b := 60) (by omega) (by decide) (by decide), ?_⟩
    walk_at "rr"
    refine ⟨CPowW.of (Nat.lt_of_lt_of_le b1 (Nat.pow_le_pow_right (by decide) (by decide))) (by decide) (by decide), ?_⟩
    walk_at "rr"
    refine set_at up_same rfl ?_
    try rw [up_up]
    walk_at "rr"
    have e1 := Int.emod_lt_of_pos ((m + t * 1000003 + 31) ^ 3) (b := 18446744073709551557) (by decide)
    have e2 := Int.emod_nonneg ((m + t * 1000003 + 31) ^ 3) (b := 18446744073709551557) (by decide)
    refine ⟨wide_div (b := 60) (by decide) (by decide) (by decide) (by decide), ?_⟩
    walk_at "rr"
    exact ⟨hm0, fin _ (Int.emod_nonneg _ (by omega)) (Int.emod_lt_of_pos _ hm0) _ (isbag_mk h63 i0 r0 e2 (by omega) t0 (by omega))⟩
theorem rd_law_draw : RD_law_draw K := by
  intro ds L Q E h
  unfold sp_law_draw at h
  split at h
  · rename_i b many
    obtain ⟨o, T, hb, ⟨ns, i, r, m, t, rfl, h63, i0, r0, m0, m1, t0, t1⟩, hT, hm0, hm1, h⟩ := h
    have sb : ∀ o : List D, seqD (.ref b) (up L b (.lst o)) = some o := fun o => seq_ref up_same
    unfold t_law_draw
    walk_at "s0"
    walk_at "rr"
    simp only [seq_ref hb]
    walk_at "rr"
    refine set_at hb rfl ?_
    have done : ∀ x y (i r m : Int), 0 ≤ i → 0 ≤ r → 0 ≤ m → m < 2 ^ 64 → t_law_draw_1 K { nx := fun x L1 => Dn (Q D.non) L1, rt := fun d L1 => Dn (Q d) L1 } [some (.ref b), some (.int many), x, y] (up L b (bagO ns i r m (t + 1))) := fun x y i r m i0 r0 m0 m1 =>
      draw_tail h63 i0 r0 m0 m1 (by omega) (by omega) hT hm0 hm1 h
    walk_at "rr"
    by_cases cr : r = 0
    · rw [if_pos cr]
      walk_at "rr"
      by_cases ci : i < (ns.length : Int)
      · rw [if_pos ci]
        walk_at "rr"
        obtain ⟨j, rfl⟩ : ∃ j : Nat, i = j := ⟨i.toNat, by omega⟩
        have hj : j < ns.length := by omega
        walk_at "rr"
        refine atK_at (x := .int (ns[j]'hj)) ?_ ?_
        · unfold atI
          rw [show ixN (List.map D.int ns).length (j : Int) = some j by unfold ixN; simp; omega]
          simp [hj]
        · walk_at "rr"
          refine set_at up_same rfl ?_
          try rw [up_up]
          walk_at "rr"
          refine ⟨CPowW.of (by decide) (by decide) (by decide), ?_⟩
          walk_at "rr"
          by_cases cg : 10 ^ 18 ≤ ns[j]
          · rw [if_pos cg]
            walk_at "rr"
            refine set_at up_same rfl ?_
            try rw [up_up]
            walk_at "rr"
            exact done _ _ (j + 1) ns[j] m (by omega) (by omega) m0 m1
          · rw [if_neg cg]
            walk_at "rr"
            have e1 := Int.emod_lt_of_pos ns[j] (b := 18446744073709551557) (by decide)
            have e2 := Int.emod_nonneg ns[j] (b := 18446744073709551557) (by decide)
            have b1 : (m + ns[j] % 18446744073709551557 * 11 + 41).natAbs < 2 ^ 70 := by omega
            have b2 : (ns[j] % 18446744073709551557).natAbs < 2 ^ 66 := by omega
            refine ⟨mulok (a := 66) (b := 66) b2 (by decide) (by decide), ?_⟩
            walk_at "rr"
            refine ⟨CPowW.of (Nat.lt_of_lt_of_le b1 (Nat.pow_le_pow_right (by decide) (by decide))) (by decide) (by decide), ?_⟩
            walk_at "rr"
            refine set_at up_same rfl ?_
            try rw [up_up]
            have e3 := Int.emod_lt_of_pos ((m + ns[j] % 18446744073709551557 * 11 + 41) ^ 3) (b := 18446744073709551557) (by decide)
            have e4 := Int.emod_nonneg ((m + ns[j] % 18446744073709551557 * 11 + 41) ^ 3) (b := 18446744073709551557) (by decide)
            walk_at "rr"
            exact done _ _ (j + 1) r _ (by omega) r0 e4 (by omega)
      · rw [if_neg ci]
        walk_at "rr"
        exact done _ _ i r m i0 r0 m0 m1
    · rw [if_neg cr]
      walk_at "rr"
      exact done _ _ i r m i0 r0 m0 m1
  · exact h.elim
end Hd

set_option exponentiation.threshold 20000
open PySem PySem.Spec PyProof.Rows L2 Z
namespace Hd
local macro_rules | `(tactic| walk_at "st") => `(tactic| simp (implicitDefEqProofs := false) only [↓seqD_up, ↓seqL_up, ↓len_ilst, ↓len_up, ↓truD_ilst, up_up, List.length_map, ↓wFor_m, ↓frzK_up, ↓frzK_upi, ↓wFz_e, ↓wFg_e, ↓wLstF_e, ↓addF_int, ↓addF_l, ↓addF_tup, ↓addF_str, ↓mulF_int, ↓mulF_l, ↓wSlF_e, ↓slF_tup, ↓slF_str, ↓slF_l, ↓slF_scr, ↓slF_ref, ↓listF_eq, ↓listdF_eq, ↓sortedF_eq, ↓allF_eq, ↓sumF_eq, ↓extF_eq, ↓vEnumF_e, ↓enF_l, ↓fldF_obj, ↓fldF_ref, ↓wFldF_e, ↓wLcF_e, ↓pName_e, ↓pNil_e, ↓pCons_e, ↓pTup_e, ↓gK_some, ↓obind_e, ↓seqL_ilst, ↓addM_eq, ↓sq2_some, ↓wVar_0, ↓wVar_s, ↓hNil_e, ↓hCons_e, ↓wDget_e, ↓wDget2_e, ↓wDput_m, ↓wSortIt_e, ↓wMake_e, ↓wIfS_m, ↓wSeq_m, ↓wAsg_m, ↓hName_e, ↓wC_e, ↓wNil_e, ↓wCons_e, ↓wTup_e, ↓wLst_e, ↓wOp_e, ↓wUn_e, ↓wIf_e, ↓wAndV_e, ↓wOrV_e, ↓wNotV_e, ↓wB_e, ↓wAnd_e, ↓wOr_e, ↓zNot_e, ↓zTru_e, ↓hCons_e, ↓hTup_e, ↓hSub_e, ↓wNext_m, ↓wDrop_m, ↓wRet_m, ↓wRetN_m, ↓wPar_m, ↓wCB_e, ↓wCall_e, ↓wIxk_e, ↓wSl_e, ↓wNoPart_e, ↓wPart_e, ↓wBM_e, ↓wBM0_e, ↓wChain_e, ↓wNever_e, ↓vSeq_e, ↓vEnum_e, ↓vRng1_e, ↓vRng2_e, vZip, ↓blK_bl, ↓tupK_tup, ↓pairK_2, ↓inK_int, ↓truD_bl, ↓truD_int, ↓truD_non, ↓truD_tup, ↓isn_non, ↓isn_int, ↓isn_bl, ↓isn_str, ↓isn_tup, ↓isn_ref, ↓Z.add_int, ↓add_tup, ↓add_ref, ↓intD_eq, ↓intD0_eq, ↓Z.mul_int, ↓Z.eq_int, ↓Z.ne_int, ↓Z.eq_bl, ↓ne_bl, ↓Z.eq_str, ↓Z.ne_str, ↓eq_non, ↓eq_tup, ↓eq_ref, ↓Z.neg_int, ↓seq_tup, ↓seq_ilst, ↓Z.ix_tup, ↓ix_int, ↓sqK_some, ↓ixK_0, ↓ixK_s, ↓tyK_some, ↓ty_non, ↓ty_bl, ↓ty_int, ↓ty_str, ↓ty_tup, ↓ty_ilst, ↓isi_eq, ↓isi2_eq, isiW, ↓len_tup, ↓intc_int, ↓abs_int, ↓gcd_int, ↓list_seq, ↓tuple_seq, ↓all_ref, ↓sum_ref, ↓Z.sl_tup, ↓sl_ilst, ↓sl_ref, ↓walk_tup, ↓walk_ilst, ↓walk_ref, ↓en_ref, start', List.map_cons, List.map_nil, List.cons_append, List.nil_append, List.append_nil, List.length_cons, List.length_nil, List.replicate, List.set_cons_zero, List.set_cons_succ, List.set_nil, List.getElem?_cons_zero, List.getElem?_cons_succ, wipeD, Nat.zero_add, Nat.reduceAdd, Nat.reduceSub, Nat.sub_self, Nat.sub_zero, true_and, and_true, if_true, if_false, Bool.not_true, Bool.not_false, ite_true, ite_false, Bool.false_eq_true, decide_true, decide_false, decide_eq_true_eq, Int.cast_ofNat_Int, reduceIte, Bool.not_eq_true', decide_eq_false_iff_not, Bool.and_true, Bool.true_and, Bool.and_false, Bool.false_and, Bool.or_true, Bool.true_or, Bool.or_false, Bool.false_or, beq_self_eq_true, bne_self_eq_false, not_true_eq_false, not_false_eq_true, String.reduceBEq, String.reduceBNe, Int.reduceToNat, Bool.true_eq_false, reduceCtorEq, Int.reduceEq, Int.reduceLT, Int.reduceLE, gt_iff_lt, ge_iff_le, ↓wBreak_m, ↓wCont_m, ↓wPar3_m, trioK_3, ↓wFldS_m, ↓wFld_e, ↓wChain_e, ↓wLam_e, ↓wIsE_e, ↓wRaise0_e, ↓wCallX_e, ↓wCallKX_e, ↓wYes_e, ↓wCallK_e, isDct_eq, dkK_eq, ↓wDnewT_e])
local macro_rules | `(tactic| walk_at "go") => `(tactic| ((first | with_reducible refine hld_i ?_ | skip); try walk_at "st"))
local macro_rules | `(tactic| walk_at "sx") => `(tactic| ((try simp only [sp_is_integer, sp_lowest, sp_exact, sp_law_draw, sp_law_of, sp_law_same, sp_law_low, sp_law_hand, sp_law_number, sp_is_number, sp_is_corner, sp_is_index, sp_is_face, sp_Net_init, sp_Net_eq, sp_law_bag, sp_law_is_num, sp_law_handed, sp_law_bad, sp_law_bent_corner, sp_law_bent_face, sp_law_any, sp_law_bend, sp_law_drawn, sp_law_pair]); try walk_at "st"))
local macro_rules | `(tactic| walk_at "s0") => `(tactic| simp (implicitDefEqProofs := false) only [start', List.map_cons, List.map_nil, List.length_cons, List.length_nil, Nat.zero_add, Nat.reduceAdd, Nat.reduceSub, List.replicate, List.cons_append, List.nil_append])
local macro_rules | `(tactic| walk_at "rr") => `(tactic| repeat (first | with_reducible refine hld_i ?_ | walk_at "st"))
local macro_rules | `(tactic| walk_at "rx") => `(tactic| repeat (first | with_reducible refine hld_i ?_ | walk_at "st" | simp only [sp_is_integer, sp_lowest, sp_exact, sp_law_draw, sp_law_of, sp_law_same, sp_law_low, sp_law_hand, sp_law_number, sp_is_number, sp_is_corner, sp_is_index, sp_is_face, sp_Net_init, sp_Net_eq, sp_law_bag, sp_law_is_num, sp_law_handed, sp_law_bad, sp_law_bent_corner, sp_law_bent_face, sp_law_any, sp_law_bend, sp_law_drawn, sp_law_pair]))
local macro_rules | `(tactic| walk_at "dw") => `(tactic| (refine draw (by first | exact up_same | assumption) (by assumption) (by omega) (by omega) (by omega) ?_))

variable {K : PySem.W.Frag}
theorem draw {b : Addr} {o : O} {T : Nat} {m : Int} {L : Lp} {Q : VK'} {E : XK'} (hb : L b = some o) (hB : IsBag T o) (hT : T < 1099511627776) (h0 : 0 < m) (h1 : m < 2 ^ 60) (h : ∀ (n : Nat) o', (n : Int) < m → IsBag (T + 1) o' → Q (.int n) (up L b o')) : sp_law_draw [.ref b, .int m] L Q E :=
  ⟨o, T, hb, hB, hT, h0, h1, h⟩
theorem IsBag.le {T T' : Nat} {o : O} (h : IsBag T o) (l : T ≤ T') : IsBag T' o := by
  obtain ⟨ns, i, r, m, t, e, h63, i0, r0, m0, m1, t0, t1⟩ := h
  exact ⟨ns, i, r, m, t, e, h63, i0, r0, m0, m1, t0, by omega⟩
theorem atN {ds : List D} {n : Nat} (h : n < ds.length) : atI ds (n : Int) = some (ds[n]'h) := by
  unfold atI
  rw [show ixN ds.length (n : Int) = some n by unfold ixN; simp; omega]
  simp [h]
theorem szl {n : Nat} (h : n ≤ 1000) : n ≤ sizeLine := Nat.le_trans h (by decide)
theorem rd_law_of : RD_law_of K := by
  intro ds L Q E h
  unfold sp_law_of at h
  split at h
  · rename_i b d
    obtain ⟨o, T, xs, hb, hB, hT, rfl, ne, hz, h⟩ := h
    unfold t_law_of
    walk_at "s0"
    walk_at "rr"
    have hl : 0 < xs.length := List.length_pos_iff.mpr ne
    refine draw hb hB hT (by omega) (by omega) fun n o1 hn hB1 => ?_
    have hn' : n < xs.length := by omega
    exact atK_at (atN hn') (.mk (h _ (List.getElem_mem hn') o1 hB1))
  · exact h.elim
theorem rd_law_hand : RD_law_hand K := by
  intro ds L Q E h
  unfold sp_law_hand at h
  split at h
  · rename_i b d
    obtain ⟨o, T, q, hb, hB, hT, rfl, h⟩ := h
    unfold t_law_hand
    walk_at "s0"
    walk_at "rr"
    have h0 : Q (numD q) L := by
      have := h (numD q) o (.inl rfl) (hB.le (by omega))
      rw [up_id hb] at this
      exact this
    by_cases c1 : q.den = 1
    · rw [if_pos (by omega)]
      walk_at "rr"
      refine draw hb hB hT (by decide) (by decide) fun n o1 hn hB1 => ?_
      walk_at "rr"
      by_cases c2 : (n : Int) = 0
      · rw [if_pos c2]
        walk_at "rr"
        exact .mk (h _ o1 (.inr ⟨c1, rfl⟩) hB1)
      · rw [if_neg c2]
        walk_at "rr"
        exact .mk (h _ o1 (.inl rfl) hB1)
    · rw [if_neg (by omega)]
      walk_at "rr"
      exact .mk h0
  · exact h.elim
theorem All2.snoc {α β : Type} {R : α → β → Prop} {a : α} {b : β} : ∀ {as : List α} {bs : List β}, All2 R as bs → R a b → All2 R (as ++ [a]) (bs ++ [b])
  | _, _, .nil, h => .cons h .nil
  | _, _, .cons x r, h => .cons x (All2.snoc r h)
theorem All2.take {α β : Type} {R : α → β → Prop} {zs : List α} {i : Nat} {z : α} {bs : List β} {y : β} (h : All2 R (zs.take i) bs) (e : zs[i]? = some z) (r : R z y) : All2 R (zs.take (i + 1)) (bs ++ [y]) := by
  rw [List.take_add_one, e]
  exact h.snoc r
theorem All2.length {α β : Type} {R : α → β → Prop} : ∀ {as : List α} {bs : List β}, All2 R as bs → as.length = bs.length
  | _, _, .nil => rfl
  | _, _, .cons _ r => congrArg Nat.succ (All2.length r)
theorem getlt {α : Type} {zs : List α} {i : Nat} {z : α} (e : zs[i]? = some z) : i < zs.length := by
  rcases Nat.lt_or_ge i zs.length with h | h
  · exact h
  · rw [List.getElem?_eq_none h] at e; cases e
theorem numD_int (n : Int) : (D.tup [.int n, .int 1]) = numD (mkRat n 1) := by
  have := numD_mk (n := n) (d := 1) (by decide)
  simpa using this.symm
theorem wd_mk {n : Int} {d D b : Nat} (hd : 0 < d) (hD : d ∣ D) (h0 : 0 < D) (hb : n.natAbs * (D / d) < b) : Wd D b (mkRat n d) := by
  obtain ⟨k, rfl⟩ := hD
  have hk : 0 < k := Nat.pos_of_mul_pos_left h0
  rw [Nat.mul_div_cancel_left _ hd] at hb
  refine ⟨n * k, (Rat.mkRat_mul_right (by omega)).symm, ?_⟩
  rw [Int.natAbs_mul, Int.natAbs_natCast]
  exact hb
theorem ok1_int {n : Int} (h : n.natAbs < 2 ^ 40) : Ok1 (mkRat n 1) := wd_mk (by decide) (by decide) (by decide) (by omega)
theorem rd_law_number : RD_law_number K := by
  intro ds L Q E h
  unfold sp_law_number at h
  split at h
  · rename_i b
    obtain ⟨o, T, hb, hB, hT, h⟩ := h
    unfold t_law_number t_law_number_1 t_law_number_2
    walk_at "s0"
    walk_at "rr"
    refine draw hb hB (by omega) (by decide) (by decide) fun w o1 hw hB1 => ?_
    walk_at "rr"
    by_cases c1 : (w : Int) = 11
    · rw [if_pos c1]
      walk_at "rr"
      refine draw up_same hB1 (by omega) (by decide) (by decide) fun n o2 hn hB2 => ?_
      walk_at "rr"
      rw [numD_int]
      exact .mk (h _ o2 (ok1_int (by omega)) (hB2.le (by omega)))
    · rw [if_neg c1]
      walk_at "rr"
      by_cases c2 : (7 : Int) < w
      · rw [if_pos c2]
        walk_at "rr"
        refine draw up_same hB1 (by omega) (by decide) (by decide) fun n o2 hn hB2 => ?_
        walk_at "rr"
        refine draw up_same hB2 (by omega) (by decide) (by decide) fun d o3 hd hB3 => ?_
        walk_at "rr"
        refine ⟨by omega, ?_, .mk (h _ o3 ?_ (hB3.le (by omega)))⟩
        · exact Nat.lt_of_lt_of_le (show (1 + (d : Int)).natAbs < 2 ^ 4 by omega) (Nat.pow_le_pow_right (by decide) (by decide))
        · have hd2 : d < 12 := by omega
          obtain ⟨k, hk, hk1, hk2⟩ : ∃ k : Nat, (1 + (d : Int)).toNat = k ∧ 1 ≤ k ∧ k ≤ 12 := ⟨_, rfl, by omega, by omega⟩
          rw [hk]
          refine wd_mk (by omega) ?_ (by decide) ?_
          · have : k = 1 ∨ k = 2 ∨ k = 3 ∨ k = 4 ∨ k = 5 ∨ k = 6 ∨ k = 7 ∨ k = 8 ∨ k = 9 ∨ k = 10 ∨ k = 11 ∨ k = 12 := by omega
            rcases this with rfl | rfl | rfl | rfl | rfl | rfl | rfl | rfl | rfl | rfl | rfl | rfl <;> decide
          · have h1 : ((n : Int) - 60).natAbs ≤ 200 := by omega
            have h2 : 27720 / k ≤ 27720 := Nat.div_le_self _ _
            exact Nat.lt_of_le_of_lt (Nat.mul_le_mul h1 h2) (by decide)
      · rw [if_neg c2]
        walk_at "rr"
        refine draw up_same hB1 (by omega) (by decide) (by decide) fun n o2 hn hB2 => ?_
        walk_at "rr"
        rw [numD_int]
        exact .mk (h _ o2 (ok1_int (by omega)) (hB2.le (by omega)))
  · exact h.elim
theorem up_comm {L : Lp} {a b : Addr} {o u : O} (h : a ≠ b) : up (up L a o) b u = up (up L b u) a o := by
  funext x
  by_cases h1 : x = b
  · subst h1; rw [up_same, up_ne (Ne.symm h), up_same]
  · by_cases h2 : x = a
    · subst h2; rw [up_ne h1, up_same, up_same]
    · rw [up_ne h1, up_ne h2, up_ne h2, up_ne h1]
/-- a list made with draws from the bag, kept to be written -/
theorem lcM_b {α : Type} {g : TG'} {te : TE'} {vs : List Nat} {τ : S'} {L : Lp} {Q : VK'} {b : Addr} {wi : TI'} (zs : List α) (enc : α → D) (A : Nat → List D → O → Prop) (hz : zs.length ≤ sizeLine) (o : O) (hb : L b = some o) (a0 : A 0 [] o)
    (hi : ∀ R : List D → (Lp → Prop) → Lp → Prop, (∀ st : Lp → Prop, (∀ p u o', L p = none → st (up (up L b o') p u)) → R (zs.map enc) st L) → wi τ L R)
    (step : ∀ (i : Nat) (z : α) (acc : List D) (o1 : O) (p : Addr) (Q' : VK'), zs[i]? = some z → L p = none → A i acc o1 → (∀ y o2, A (i + 1) (acc ++ [y]) o2 → Q' y (up (up L b o2) p (.lst acc))) →
      g (enc z) (wipeD τ vs) (up (up L b o1) p (.lst acc)) fun τ2 L2 => te τ2 L2 Q')
    (hq : ∀ p acc o1, L p = none → A zs.length acc o1 → acc.length = zs.length → Q (.ref p) (up (up L b o1) p (.lst acc))) : wLc wi g wYes te vs τ L Q := by
  refine hi _ fun st hst p np => ?_
  have hpb : p ≠ b := fun z => by subst z; rw [np] at hb; cases hb
  refine ⟨fun i L' => ∃ acc o1, A i acc o1 ∧ acc.length = i ∧ L' = up (up L b o1) p (.lst acc), ⟨[], o, a0, rfl, by rw [up_id hb]⟩, ?_, ?_, ?_⟩
  · rintro i L' _ ⟨acc, o1, _, _, rfl⟩
    exact hst p _ o1 np
  · rintro i x L' hx ⟨acc, o1, ha, hl, rfl⟩
    rw [List.getElem?_map] at hx
    cases hz2 : zs[i]? with
    | none => rw [hz2] at hx; cases hx
    | some z =>
      rw [hz2] at hx
      cases hx
      have il := getlt hz2
      unfold wYes
      simp only [if_true]
      refine step i z acc o1 p _ hz2 np ha fun y o2 h2 => ⟨acc, up_same, by omega, ?_⟩
      rw [up_up]
      exact .mk ⟨acc ++ [y], o2, h2, by simp [hl], rfl⟩
  · rintro L' ⟨acc, o1, ha, hl, rfl⟩
    rw [List.length_map] at ha hl
    exact hq p acc o1 np ha hl
theorem up_out {L : Lp} {p b : Addr} {o1 o2 u : O} (h : p ≠ b) : up (up (up L b o1) p u) b o2 = up (up L b o2) p u := by
  rw [up_comm h, up_up]
theorem rd_law_handed : RD_law_handed K := by
  intro ds L Q E h
  unfold sp_law_handed at h
  split at h
  · rename_i b d
    obtain ⟨o, T, xs, hb, hB, hT, rfl, hz, h⟩ := h
    unfold t_law_handed
    walk_at "s0"
    walk_at "rr"
    refine lcM_b xs cD (fun i ds o => All2 HC (xs.take i) ds ∧ IsBag (T + 3 * i) o) (szl (by omega)) o hb ⟨.nil, hB⟩ (fun R k => ?_) ?_ ?_
    · walk_at "rr"
      exact k _ fun _ _ _ _ => trivial
    · rintro i z acc o1 p Q' hi np ⟨a0, hB1⟩ hq
      have hil := getlt hi
      have hpb : p ≠ b := fun z => by subst z; rw [np] at hb; cases hb
      walk_at "rr"
      refine lcF_b [z.1, z.2.1, z.2.2] numD id (fun j bs o => All2 Hnd ([z.1, z.2.1, z.2.2].take j) bs ∧ IsBag (T + 3 * i + j) o) (szl (by show 3 ≤ 1000; decide)) (fun _ _ _ => trivial) o1 (by rw [up_ne (Ne.symm hpb), up_same]) ⟨.nil, hB1⟩ ?_ ?_
      · rintro j q bs o2 Q2 hj ⟨a1, hB2⟩ hq2
        have hjl := getlt hj
        have hjl : j < 3 := hjl
        walk_at "rr"
        refine ⟨o2, _, q, up_same, hB2, by omega, rfl, fun y o3 hy hB3 => ?_⟩
        have := hq2 y o3 ⟨a1.take hj hy, hB3⟩
        simpa only [up_up, id] using this
      · rintro bs2 o2 ⟨a1, hB2⟩ hl
        walk_at "rr"
        rw [List.map_id, up_out hpb]
        refine hq (.tup bs2) o2 ⟨a0.take hi ?_, ?_⟩
        · have a1 : All2 Hnd [z.1, z.2.1, z.2.2] bs2 := a1
          match bs2, a1 with
          | [d1, d2, d3], .cons h1 (.cons h2 (.cons h3 .nil)) => exact ⟨d1, d2, d3, rfl, h1, h2, h3⟩
        · have : T + 3 * (i + 1) = T + 3 * i + 3 := by omega
          rw [this]; exact hB2
    · rintro p acc o1 np ⟨a1, hB1⟩ hl
      rw [List.take_length] at a1
      exact .mk (h acc o1 p (hB1.le (by omega)) a1 np)
  · exact h.elim
end Hd

set_option exponentiation.threshold 20000
open PySem PySem.Spec PyProof.Rows L2 Z
namespace Hd
local macro_rules | `(tactic| walk_at "st") => `(tactic| simp (implicitDefEqProofs := false) only [↓seqD_up, ↓seqL_up, ↓len_ilst, ↓len_up, ↓truD_ilst, up_up, List.length_map, ↓wFor_m, ↓frzK_up, ↓frzK_upi, ↓wFz_e, ↓wFg_e, ↓wLstF_e, ↓addF_int, ↓addF_l, ↓addF_tup, ↓addF_str, ↓mulF_int, ↓mulF_l, ↓wSlF_e, ↓slF_tup, ↓slF_str, ↓slF_l, ↓slF_scr, ↓slF_ref, ↓listF_eq, ↓listdF_eq, ↓sortedF_eq, ↓allF_eq, ↓sumF_eq, ↓extF_eq, ↓vEnumF_e, ↓enF_l, ↓fldF_obj, ↓fldF_ref, ↓wFldF_e, ↓wLcF_e, ↓pName_e, ↓pNil_e, ↓pCons_e, ↓pTup_e, ↓gK_some, ↓obind_e, ↓seqL_ilst, ↓addM_eq, ↓sq2_some, ↓wVar_0, ↓wVar_s, ↓hNil_e, ↓hCons_e, ↓wDget_e, ↓wDget2_e, ↓wDput_m, ↓wSortIt_e, ↓wMake_e, ↓wIfS_m, ↓wSeq_m, ↓wAsg_m, ↓hName_e, ↓wC_e, ↓wNil_e, ↓wCons_e, ↓wTup_e, ↓wLst_e, ↓wOp_e, ↓wUn_e, ↓wIf_e, ↓wAndV_e, ↓wOrV_e, ↓wNotV_e, ↓wB_e, ↓wAnd_e, ↓wOr_e, ↓zNot_e, ↓zTru_e, ↓hCons_e, ↓hTup_e, ↓hSub_e, ↓wNext_m, ↓wDrop_m, ↓wRet_m, ↓wRetN_m, ↓wPar_m, ↓wCB_e, ↓wCall_e, ↓wIxk_e, ↓wSl_e, ↓wNoPart_e, ↓wPart_e, ↓wBM_e, ↓wBM0_e, ↓wChain_e, ↓wNever_e, ↓vSeq_e, ↓vEnum_e, ↓vRng1_e, ↓vRng2_e, vZip, ↓blK_bl, ↓tupK_tup, ↓pairK_2, ↓inK_int, ↓truD_bl, ↓truD_int, ↓truD_non, ↓truD_tup, ↓isn_non, ↓isn_int, ↓isn_bl, ↓isn_str, ↓isn_tup, ↓isn_ref, ↓Z.add_int, ↓add_tup, ↓add_ref, ↓intD_eq, ↓intD0_eq, ↓Z.mul_int, ↓Z.eq_int, ↓Z.ne_int, ↓Z.eq_bl, ↓ne_bl, ↓Z.eq_str, ↓Z.ne_str, ↓eq_non, ↓eq_tup, ↓eq_ref, ↓Z.neg_int, ↓seq_tup, ↓seq_ilst, ↓Z.ix_tup, ↓ix_int, ↓sqK_some, ↓ixK_0, ↓ixK_s, ↓tyK_some, ↓ty_non, ↓ty_bl, ↓ty_int, ↓ty_str, ↓ty_tup, ↓ty_ilst, ↓isi_eq, ↓isi2_eq, isiW, ↓len_tup, ↓intc_int, ↓abs_int, ↓gcd_int, ↓list_seq, ↓tuple_seq, ↓all_ref, ↓sum_ref, ↓Z.sl_tup, ↓sl_ilst, ↓sl_ref, ↓walk_tup, ↓walk_ilst, ↓walk_ref, ↓en_ref, start', List.map_cons, List.map_nil, List.cons_append, List.nil_append, List.append_nil, List.length_cons, List.length_nil, List.replicate, List.set_cons_zero, List.set_cons_succ, List.set_nil, List.getElem?_cons_zero, List.getElem?_cons_succ, wipeD, Nat.zero_add, Nat.reduceAdd, Nat.reduceSub, Nat.sub_self, Nat.sub_zero, true_and, and_true, if_true, if_false, Bool.not_true, Bool.not_false, ite_true, ite_false, Bool.false_eq_true, decide_true, decide_false, decide_eq_true_eq, Int.cast_ofNat_Int, reduceIte, Bool.not_eq_true', decide_eq_false_iff_not, Bool.and_true, Bool.true_and, Bool.and_false, Bool.false_and, Bool.or_true, Bool.true_or, Bool.or_false, Bool.false_or, beq_self_eq_true, bne_self_eq_false, not_true_eq_false, not_false_eq_true, String.reduceBEq, String.reduceBNe, Int.reduceToNat, Bool.true_eq_false, reduceCtorEq, Int.reduceEq, Int.reduceLT, Int.reduceLE, gt_iff_lt, ge_iff_le, ↓wBreak_m, ↓wCont_m, ↓wPar3_m, trioK_3, ↓wFldS_m, ↓wFld_e, ↓wChain_e, ↓wLam_e, ↓wIsE_e, ↓wRaise0_e, ↓wCallX_e, ↓wCallKX_e, ↓wYes_e, ↓wCallK_e, isDct_eq, dkK_eq, ↓wDnewT_e])
local macro_rules | `(tactic| walk_at "go") => `(tactic| ((first | with_reducible refine hld_i ?_ | skip); try walk_at "st"))
local macro_rules | `(tactic| walk_at "sx") => `(tactic| ((try simp only [sp_is_integer, sp_lowest, sp_exact, sp_law_draw, sp_law_of, sp_law_same, sp_law_low, sp_law_hand, sp_law_number, sp_is_number, sp_is_corner, sp_is_index, sp_is_face, sp_Net_init, sp_Net_eq, sp_law_bag, sp_law_is_num, sp_law_handed, sp_law_bad, sp_law_bent_corner, sp_law_bent_face, sp_law_any, sp_law_bend, sp_law_drawn, sp_law_pair]); try walk_at "st"))
local macro_rules | `(tactic| walk_at "s0") => `(tactic| simp (implicitDefEqProofs := false) only [start', List.map_cons, List.map_nil, List.length_cons, List.length_nil, Nat.zero_add, Nat.reduceAdd, Nat.reduceSub, List.replicate, List.cons_append, List.nil_append])
local macro_rules | `(tactic| walk_at "rr") => `(tactic| repeat (first | with_reducible refine hld_i ?_ | walk_at "st"))
local macro_rules | `(tactic| walk_at "rx") => `(tactic| repeat (first | with_reducible refine hld_i ?_ | walk_at "st" | simp only [sp_is_integer, sp_lowest, sp_exact, sp_law_draw, sp_law_of, sp_law_same, sp_law_low, sp_law_hand, sp_law_number, sp_is_number, sp_is_corner, sp_is_index, sp_is_face, sp_Net_init, sp_Net_eq, sp_law_bag, sp_law_is_num, sp_law_handed, sp_law_bad, sp_law_bent_corner, sp_law_bent_face, sp_law_any, sp_law_bend, sp_law_drawn, sp_law_pair]))
local macro_rules | `(tactic| walk_at "dw") => `(tactic| (refine draw (by first | exact up_same | assumption) (by assumption) (by omega) (by omega) (by omega) ?_))

variable {K : PySem.W.Frag}
theorem Same.mono {L L' : Lp} (l : Le L L') : ∀ {n : Nat} {d e : D}, Same n L d e → Same n L' d e
  | 0, _, _, h => h.elim
  | n + 1, d, e, h => by
    have go : ∀ {ds es : List D}, All2 (Same n L) ds es → All2 (Same n L') ds es := fun {ds es} r => by
      induction r with
      | nil => exact .nil
      | cons a _ ih => exact .cons (Same.mono l a) ih
    unfold Same at h ⊢
    split at h
    · exact h
    · exact h
    · exact h
    · exact h
    · exact ⟨h.1, go h.2⟩
    · exact ⟨h.1, go h.2⟩
    · obtain ⟨ds, h1, h3, h4⟩ := h
      exact ⟨ds, l _ _ h1, h3, go h4⟩
    · exact h.elim
theorem zpD_eq : ∀ ds es : List D, zpD ds es = (ds.zip es).map fun p => .tup [p.1, p.2]
  | [], _ => rfl
  | _ :: _, [] => rfl
  | d :: ds, e :: es => congrArg (D.tup [d, e] :: ·) (zpD_eq ds es)
theorem zip_same {R : D → D → Prop} : ∀ {ds es : List D}, All2 R ds es → ∀ p ∈ ds.zip es, R p.1 p.2
  | _, _, .nil, p, h => by cases h
  | _, _, .cons a r, p, h => by
    rcases List.mem_cons.mp h with rfl | h
    · exact a
    · exact zip_same r p h

theorem same_all {n : Nat} {ds es : List D} {L : Lp} {Q : VK'} {o0 o1 o2 o3 : Option D} {st : Lp → Prop} (hz : ds.length ≤ sizeLine) (hs : All2 (Same n L) ds es) (h : Q (.bl true) L) (hst : ∀ L', Le L L' → st L') :
    lcF (pTup 2 (pCons (pName 2) (pCons (pName 3) pNil))) wYes (wCall (sp_law_sameN n) [] X0 (wCons (wVar 2) (wCons (wVar 3) wNil))) [2, 3] [o0, o1, o2, o3] (fun d L1 => allF (fun bs => bs.all id) [d] L1 fun d L1 => Dn (Q d) L1) (zpD ds es) st L := by
  rw [zpD_eq]
  refine lcF_f (ds.zip es) (fun p => .tup [p.1, p.2]) (fun _ => .bl true) (by rw [List.length_zip]; omega) hst (fun z Q' hm hq => ?_) ?_
  · walk_at "rr"
    exact ⟨zip_same hs z hm, hq⟩
  · walk_at "rr"
    refine ⟨(ds.zip es).map fun _ => true, by rw [List.map_map]; rfl, ?_⟩
    have : ((ds.zip es).map fun _ => true).all id = true := by simp
    rw [this]
    exact .mk h
abbrev sameS : List Str := ["_law_found", "_law_due", "_law_part_a", "_law_part_b"]
theorem rd_same_flat {n : Nat} {d e : D} {L : Lp} {Q : VK'} (hd : (∃ i, d = .int i ∧ e = .int i) ∨ (∃ c, d = .bl c ∧ e = .bl c) ∨ ∃ z, d = .str z ∧ e = .str z) (h : Q (.bl true) L) : t_law_same K (sp_law_sameN n) ⟨fun _ L1 => Dn (Q .non) L1, fun d L1 => Dn (Q d) L1, fun _ _ => False, fun _ _ => False⟩ (start' sameS [d, e]) L := by
  rcases hd with ⟨i, rfl, rfl⟩ | ⟨c, rfl, rfl⟩ | ⟨z, rfl, rfl⟩
  all_goals
    unfold t_law_same t_law_same_1 t_law_same_2 t_law_same_3 t_law_same_4
    unfold sameS
    walk_at "s0"
    walk_at "rr"
    refine ⟨by decide, by decide, ?_⟩
    try walk_at "rr"
    rw [if_neg (by decide)]
    walk_at "rr"
    refine ⟨by decide, by decide, ?_⟩
    try walk_at "rr"
    try rw [if_neg (by decide)]
    walk_at "rr"
    exact .mk h
theorem rd_same_tup {n : Nat} {ds es : List D} {L : Lp} {Q : VK'} (hz : ds.length ≤ sizeLine) (hs : All2 (Same n L) ds es) (h : Q (.bl true) L) : t_law_same K (sp_law_sameN n) ⟨fun _ L1 => Dn (Q .non) L1, fun d L1 => Dn (Q d) L1, fun _ _ => False, fun _ _ => False⟩ (start' sameS [.tup ds, .tup es]) L := by
  have hl := hs.length
  unfold t_law_same t_law_same_1 t_law_same_2 t_law_same_3 t_law_same_4
  unfold sameS
  walk_at "s0"
  walk_at "rr"
  refine ⟨by decide, by decide, ?_⟩
  try walk_at "rr"
  rw [if_pos (by decide)]
  walk_at "rr"
  rw [if_pos (by omega)]
  walk_at "rr"
  exact ⟨rfl, same_all hz hs h fun _ _ => ⟨rfl, rfl⟩⟩
theorem rd_same_ilst {n : Nat} {ds es : List D} {L : Lp} {Q : VK'} (hz : ds.length ≤ sizeLine) (hs : All2 (Same n L) ds es) (h : Q (.bl true) L) : t_law_same K (sp_law_sameN n) ⟨fun _ L1 => Dn (Q .non) L1, fun d L1 => Dn (Q d) L1, fun _ _ => False, fun _ _ => False⟩ (start' sameS [.ilst ds, .ilst es]) L := by
  have hl := hs.length
  unfold t_law_same t_law_same_1 t_law_same_2 t_law_same_3 t_law_same_4
  unfold sameS
  walk_at "s0"
  walk_at "rr"
  refine ⟨by decide, by decide, ?_⟩
  try walk_at "rr"
  rw [if_pos (by decide)]
  walk_at "rr"
  rw [if_pos (by omega)]
  walk_at "rr"
  exact ⟨rfl, same_all hz hs h fun _ _ => ⟨rfl, rfl⟩⟩
theorem rd_same_ref {n : Nat} {a : Addr} {ds es : List D} {L : Lp} {Q : VK'} (ha : L a = some (.lst ds)) (hz : ds.length ≤ sizeLine) (hs : All2 (Same n L) ds es) (h : Q (.bl true) L) : t_law_same K (sp_law_sameN n) ⟨fun _ L1 => Dn (Q .non) L1, fun d L1 => Dn (Q d) L1, fun _ _ => False, fun _ _ => False⟩ (start' sameS [.ref a, .ilst es]) L := by
  have hl := hs.length
  unfold t_law_same t_law_same_1 t_law_same_2 t_law_same_3 t_law_same_4
  unfold sameS
  walk_at "s0"
  walk_at "rr"
  refine ⟨by decide, by decide, ?_⟩
  try walk_at "rr"
  rw [if_pos (by decide)]
  walk_at "rr"
  simp (implicitDefEqProofs := false) only [↓ty_ref ha, ↓tyK_some]
  walk_at "rr"
  rw [len_seq (seq_ref ha)]
  walk_at "rr"
  rw [if_pos (by omega)]
  walk_at "rr"
  rw [seq_ref ha]
  dsimp only
  exact ⟨rfl, same_all hz hs h fun L' l => ⟨seq_ref (l _ _ ha), rfl⟩⟩
theorem rd_same_non {n : Nat} {L : Lp} {Q : VK'} (h : Q (.bl true) L) : t_law_same K (sp_law_sameN n) ⟨fun _ L1 => Dn (Q .non) L1, fun d L1 => Dn (Q d) L1, fun _ _ => False, fun _ _ => False⟩ (start' sameS [.non, .non]) L := by
  unfold t_law_same t_law_same_1 t_law_same_2 t_law_same_3 t_law_same_4
  unfold sameS
  walk_at "s0"
  walk_at "rr"
  refine ⟨by decide, by decide, ?_⟩
  try walk_at "rr"
  rw [if_neg (by decide)]
  walk_at "rr"
  exact .mk h
theorem rd_law_same (n : Nat) : RD_law_same K (sp_law_sameN n) n := by
  intro ds L Q E h
  unfold sp_law_sameN at h
  split at h
  · rename_i d e
    obtain ⟨hs, h⟩ := h
    unfold Same at hs
    split at hs
    · subst hs
      exact rd_same_flat (.inl ⟨_, rfl, rfl⟩) h
    · subst hs
      exact rd_same_flat (.inr (.inl ⟨_, rfl, rfl⟩)) h
    · subst hs
      exact rd_same_flat (.inr (.inr ⟨_, rfl, rfl⟩)) h
    · exact rd_same_non h
    · exact rd_same_tup hs.1 hs.2 h
    · exact rd_same_ilst hs.1 hs.2 h
    · obtain ⟨xs, h1, h3, h4⟩ := hs
      exact rd_same_ref h1 h3 h4 h
    · exact hs.elim
  · exact h.elim
theorem same_num {n : Nat} {L : Lp} (q : Rat) : Same (n + 2) L (numD q) (numD q) := ⟨szl (Nat.le_of_ble_eq_true rfl), .cons rfl (.cons rfl .nil)⟩
theorem same_f {n : Nat} {L : Lp} (f : F3) : Same (n + 2) L (fD f) (fD f) := ⟨szl (Nat.le_of_ble_eq_true rfl), .cons rfl (.cons rfl (.cons rfl .nil))⟩
theorem same_c {n : Nat} {L : Lp} (c : C3) : Same (n + 3) L (cD c) (cD c) := ⟨szl (Nat.le_of_ble_eq_true rfl), .cons (same_num _) (.cons (same_num _) (.cons (same_num _) .nil))⟩
theorem all_same {α : Type} {R : D → D → Prop} (enc : α → D) (h : ∀ a, R (enc a) (enc a)) : ∀ l : List α, All2 R (l.map enc) (l.map enc)
  | [] => .nil
  | a :: l => .cons (h a) (all_same enc h l)
theorem same_e {L : Lp} {d e : D} {Q : VK'} {E : XK'} (h : Same 6 L d e) (q : Q (.bl true) L) : sp_law_same [d, e] L Q E := ⟨h, q⟩
theorem sz {α : Type} {l : List α} {enc : α → D} {n : Nat} (h : l.length ≤ n) (hn : n ≤ 1000) : (l.map enc).length ≤ sizeLine := by
  rw [List.length_map]
  exact szl (Nat.le_trans h hn)
end Hd

set_option exponentiation.threshold 20000
open PySem PySem.Spec PyProof.Rows L2 Z
namespace Hd
local macro_rules | `(tactic| walk_at "st") => `(tactic| simp (implicitDefEqProofs := false) only [↓seqD_up, ↓seqL_up, ↓len_ilst, ↓len_up, ↓truD_ilst, up_up, List.length_map, ↓wFor_m, ↓frzK_up, ↓frzK_upi, ↓wFz_e, ↓wFg_e, ↓wLstF_e, ↓addF_int, ↓addF_l, ↓addF_tup, ↓addF_str, ↓mulF_int, ↓mulF_l, ↓wSlF_e, ↓slF_tup, ↓slF_str, ↓slF_l, ↓slF_scr, ↓slF_ref, ↓listF_eq, ↓listdF_eq, ↓sortedF_eq, ↓allF_eq, ↓sumF_eq, ↓extF_eq, ↓vEnumF_e, ↓enF_l, ↓fldF_obj, ↓fldF_ref, ↓wFldF_e, ↓wLcF_e, ↓pName_e, ↓pNil_e, ↓pCons_e, ↓pTup_e, ↓gK_some, ↓obind_e, ↓seqL_ilst, ↓addM_eq, ↓sq2_some, ↓wVar_0, ↓wVar_s, ↓hNil_e, ↓hCons_e, ↓wDget_e, ↓wDget2_e, ↓wDput_m, ↓wSortIt_e, ↓wMake_e, ↓wIfS_m, ↓wSeq_m, ↓wAsg_m, ↓hName_e, ↓wC_e, ↓wNil_e, ↓wCons_e, ↓wTup_e, ↓wLst_e, ↓wOp_e, ↓wUn_e, ↓wIf_e, ↓wAndV_e, ↓wOrV_e, ↓wNotV_e, ↓wB_e, ↓wAnd_e, ↓wOr_e, ↓zNot_e, ↓zTru_e, ↓hCons_e, ↓hTup_e, ↓hSub_e, ↓wNext_m, ↓wDrop_m, ↓wRet_m, ↓wRetN_m, ↓wPar_m, ↓wCB_e, ↓wCall_e, ↓wIxk_e, ↓wSl_e, ↓wNoPart_e, ↓wPart_e, ↓wBM_e, ↓wBM0_e, ↓wChain_e, ↓wNever_e, ↓vSeq_e, ↓vEnum_e, ↓vRng1_e, ↓vRng2_e, vZip, ↓blK_bl, ↓tupK_tup, ↓pairK_2, ↓inK_int, ↓truD_bl, ↓truD_int, ↓truD_non, ↓truD_tup, ↓isn_non, ↓isn_int, ↓isn_bl, ↓isn_str, ↓isn_tup, ↓isn_ref, ↓Z.add_int, ↓add_tup, ↓add_ref, ↓intD_eq, ↓intD0_eq, ↓Z.mul_int, ↓Z.eq_int, ↓Z.ne_int, ↓Z.eq_bl, ↓ne_bl, ↓Z.eq_str, ↓Z.ne_str, ↓eq_non, ↓eq_tup, ↓eq_ref, ↓Z.neg_int, ↓seq_tup, ↓seq_ilst, ↓Z.ix_tup, ↓ix_int, ↓sqK_some, ↓ixK_0, ↓ixK_s, ↓tyK_some, ↓ty_non, ↓ty_bl, ↓ty_int, ↓ty_str, ↓ty_tup, ↓ty_ilst, ↓isi_eq, ↓isi2_eq, isiW, ↓len_tup, ↓intc_int, ↓abs_int, ↓gcd_int, ↓list_seq, ↓tuple_seq, ↓all_ref, ↓sum_ref, ↓Z.sl_tup, ↓sl_ilst, ↓sl_ref, ↓walk_tup, ↓walk_ilst, ↓walk_ref, ↓en_ref, start', List.map_cons, List.map_nil, List.cons_append, List.nil_append, List.append_nil, List.length_cons, List.length_nil, List.replicate, List.set_cons_zero, List.set_cons_succ, List.set_nil, List.getElem?_cons_zero, List.getElem?_cons_succ, wipeD, Nat.zero_add, Nat.reduceAdd, Nat.reduceSub, Nat.sub_self, Nat.sub_zero, true_and, and_true, if_true, if_false, Bool.not_true, Bool.not_false, ite_true, ite_false, Bool.false_eq_true, decide_true, decide_false, decide_eq_true_eq, Int.cast_ofNat_Int, reduceIte, Bool.not_eq_true', decide_eq_false_iff_not, Bool.and_true, Bool.true_and, Bool.and_false, Bool.false_and, Bool.or_true, Bool.true_or, Bool.or_false, Bool.false_or, beq_self_eq_true, bne_self_eq_false, not_true_eq_false, not_false_eq_true, String.reduceBEq, String.reduceBNe, Int.reduceToNat, Bool.true_eq_false, reduceCtorEq, Int.reduceEq, Int.reduceLT, Int.reduceLE, gt_iff_lt, ge_iff_le, ↓wBreak_m, ↓wCont_m, ↓wPar3_m, trioK_3, ↓wFldS_m, ↓wFld_e, ↓wChain_e, ↓wLam_e, ↓wIsE_e, ↓wRaise0_e, ↓wCallX_e, ↓wCallKX_e, ↓wYes_e, ↓wCallK_e, isDct_eq, dkK_eq, ↓wDnewT_e])
local macro_rules | `(tactic| walk_at "go") => `(tactic| ((first | with_reducible refine hld_i ?_ | skip); try walk_at "st"))
local macro_rules | `(tactic| walk_at "sx") => `(tactic| ((try simp only [sp_is_integer, sp_lowest, sp_exact, sp_law_draw, sp_law_of, sp_law_same, sp_law_low, sp_law_hand, sp_law_number, sp_is_number, sp_is_corner, sp_is_index, sp_is_face, sp_Net_init, sp_Net_eq, sp_law_bag, sp_law_is_num, sp_law_handed, sp_law_bad, sp_law_bent_corner, sp_law_bent_face, sp_law_any, sp_law_bend, sp_law_drawn, sp_law_pair]); try walk_at "st"))
local macro_rules | `(tactic| walk_at "s0") => `(tactic| simp (implicitDefEqProofs := false) only [start', List.map_cons, List.map_nil, List.length_cons, List.length_nil, Nat.zero_add, Nat.reduceAdd, Nat.reduceSub, List.replicate, List.cons_append, List.nil_append])
local macro_rules | `(tactic| walk_at "rr") => `(tactic| repeat (first | with_reducible refine hld_i ?_ | walk_at "st"))
local macro_rules | `(tactic| walk_at "rx") => `(tactic| repeat (first | with_reducible refine hld_i ?_ | walk_at "st" | simp only [sp_is_integer, sp_lowest, sp_exact, sp_law_draw, sp_law_of, sp_law_same, sp_law_low, sp_law_hand, sp_law_number, sp_is_number, sp_is_corner, sp_is_index, sp_is_face, sp_Net_init, sp_Net_eq, sp_law_bag, sp_law_is_num, sp_law_handed, sp_law_bad, sp_law_bent_corner, sp_law_bent_face, sp_law_any, sp_law_bend, sp_law_drawn, sp_law_pair]))
local macro_rules | `(tactic| walk_at "dw") => `(tactic| (refine draw (by first | exact up_same | assumption) (by assumption) (by omega) (by omega) (by omega) ?_))

variable {K : PySem.W.Frag}
theorem lcF_i {g : PG'} {te : TE'} {vs : List Nat} {τ : S'} {L1 : Lp} {Q : VK'} {st : Lp → Prop} (ds : List D) (f : D → D) (hz : ds.length ≤ sizeLine) (hst : ∀ L', Le L1 L' → st L')
    (step : ∀ (z : D) (Q' : VK'), z ∈ ds → Q' (f z) L1 → gK (g z (wipeD τ vs)) fun τ2 => te τ2 L1 Q')
    (hq : Q (.ilst (ds.map f)) L1) : lcF g wYes te vs τ Q ds st L1 := by
  have := lcF_f (g := g) (te := te) (vs := vs) (τ := τ) (L1 := L1) (Q := Q) (st := st) ds id f hz hst step hq
  rw [List.map_id] at this
  exact this
def isI (d : D) : Bool := match d with
  | .int _ => true
  | _ => false
theorem isI_int {d : D} (h : isI d = true) : ∃ i, d = .int i := by
  cases d <;> first | exact ⟨_, rfl⟩ | cases h
def tyn (d : D) : String := match d with
  | .non => "NoneType"
  | .bl _ => "bool"
  | .int _ => "int"
  | .str _ => "str"
  | .tup _ => "tuple"
  | _ => "list"
theorem ok_cases {n : Nat} {d : D} {P : D → Prop} (h : OkV n d) (h1 : P .non) (h2 : ∀ b, P (.bl b)) (h3 : ∀ x, P (.str x)) (h4 : ∀ i : Int, i.natAbs < 2 ^ 60 → P (.int i))
    (h5 : ∀ ds m, n = m + 1 → ds.length ≤ 20 → (∀ d ∈ ds, OkV m d) → P (.tup ds)) (h6 : ∀ ds m, n = m + 1 → ds.length ≤ 20 → (∀ d ∈ ds, OkV m d) → P (.ilst ds)) : P d := by
  cases d with
  | non => exact h1
  | bl b => exact h2 b
  | str x => exact h3 x
  | int i => unfold OkV at h; exact h4 i h
  | tup ds =>
    cases n with
    | zero => unfold OkV at h; exact h.elim
    | succ m => unfold OkV at h; exact h5 ds m rfl h.1 h.2
  | ilst ds =>
    cases n with
    | zero => unfold OkV at h; exact h.elim
    | succ m => unfold OkV at h; exact h6 ds m rfl h.1 h.2
  | ref a => cases n <;> (unfold OkV at h; exact h.elim)
  | ty z => cases n <;> (unfold OkV at h; exact h.elim)
  | obj C fs => cases n <;> (unfold OkV at h; exact h.elim)
  | scr ns => cases n <;> (unfold OkV at h; exact h.elim)
theorem ok_ty {n : Nat} {d : D} (h : OkV n d) (L : Lp) : tyD d L = some (tyn d) :=
  ok_cases (P := fun d => tyD d L = some (tyn d)) h rfl (fun _ => rfl) (fun _ => rfl) (fun _ _ => rfl) (fun _ _ _ _ _ => rfl) (fun _ _ _ _ _ => rfl)
theorem tyn_int {n : Nat} {d : D} (h : OkV n d) : (tyn d == "int") = isI d :=
  ok_cases (P := fun d => (tyn d == "int") = isI d) h rfl (fun _ => rfl) (fun _ => rfl) (fun _ _ => rfl) (fun _ _ _ _ _ => rfl) (fun _ _ _ _ _ => rfl)
theorem spi {n : Nat} {d : D} {L : Lp} {Q : VK'} {E : XK'} (h : OkV n d) (q : Q (.bl (isI d)) L) : sp_is_integer [d] L Q E := by
  unfold sp_is_integer
  show tyK (tyD d L) _
  rw [ok_ty h, tyK_some, tyn_int h]
  exact q
theorem ok_tup {n : Nat} {ds : List D} (h : OkV n (.tup ds)) : ∃ m, n = m + 1 ∧ ds.length ≤ 20 ∧ ∀ d ∈ ds, OkV m d := by
  cases n with
  | zero => unfold OkV at h; exact h.elim
  | succ m => unfold OkV at h; exact ⟨m, rfl, h.1, h.2⟩
theorem isNum_tup2 {a b : D} : isNumD (.tup [a, b]) = (isI a && isI b && match a, b with
  | .int n, .int e => decide (0 < e) && decide (Nat.gcd n.natAbs e.natAbs = 1)
  | _, _ => false) := by
  cases a <;> cases b <;> rfl
theorem isNum_len {ds : List D} (h : ds.length ≠ 2) : isNumD (.tup ds) = false := by
  match ds, h with
  | [], _ => rfl
  | [a], _ => cases a <;> rfl
  | [_, _], h => exact absurd rfl h
  | a :: b :: _ :: _, _ => cases a <;> first | rfl | (cases b <;> rfl)
theorem rd_is_number : RD_is_number K := by
  intro ds L Q E h
  unfold sp_is_number at h
  split at h
  · rename_i d
    obtain ⟨ok, h⟩ := h
    have flat : isI d = false → (∀ xs, d ≠ .tup xs) → isNumD d = false → t_is_number K { nx := fun _ L1 => Dn (Q .non) L1, rt := fun d L1 => Dn (Q d) L1 } (start' ["value", "n", "d"] [d]) L := by
      intro h1 h2 h3
      unfold t_is_number t_is_number_1 t_is_number_2 t_is_number_3
      walk_at "s0"
      walk_at "rr"
      refine spi ok ?_
      rw [h1]
      walk_at "rr"
      rw [ok_ty ok]
      walk_at "rr"
      have e : (tyn d == "tuple") = false := by
        cases d <;> first | rfl | exact absurd rfl (h2 _)
      simp only [e]
      rw [h3] at h
      walk_at "rr"
      exact .mk h
    refine ok_cases (P := fun d => OkV 2 d → Q (.bl (isNumD d)) L → (isI d = false → (∀ xs, d ≠ .tup xs) → isNumD d = false → t_is_number K { nx := fun _ L1 => Dn (Q .non) L1, rt := fun d L1 => Dn (Q d) L1 } (start' ["value", "n", "d"] [d]) L) → t_is_number K { nx := fun _ L1 => Dn (Q .non) L1, rt := fun d L1 => Dn (Q d) L1 } (start' ["value", "n", "d"] [d]) L) ok ?_ ?_ ?_ ?_ ?_ ?_ ok h flat
    · exact fun _ _ f => f rfl (fun _ z => nomatch z) rfl
    · exact fun _ _ _ f => f rfl (fun _ z => nomatch z) rfl
    · exact fun _ _ _ f => f rfl (fun _ z => nomatch z) rfl
    · intro i _ ok h _
      unfold t_is_number t_is_number_1 t_is_number_2 t_is_number_3
      walk_at "s0"
      walk_at "rr"
      refine spi ok ?_
      rw [show isI (.int i) = true from rfl]
      walk_at "rr"
      exact .mk h
    · intro xs m hm lx okx ok h _
      unfold t_is_number t_is_number_1 t_is_number_2 t_is_number_3
      walk_at "s0"
      walk_at "rr"
      refine spi ok ?_
      rw [show isI (.tup xs) = false from rfl]
      walk_at "rr"
      by_cases c : xs.length = 2
      · match xs, c with
        | [a, b], _ =>
          walk_at "rr"
          rw [isNum_tup2] at h
          have oka := okx a (by simp)
          have okb := okx b (by simp)
          refine spi oka ?_
          cases ha : isI a with
          | false =>
            rw [ha] at h
            walk_at "rr"
            exact .mk h
          | true =>
            walk_at "rr"
            refine spi okb ?_
            cases hb : isI b with
            | false =>
              rw [ha, hb] at h
              walk_at "rr"
              exact .mk h
            | true =>
              rw [ha, hb] at h
              obtain ⟨n, rfl⟩ := isI_int ha
              obtain ⟨e, rfl⟩ := isI_int hb
              walk_at "rr"
              by_cases c1 : 0 < e
              · rw [if_pos c1]
                simp only [c1, decide_true, Bool.true_and, Bool.and_self] at h
                walk_at "rr"
                have e2 : decide ((((n.natAbs).gcd e.natAbs : Nat) : Int) = 1) = decide (n.natAbs.gcd e.natAbs = 1) := decide_eq_decide.mpr (by omega)
                rw [e2]
                exact .mk h
              · rw [if_neg c1]
                simp only [c1, decide_false, Bool.false_and, Bool.and_false] at h
                exact .mk h
      · rw [isNum_len c] at h
        rw [if_pos (by omega)]
        walk_at "rr"
        exact .mk h
    · exact fun _ _ _ _ _ _ _ f => f rfl (fun _ z => nomatch z) rfl
  · exact h.elim
theorem all_map {p : D → Bool} (ds : List D) : (ds.map fun d => D.bl (p d)) = (ds.map p).map D.bl := by rw [List.map_map]; rfl
theorem ok2_mem {ds : List D} {m n : Nat} (h : n + 1 = m + 1) (k : ∀ d ∈ ds, OkV m d) : ∀ d ∈ ds, OkV n d := by
  cases h
  exact k
theorem rd_is_corner : RD_is_corner K := by
  intro ds L Q E h
  unfold sp_is_corner at h
  split at h
  · rename_i d
    obtain ⟨ok, h⟩ := h
    by_cases c : ∃ xs, d = .tup xs
    · obtain ⟨xs, rfl⟩ := c
      obtain ⟨m, hm, lx, okx⟩ := ok_tup ok
      cases hm
      unfold t_is_corner
      walk_at "s0"
      walk_at "rr"
      unfold isCornerD at h
      by_cases c : xs.length = 3
      · rw [if_pos (by omega)]
        simp only [c, decide_true, Bool.true_and] at h
        walk_at "rr"
        refine lcF_i xs (fun d => .bl (isNumD d)) (szl (by omega)) (fun _ _ => trivial) (fun z Q' hz hq => ?_) ?_
        · walk_at "rr"
          exact ⟨okx z hz, hq⟩
        · rw [all_map]
          walk_at "rr"
          exact ⟨xs.map isNumD, rfl, .mk h⟩
      · rw [if_neg (by omega)]
        simp only [c, decide_false, Bool.false_and] at h
        have e : decide ((xs.length : Int) = 3) = false := decide_eq_false (by omega)
        try rw [e]
        exact .mk h
    · unfold t_is_corner
      walk_at "s0"
      walk_at "rr"
      rw [ok_ty ok]
      walk_at "rr"
      have e : (tyn d == "tuple") = false := by
        cases d <;> first | rfl | exact absurd ⟨_, rfl⟩ c
      have e2 : isCornerD d = false := by
        cases d <;> first | rfl | exact absurd ⟨_, rfl⟩ c
      rw [e2] at h
      simp only [e]
      walk_at "rr"
      exact .mk h
  · exact h.elim
theorem rd_is_index : RD_is_index K := by
  intro ds L Q E h
  unfold sp_is_index at h
  split at h
  · rename_i d m
    obtain ⟨ok, h⟩ := h
    by_cases c : ∃ i, d = .int i
    · obtain ⟨i, rfl⟩ := c
      unfold t_is_index
      walk_at "s0"
      walk_at "rr"
      unfold isIdxD at h
      by_cases c1 : 0 ≤ i
      · rw [if_pos c1]
        simp only [c1, decide_true, Bool.true_and] at h
        walk_at "rr"
        exact .mk h
      · rw [if_neg c1]
        simp only [c1, decide_false, Bool.false_and] at h
        walk_at "rr"
        exact .mk h
    · have e2 : isIdxD m d = false := by
        cases d <;> first | rfl | exact absurd ⟨_, rfl⟩ c
      rw [e2] at h
      unfold t_is_index
      walk_at "s0"
      walk_at "rr"
      rw [ok_ty ok]
      walk_at "rr"
      by_cases cb : ∃ b, d = .bl b
      · obtain ⟨b, rfl⟩ := cb
        walk_at "rr"
        exact .mk h
      · have e : (tyn d == "int") = false := by
          cases d <;> first | rfl | exact absurd ⟨_, rfl⟩ c
        have e3 : (tyn d == "bool") = false := by
          cases d <;> first | rfl | exact absurd ⟨_, rfl⟩ cb
        simp only [e, e3]
        walk_at "rr"
        exact .mk h
  · exact h.elim
theorem rd_is_face : RD_is_face K := by
  intro ds L Q E h
  unfold sp_is_face at h
  split at h
  · rename_i d m
    obtain ⟨ok, h⟩ := h
    by_cases c : ∃ xs, d = .tup xs
    · obtain ⟨xs, rfl⟩ := c
      obtain ⟨k, hm, lx, okx⟩ := ok_tup ok
      cases hm
      unfold t_is_face
      walk_at "s0"
      walk_at "rr"
      unfold isFaceD at h
      by_cases c : xs.length = 3
      · rw [if_pos (by omega)]
        simp only [c, decide_true, Bool.true_and] at h
        walk_at "rr"
        refine lcF_i xs (fun d => .bl (isIdxD m d)) (szl (by omega)) (fun _ _ => trivial) (fun z Q' hz hq => ?_) ?_
        · walk_at "rr"
          exact ⟨okx z hz, hq⟩
        · rw [all_map]
          walk_at "rr"
          exact ⟨xs.map (isIdxD m), rfl, .mk h⟩
      · rw [if_neg (by omega)]
        simp only [c, decide_false, Bool.false_and] at h
        have e : decide ((xs.length : Int) = 3) = false := decide_eq_false (by omega)
        try rw [e]
        exact .mk h
    · unfold t_is_face
      walk_at "s0"
      walk_at "rr"
      rw [ok_ty ok]
      walk_at "rr"
      have e : (tyn d == "tuple") = false := by
        cases d <;> first | rfl | exact absurd ⟨_, rfl⟩ c
      have e2 : isFaceD m d = false := by
        cases d <;> first | rfl | exact absurd ⟨_, rfl⟩ c
      rw [e2] at h
      simp only [e]
      walk_at "rr"
      exact .mk h
  · exact h.elim
end Hd

set_option exponentiation.threshold 20000
open PySem PySem.Spec PyProof.Rows L2 Z
namespace Hd
local macro_rules | `(tactic| walk_at "st") => `(tactic| simp (implicitDefEqProofs := false) only [↓seqD_up, ↓seqL_up, ↓len_ilst, ↓len_up, ↓truD_ilst, up_up, List.length_map, ↓wFor_m, ↓frzK_up, ↓frzK_upi, ↓wFz_e, ↓wFg_e, ↓wLstF_e, ↓addF_int, ↓addF_l, ↓addF_tup, ↓addF_str, ↓mulF_int, ↓mulF_l, ↓wSlF_e, ↓slF_tup, ↓slF_str, ↓slF_l, ↓slF_scr, ↓slF_ref, ↓listF_eq, ↓listdF_eq, ↓sortedF_eq, ↓allF_eq, ↓sumF_eq, ↓extF_eq, ↓vEnumF_e, ↓enF_l, ↓fldF_obj, ↓fldF_ref, ↓wFldF_e, ↓wLcF_e, ↓pName_e, ↓pNil_e, ↓pCons_e, ↓pTup_e, ↓gK_some, ↓obind_e, ↓seqL_ilst, ↓addM_eq, ↓sq2_some, ↓wVar_0, ↓wVar_s, ↓hNil_e, ↓hCons_e, ↓wDget_e, ↓wDget2_e, ↓wDput_m, ↓wSortIt_e, ↓wMake_e, ↓wIfS_m, ↓wSeq_m, ↓wAsg_m, ↓hName_e, ↓wC_e, ↓wNil_e, ↓wCons_e, ↓wTup_e, ↓wLst_e, ↓wOp_e, ↓wUn_e, ↓wIf_e, ↓wAndV_e, ↓wOrV_e, ↓wNotV_e, ↓wB_e, ↓wAnd_e, ↓wOr_e, ↓zNot_e, ↓zTru_e, ↓hCons_e, ↓hTup_e, ↓hSub_e, ↓wNext_m, ↓wDrop_m, ↓wRet_m, ↓wRetN_m, ↓wPar_m, ↓wCB_e, ↓wCall_e, ↓wIxk_e, ↓wSl_e, ↓wNoPart_e, ↓wPart_e, ↓wBM_e, ↓wBM0_e, ↓wChain_e, ↓wNever_e, ↓vSeq_e, ↓vEnum_e, ↓vRng1_e, ↓vRng2_e, vZip, ↓blK_bl, ↓tupK_tup, ↓pairK_2, ↓inK_int, ↓truD_bl, ↓truD_int, ↓truD_non, ↓truD_tup, ↓isn_non, ↓isn_int, ↓isn_bl, ↓isn_str, ↓isn_tup, ↓isn_ref, ↓Z.add_int, ↓add_tup, ↓add_ref, ↓intD_eq, ↓intD0_eq, ↓Z.mul_int, ↓Z.eq_int, ↓Z.ne_int, ↓Z.eq_bl, ↓ne_bl, ↓Z.eq_str, ↓Z.ne_str, ↓eq_non, ↓eq_tup, ↓eq_ref, ↓Z.neg_int, ↓seq_tup, ↓seq_ilst, ↓Z.ix_tup, ↓ix_int, ↓sqK_some, ↓ixK_0, ↓ixK_s, ↓tyK_some, ↓ty_non, ↓ty_bl, ↓ty_int, ↓ty_str, ↓ty_tup, ↓ty_ilst, ↓isi_eq, ↓isi2_eq, isiW, ↓len_tup, ↓intc_int, ↓abs_int, ↓gcd_int, ↓list_seq, ↓tuple_seq, ↓all_ref, ↓sum_ref, ↓Z.sl_tup, ↓sl_ilst, ↓sl_ref, ↓walk_tup, ↓walk_ilst, ↓walk_ref, ↓en_ref, start', List.map_cons, List.map_nil, List.cons_append, List.nil_append, List.append_nil, List.length_cons, List.length_nil, List.replicate, List.set_cons_zero, List.set_cons_succ, List.set_nil, List.getElem?_cons_zero, List.getElem?_cons_succ, wipeD, Nat.zero_add, Nat.reduceAdd, Nat.reduceSub, Nat.sub_self, Nat.sub_zero, true_and, and_true, if_true, if_false, Bool.not_true, Bool.not_false, ite_true, ite_false, Bool.false_eq_true, decide_true, decide_false, decide_eq_true_eq, Int.cast_ofNat_Int, reduceIte, Bool.not_eq_true', decide_eq_false_iff_not, Bool.and_true, Bool.true_and, Bool.and_false, Bool.false_and, Bool.or_true, Bool.true_or, Bool.or_false, Bool.false_or, beq_self_eq_true, bne_self_eq_false, not_true_eq_false, not_false_eq_true, String.reduceBEq, String.reduceBNe, Int.reduceToNat, Bool.true_eq_false, reduceCtorEq, Int.reduceEq, Int.reduceLT, Int.reduceLE, gt_iff_lt, ge_iff_le, ↓wBreak_m, ↓wCont_m, ↓wPar3_m, trioK_3, ↓wFldS_m, ↓wFld_e, ↓wChain_e, ↓wLam_e, ↓wIsE_e, ↓wRaise0_e, ↓wCallX_e, ↓wCallKX_e, ↓wYes_e, ↓wCallK_e, isDct_eq, dkK_eq, ↓wDnewT_e, ↓wXf_e, ↓wIsE2_e, ↓wMakeK_e, ↓ownEqD_e, ↓wIsO_e, ↓wRaiseN_e, ↓vEnumG_e])
local macro_rules | `(tactic| walk_at "go") => `(tactic| ((first | with_reducible refine hld_i ?_ | skip); try walk_at "st"))
local macro_rules | `(tactic| walk_at "sx") => `(tactic| ((try simp only [sp_is_integer, sp_lowest, sp_exact, sp_law_draw, sp_law_of, sp_law_same, sp_law_low, sp_law_hand, sp_law_number, sp_is_number, sp_is_corner, sp_is_index, sp_is_face, sp_Net_init, sp_Net_eq, sp_law_bag, sp_law_is_num, sp_law_handed, sp_law_bad, sp_law_bent_corner, sp_law_bent_face, sp_law_any, sp_law_bend, sp_law_drawn, sp_law_pair]); try walk_at "st"))
local macro_rules | `(tactic| walk_at "s0") => `(tactic| simp (implicitDefEqProofs := false) only [start', List.map_cons, List.map_nil, List.length_cons, List.length_nil, Nat.zero_add, Nat.reduceAdd, Nat.reduceSub, List.replicate, List.cons_append, List.nil_append])
local macro_rules | `(tactic| walk_at "rr") => `(tactic| repeat (first | with_reducible refine hld_i ?_ | walk_at "st"))
local macro_rules | `(tactic| walk_at "rx") => `(tactic| repeat (first | with_reducible refine hld_i ?_ | walk_at "st" | simp only [sp_is_integer, sp_lowest, sp_exact, sp_law_draw, sp_law_of, sp_law_same, sp_law_low, sp_law_hand, sp_law_number, sp_is_number, sp_is_corner, sp_is_index, sp_is_face, sp_Net_init, sp_Net_eq, sp_law_bag, sp_law_is_num, sp_law_handed, sp_law_bad, sp_law_bent_corner, sp_law_bent_face, sp_law_any, sp_law_bend, sp_law_drawn, sp_law_pair]))
local macro_rules | `(tactic| walk_at "dw") => `(tactic| (refine draw (by first | exact up_same | assumption) (by assumption) (by omega) (by omega) (by omega) ?_))

variable {K : PySem.W.Frag}
theorem walk_seq {d : D} {L : Lp} {ds : List D} {R : List D → (Lp → Prop) → Lp → Prop} (h : seqD d L = some ds) (k : ∀ st : Lp → Prop, (∀ L', Le L L' → st L') → R ds st L) : walkK d L R := by
  unfold seqD at h
  split at h
  · cases h; exact k _ fun _ _ => trivial
  · cases h; exact k _ fun _ _ => trivial
  · rename_i p
    split at h
    · cases h
      rename_i q
      exact ⟨_, q, k _ fun L' l => l _ _ q⟩
    · cases h
  · cases h
theorem seqD_new {d : D} {L : Lp} {ds : List D} {x : Addr} {o o' : O} (h : seqD d L = some ds) (hx : L x = some o) (ho : ∀ xs, o ≠ .lst xs) : seqD d (up L x o') = some ds := by
  unfold seqD at h
  split at h
  · exact h
  · exact h
  · rename_i p
    split at h
    · cases h
      rename_i q
      have ne : p ≠ x := fun z => by subst z; rw [hx] at q; cases q; exact ho _ rfl
      exact seq_ref (by rw [up_ne ne]; exact q)
    · cases h
  · cases h
theorem badAt_none {p : D → Bool} : ∀ {ds : List D} {k : Nat}, badAt p k ds = none ↔ ∀ d ∈ ds, p d = true
  | [], k => by simp [badAt]
  | d :: ds, k => by
    unfold badAt
    by_cases c : p d = true
    · rw [if_pos c, badAt_none]
      simp [c]
    · rw [if_neg c]
      simp [c]
theorem badAt_some {p : D → Bool} : ∀ {ds : List D} {k i : Nat} {d : D}, (∀ j d, j < i → ds[j]? = some d → p d = true) → ds[i]? = some d → p d = false → badAt p k ds = some (k + i)
  | [], _, i, _, _, h, _ => by simp at h
  | x :: ds, k, 0, d, _, h, n => by
    simp at h
    subst h
    unfold badAt
    rw [n, if_neg (by decide)]
    rfl
  | x :: ds, k, i + 1, d, hp, h, n => by
    have h0 := hp 0 x (by omega) rfl
    unfold badAt
    rw [if_pos h0, badAt_some (i := i) (d := d) (fun j e hj he => hp (j + 1) e (by omega) (by simpa using he)) (by simpa using h) n]
    congr 1
    omega
theorem corner_3 {d : D} (h : isCornerD d = true) : ∃ a b c, d = .tup [a, b, c] ∧ isNumD a = true ∧ isNumD b = true ∧ isNumD c = true := by
  unfold isCornerD at h
  split at h
  · rename_i ds
    simp only [Bool.and_eq_true, decide_eq_true_eq] at h
    match ds, h.1 with
    | [a, b, c], _ =>
      have := h.2
      simp at this
      exact ⟨a, b, c, rfl, this⟩
  · cases h
theorem ex_num {d : D} {n : Nat} {L : Lp} {Q : VK'} {E : XK'} (ok : OkV n d) (h : isNumD d = true) (q : Q (exN d) L) : sp_exact [d] L Q E := by
  unfold isNumD at h
  split at h
  · rename_i i
    have e := numD_int i
    unfold numD at e
    injection e with e
    injection e with e1 e
    injection e1 with e1
    injection e with e2 e
    injection e2 with e2
    have e3 : (mkRat i 1).den = 1 := by omega
    refine .inl ⟨mkRat i 1, .inr ⟨e3, by rw [← e1]⟩, ?_, ?_⟩
    · rw [e3]
      exact Nat.lt_of_lt_of_le (show 1 < 2 ^ 60 by decide) (Nat.pow_le_pow_right (by decide) (by decide))
    · rw [← numD_int]
      exact q
  · rename_i m e
    simp only [Bool.and_eq_true, decide_eq_true_eq] at h
    obtain ⟨k, rfl, _, ok2⟩ := ok_tup ok
    have oe := ok2 (.int e) (by simp)
    have oe2 : e.natAbs < 2 ^ 60 := by unfold OkV at oe; exact oe
    refine .inr ⟨m, e, rfl, h.1, Nat.lt_of_lt_of_le oe2 (Nat.pow_le_pow_right (by decide) (by decide)), ?_⟩
    rw [numD_mk h.1, h.2]
    have q : Q (.tup [.int m, .int e]) L := q
    simpa using q
  · cases h
theorem rd_Net_init (hc : Cls K (He.ga K "Net")) (n1 : NoAttr K (He.ga K "Net") "corners") (n2 : NoAttr K (He.ga K "Net") "faces") : RD_Net_init K := by
  intro ds L Q E' h
  unfold sp_Net_init at h
  split at h
  · rename_i x a b
    obtain ⟨cds, fds, I, hx, hE, h⟩ := h
    have nl : ∀ xs, O.ins (He.ga K "Net") [] ≠ .lst xs := fun _ z => nomatch z
    unfold t_Net_init
    walk_at "s0"
    walk_at "rr"
    refine enG_of I.ea ?_
    refine ⟨fun i τ' L' => (∃ o3 o4 o5 o6, τ' = [some (.ref x), some a, some b, o3, o4, o5, o6]) ∧ L' = L ∧ ∀ j d, j < i → cds[j]? = some d → isCornerD d = true, ⟨⟨_, _, _, _, rfl⟩, rfl, fun j d hj _ => absurd hj (by omega)⟩, fun i τ' L' _ e => by rw [e.2.1]; exact I.ea, ?_, ?_⟩
    · rintro i y τ' L' hy ⟨⟨o3, o4, o5, o6, rfl⟩, rfl, hp⟩
      obtain ⟨d, hd, rfl⟩ := en_at hy
      unfold t_Net_init_1
      walk_at "rr"
      refine ⟨I.oc d (List.mem_of_getElem? hd), ?_⟩
      walk_at "rr"
      cases c : isCornerD d with
      | true =>
        walk_at "rr"
        refine .mk ⟨⟨_, _, _, _, rfl⟩, rfl, fun j e hj he => ?_⟩
        rcases Nat.lt_succ_iff_lt_or_eq.mp hj with z | z
        · exact hp j e z he
        · subst z
          rw [hd] at he
          cases he
          exact c
      | false =>
        walk_at "rr"
        refine hE "corner" i ?_
        unfold badD
        rw [badAt_some hp hd c]
        simp
    · rintro τ' L' ⟨⟨o3, o4, o5, o6, rfl⟩, rfl, hp⟩
      have g1 : ∀ d ∈ cds, isCornerD d = true := fun d hd => by
        obtain ⟨j, hj⟩ := List.getElem?_of_mem hd
        exact hp j d (by have := getlt hj; simpa [enD_len] using this) hj
      have b1 : badAt isCornerD 0 cds = none := badAt_none.mpr g1
      walk_at "rr"
      unfold t_Net_init_2
      walk_at "rr"
      refine enG_of I.eb ?_
      refine ⟨fun i τ' L'' => (∃ o3 o4 o5 o6, τ' = [some (.ref x), some a, some b, o3, o4, o5, o6]) ∧ L'' = L' ∧ ∀ j d, j < i → fds[j]? = some d → isFaceD cds.length d = true, ⟨⟨_, _, _, _, rfl⟩, rfl, fun j d hj _ => absurd hj (by omega)⟩, fun i τ' L'' _ e => by rw [e.2.1]; exact I.eb, ?_, ?_⟩
      · rintro i y τ' L'' hy ⟨⟨o3, o4, o5, o6, rfl⟩, rfl, hp2⟩
        obtain ⟨d, hd, rfl⟩ := en_at hy
        unfold t_Net_init_3
        walk_at "rr"
        rw [len_seq I.ea]
        walk_at "rr"
        refine ⟨I.of d (List.mem_of_getElem? hd), ?_⟩
        walk_at "rr"
        cases c : isFaceD cds.length d with
        | true =>
          walk_at "rr"
          refine .mk ⟨⟨_, _, _, _, rfl⟩, rfl, fun j e hj he => ?_⟩
          rcases Nat.lt_succ_iff_lt_or_eq.mp hj with z | z
          · exact hp2 j e z he
          · subst z
            rw [hd] at he
            cases he
            exact c
        | false =>
          walk_at "rr"
          refine hE "face" i ?_
          unfold badD
          rw [b1]
          simp only []
          rw [badAt_some hp2 hd c]
          simp
      · rintro τ' L'' ⟨⟨o3, o4, o5, o6, rfl⟩, rfl, hp2⟩
        have g2 : ∀ d ∈ fds, isFaceD cds.length d = true := fun d hd => by
          obtain ⟨j, hj⟩ := List.getElem?_of_mem hd
          exact hp2 j d (by have := getlt hj; simpa [enD_len] using this) hj
        have h := h (by
          unfold badD
          rw [b1]
          simp only []
          rw [badAt_none.mpr g2])
        walk_at "rr"
        unfold t_Net_init_4
        walk_at "rr"
        refine walk_seq I.ea fun st hst => ?_
        refine lcF_i cds exC (szl (by have := I.lc; omega)) hst (fun z Q' hz hq => ?_) ?_
        · obtain ⟨a1, a2, a3, rfl, k1, k2, k3⟩ := corner_3 (g1 z hz)
          obtain ⟨m, hm, _, ok3⟩ := ok_tup (I.oc _ hz)
          walk_at "rr"
          refine lcF_i [a1, a2, a3] exN (by show 3 ≤ sizeLine; decide) (fun _ _ => trivial) (fun w Q2 hm2 hq2 => ?_) ?_
          · walk_at "rr"
            have kw : isNumD w = true := by
              simp only [List.mem_cons, List.not_mem_nil, or_false] at hm2
              rcases hm2 with rfl | rfl | rfl
              · exact k1
              · exact k2
              · exact k3
            exact ex_num (ok3 w hm2) kw hq2
          · walk_at "rr"
            exact hq
        · walk_at "rr"
          rw [sfldK_eq]
          refine ⟨_, _, hx, hc, n1, by show 0 < 1000; omega, ?_⟩
          walk_at "rr"
          rw [seqD_new I.eb hx nl]
          walk_at "rr"
          rw [sfldK_eq]
          refine ⟨_, _, up_same, hc, n2, by show 1 < 1000; omega, ?_⟩
          rw [up_up]
          try walk_at "rr"
          exact .mk h
  · exact h.elim
end Hd

set_option exponentiation.threshold 20000
open PySem PySem.Spec PyProof.Rows L2 Z
namespace Hd
local macro_rules | `(tactic| walk_at "st") => `(tactic| simp (implicitDefEqProofs := false) only [↓seqD_up, ↓seqL_up, ↓len_ilst, ↓len_up, ↓truD_ilst, up_up, List.length_map, ↓wFor_m, ↓frzK_up, ↓frzK_upi, ↓wFz_e, ↓wFg_e, ↓wLstF_e, ↓addF_int, ↓addF_l, ↓addF_tup, ↓addF_str, ↓mulF_int, ↓mulF_l, ↓wSlF_e, ↓slF_tup, ↓slF_str, ↓slF_l, ↓slF_scr, ↓slF_ref, ↓listF_eq, ↓listdF_eq, ↓sortedF_eq, ↓allF_eq, ↓sumF_eq, ↓extF_eq, ↓vEnumF_e, ↓enF_l, ↓fldF_obj, ↓fldF_ref, ↓wFldF_e, ↓wLcF_e, ↓pName_e, ↓pNil_e, ↓pCons_e, ↓pTup_e, ↓gK_some, ↓obind_e, ↓seqL_ilst, ↓addM_eq, ↓sq2_some, ↓wVar_0, ↓wVar_s, ↓hNil_e, ↓hCons_e, ↓wDget_e, ↓wDget2_e, ↓wDput_m, ↓wSortIt_e, ↓wMake_e, ↓wIfS_m, ↓wSeq_m, ↓wAsg_m, ↓hName_e, ↓wC_e, ↓wNil_e, ↓wCons_e, ↓wTup_e, ↓wLst_e, ↓wOp_e, ↓wUn_e, ↓wIf_e, ↓wAndV_e, ↓wOrV_e, ↓wNotV_e, ↓wB_e, ↓wAnd_e, ↓wOr_e, ↓zNot_e, ↓zTru_e, ↓hCons_e, ↓hTup_e, ↓hSub_e, ↓wNext_m, ↓wDrop_m, ↓wRet_m, ↓wRetN_m, ↓wPar_m, ↓wCB_e, ↓wCall_e, ↓wIxk_e, ↓wSl_e, ↓wNoPart_e, ↓wPart_e, ↓wBM_e, ↓wBM0_e, ↓wChain_e, ↓wNever_e, ↓vSeq_e, ↓vEnum_e, ↓vRng1_e, ↓vRng2_e, vZip, ↓blK_bl, ↓tupK_tup, ↓pairK_2, ↓inK_int, ↓truD_bl, ↓truD_int, ↓truD_non, ↓truD_tup, ↓isn_non, ↓isn_int, ↓isn_bl, ↓isn_str, ↓isn_tup, ↓isn_ref, ↓Z.add_int, ↓add_tup, ↓add_ref, ↓intD_eq, ↓intD0_eq, ↓Z.mul_int, ↓Z.eq_int, ↓Z.ne_int, ↓Z.eq_bl, ↓ne_bl, ↓Z.eq_str, ↓Z.ne_str, ↓eq_non, ↓eq_tup, ↓eq_ref, ↓Z.neg_int, ↓seq_tup, ↓seq_ilst, ↓Z.ix_tup, ↓ix_int, ↓sqK_some, ↓ixK_0, ↓ixK_s, ↓tyK_some, ↓ty_non, ↓ty_bl, ↓ty_int, ↓ty_str, ↓ty_tup, ↓ty_ilst, ↓isi_eq, ↓isi2_eq, isiW, ↓len_tup, ↓intc_int, ↓abs_int, ↓gcd_int, ↓list_seq, ↓tuple_seq, ↓all_ref, ↓sum_ref, ↓Z.sl_tup, ↓sl_ilst, ↓sl_ref, ↓walk_tup, ↓walk_ilst, ↓walk_ref, ↓en_ref, start', List.map_cons, List.map_nil, List.cons_append, List.nil_append, List.append_nil, List.length_cons, List.length_nil, List.replicate, List.set_cons_zero, List.set_cons_succ, List.set_nil, List.getElem?_cons_zero, List.getElem?_cons_succ, wipeD, Nat.zero_add, Nat.reduceAdd, Nat.reduceSub, Nat.sub_self, Nat.sub_zero, true_and, and_true, if_true, if_false, Bool.not_true, Bool.not_false, ite_true, ite_false, Bool.false_eq_true, decide_true, decide_false, decide_eq_true_eq, Int.cast_ofNat_Int, reduceIte, Bool.not_eq_true', decide_eq_false_iff_not, Bool.and_true, Bool.true_and, Bool.and_false, Bool.false_and, Bool.or_true, Bool.true_or, Bool.or_false, Bool.false_or, beq_self_eq_true, bne_self_eq_false, not_true_eq_false, not_false_eq_true, String.reduceBEq, String.reduceBNe, Int.reduceToNat, Bool.true_eq_false, reduceCtorEq, Int.reduceEq, Int.reduceLT, Int.reduceLE, gt_iff_lt, ge_iff_le, ↓wBreak_m, ↓wCont_m, ↓wPar3_m, trioK_3, ↓wFldS_m, ↓wFld_e, ↓wChain_e, ↓wLam_e, ↓wIsE_e, ↓wRaise0_e, ↓wCallX_e, ↓wCallKX_e, ↓wYes_e, ↓wCallK_e, isDct_eq, dkK_eq, ↓wDnewT_e, ↓wXf_e, ↓wIsE2_e, ↓wMakeK_e, ↓ownEqD_e, ↓wIsO_e, ↓wRaiseN_e, ↓vEnumG_e])
local macro_rules | `(tactic| walk_at "go") => `(tactic| ((first | with_reducible refine hld_i ?_ | skip); try walk_at "st"))
local macro_rules | `(tactic| walk_at "sx") => `(tactic| ((try simp only [sp_is_integer, sp_lowest, sp_exact, sp_law_draw, sp_law_of, sp_law_same, sp_law_low, sp_law_hand, sp_law_number, sp_is_number, sp_is_corner, sp_is_index, sp_is_face, sp_Net_init, sp_Net_eq, sp_law_bag, sp_law_is_num, sp_law_handed, sp_law_bad, sp_law_bent_corner, sp_law_bent_face, sp_law_any, sp_law_bend, sp_law_drawn, sp_law_pair]); try walk_at "st"))
local macro_rules | `(tactic| walk_at "s0") => `(tactic| simp (implicitDefEqProofs := false) only [start', List.map_cons, List.map_nil, List.length_cons, List.length_nil, Nat.zero_add, Nat.reduceAdd, Nat.reduceSub, List.replicate, List.cons_append, List.nil_append])
local macro_rules | `(tactic| walk_at "rr") => `(tactic| repeat (first | with_reducible refine hld_i ?_ | walk_at "st"))
local macro_rules | `(tactic| walk_at "rx") => `(tactic| repeat (first | with_reducible refine hld_i ?_ | walk_at "st" | simp only [sp_is_integer, sp_lowest, sp_exact, sp_law_draw, sp_law_of, sp_law_same, sp_law_low, sp_law_hand, sp_law_number, sp_is_number, sp_is_corner, sp_is_index, sp_is_face, sp_Net_init, sp_Net_eq, sp_law_bag, sp_law_is_num, sp_law_handed, sp_law_bad, sp_law_bent_corner, sp_law_bent_face, sp_law_any, sp_law_bend, sp_law_drawn, sp_law_pair]))
local macro_rules | `(tactic| walk_at "dw") => `(tactic| (refine draw (by first | exact up_same | assumption) (by assumption) (by omega) (by omega) (by omega) ?_))

variable {K : PySem.W.Frag}
/-- values of a type as data -/
structure Enc {α : Type} [DecidableEq α] (enc : α → D) (p : α → PyData) : Prop where
  r : ∀ L a, PyR L (enc a) (p a)
  l : ∀ a, PyData.canLay0 (p a) = true
  d : ∀ a, PyData.depth (p a) ≤ 3
  e : ∀ a b, PyData.eqv (p a) (p b) = decide (a = b)
section
variable {α : Type} [DecidableEq α] {enc : α → D} {p : α → PyData}
theorem Enc.rs (h : Enc enc p) (L : Lp) : ∀ xs : List α, PyRs L (xs.map enc) (xs.map p)
  | [] => .nil
  | a :: xs => .cons (h.r L a) (h.rs L xs)
theorem Enc.lay (h : Enc enc p) : ∀ xs : List α, PyData.canLayAll0 (xs.map p) = true
  | [] => rfl
  | a :: xs => by
    show (PyData.canLay0 _ && PyData.canLayAll0 _) = true
    rw [h.lay xs, h.l]
    rfl
theorem Enc.dep (h : Enc enc p) : ∀ xs : List α, PyData.depthAll (xs.map p) ≤ 3
  | [] => Nat.zero_le _
  | a :: xs => Nat.max_le.mpr ⟨h.d a, h.dep xs⟩
theorem Enc.eqs (h : Enc enc p) : ∀ xs ys : List α, PyData.eqvAll (xs.map p) (ys.map p) = decide (xs = ys)
  | [], [] => rfl
  | [], _ :: _ => rfl
  | _ :: _, [] => rfl
  | a :: xs, b :: ys => by
    show PyData.eqvAll (p a :: xs.map p) (p b :: ys.map p) = _
    unfold PyData.eqvAll
    rw [h.e, h.eqs xs ys, ← Bool.decide_and]
    exact decide_eq_decide.mpr (by rw [List.cons.injEq])
theorem Enc.tup (h : Enc enc p) {L : Lp} {Q : VK'} {xs ys : List α} (q : Q (.bl (decide (xs = ys))) L) : eqD false (.tup (xs.map enc)) (.tup (ys.map enc)) L Q := by
  refine ⟨_, _, .tup (h.rs L xs), .tup (h.rs L ys), ?_, ?_, ?_⟩
  · unfold SeqAt.shaped
    rw [decide_eq_true (show PyData.depth (.tuple (xs.map p)) ≤ 64 from Nat.le_trans (Nat.succ_le_succ (h.dep xs)) (by decide)), Bool.and_true]
    exact h.lay xs
  · unfold SeqAt.shaped
    rw [decide_eq_true (show PyData.depth (.tuple (ys.map p)) ≤ 64 from Nat.le_trans (Nat.succ_le_succ (h.dep ys)) (by decide)), Bool.and_true]
    exact h.lay ys
  · have e : PyData.eqv (.tuple (xs.map p)) (.tuple (ys.map p)) = decide (xs = ys) := by
      rw [← h.eqs xs ys]
      simp [PyData.eqv]
    rw [e]
    exact q
theorem Enc.lst (h : Enc enc p) {L : Lp} {Q : VK'} {xs ys : List α} {a : Addr} (ha : L a = some (.lst (xs.map enc))) (q : Q (.bl (decide (xs = ys))) L) : eqD false (.ref a) (.ilst (ys.map enc)) L Q := by
  refine ⟨_, _, .ref ha (h.rs L xs), .ilst (h.rs L ys), ?_, ?_, ?_⟩
  · unfold SeqAt.shaped
    rw [decide_eq_true (show PyData.depth (.list (xs.map p)) ≤ 64 from Nat.le_trans (Nat.succ_le_succ (h.dep xs)) (by decide)), Bool.and_true]
    exact h.lay xs
  · unfold SeqAt.shaped
    rw [decide_eq_true (show PyData.depth (.list (ys.map p)) ≤ 64 from Nat.le_trans (Nat.succ_le_succ (h.dep ys)) (by decide)), Bool.and_true]
    exact h.lay ys
  · have e : PyData.eqv (.list (xs.map p)) (.list (ys.map p)) = decide (xs = ys) := by
      rw [← h.eqs xs ys]
      simp [PyData.eqv]
    rw [e]
    exact q
end
def nP (q : Rat) : PyData := .tuple [.int q.num, .int (q.den : Int)]
def cP (c : C3) : PyData := .tuple [nP c.1, nP c.2.1, nP c.2.2]
def fP (f : F3) : PyData := .tuple [.int f.1, .int f.2.1, .int f.2.2]
theorem bd {α : Type} [BEq α] [LawfulBEq α] [DecidableEq α] (a b : α) : (a == b) = decide (a = b) := by
  by_cases c : a = b <;> simp [c]
theorem nP_e (a b : Rat) : PyData.eqv (nP a) (nP b) = decide (a = b) := by
  have : PyData.eqv (nP a) (nP b) = ((a.num == b.num) && ((a.den : Int) == (b.den : Int))) := by simp [nP, PyData.eqv, PyData.eqvAll]
  rw [this, bd, bd, ← Bool.decide_and]
  exact decide_eq_decide.mpr ⟨fun h => Rat.ext h.1 (by omega), fun h => by rw [h]; exact ⟨rfl, rfl⟩⟩
theorem enc_f : Enc fD fP := by
  refine ⟨fun L a => .tup (.cons (.int _) (.cons (.int _) (.cons (.int _) .nil))), fun _ => rfl, fun _ => by show 1 ≤ 3; decide, fun a b => ?_⟩
  obtain ⟨a1, a2, a3⟩ := a
  obtain ⟨b1, b2, b3⟩ := b
  have : PyData.eqv (fP (a1, a2, a3)) (fP (b1, b2, b3)) = ((a1 == b1) && ((a2 == b2) && (a3 == b3))) := by simp [fP, PyData.eqv, PyData.eqvAll]
  rw [this, bd, bd, bd, ← Bool.decide_and, ← Bool.decide_and]
  exact decide_eq_decide.mpr (by rw [Prod.mk.injEq, Prod.mk.injEq])
theorem enc_c : Enc cD cP := by
  refine ⟨fun L a => .tup (.cons (.tup (.cons (.int _) (.cons (.int _) .nil))) (.cons (.tup (.cons (.int _) (.cons (.int _) .nil))) (.cons (.tup (.cons (.int _) (.cons (.int _) .nil))) .nil))), fun _ => rfl, fun _ => by show 2 ≤ 3; decide, fun a b => ?_⟩
  obtain ⟨a1, a2, a3⟩ := a
  obtain ⟨b1, b2, b3⟩ := b
  have : PyData.eqv (cP (a1, a2, a3)) (cP (b1, b2, b3)) = (decide (a1 = b1) && (decide (a2 = b2) && decide (a3 = b3))) := by simp [cP, PyData.eqv, PyData.eqvAll, nP_e]
  rw [this, ← Bool.decide_and, ← Bool.decide_and]
  exact decide_eq_decide.mpr (by rw [Prod.mk.injEq, Prod.mk.injEq])
theorem rd_Net_eq (hc : Cls K (He.ga K "Net")) (n1 : NoAttr K (He.ga K "Net") "corners") (n2 : NoAttr K (He.ga K "Net") "faces") (ic : InsC K (He.ga K "Net")) (ks : PySem.W.kitOne K (.ref (He.ga K "Net")) (.ref (He.ga K "Net")) = some true) : RD_Net_eq K := by
  intro ds L Q E h
  unfold sp_Net_eq at h
  split at h
  · obtain ⟨cs, fs, cs', fs', rfl, rfl, h⟩ := h
    unfold t_Net_eq
    walk_at "s0"
    walk_at "rr"
    refine ⟨_, _, true, rfl, ic, ks, ?_⟩
    walk_at "rr"
    refine ⟨hc, n1, _, rfl, hc, n1, _, rfl, enc_c.tup ?_⟩
    walk_at "rr"
    by_cases c : cs = cs'
    · rw [if_pos c]
      refine ⟨hc, n2, _, rfl, hc, n2, _, rfl, enc_f.tup (.mk ?_)⟩
      simpa [c] using h
    · rw [if_neg c]
      refine .mk ?_
      simpa [c] using h
  · exact h.elim
end Hd

set_option exponentiation.threshold 20000
open PySem PySem.Spec PyProof.Rows L2 Z
namespace Hd
local macro_rules | `(tactic| walk_at "st") => `(tactic| simp (implicitDefEqProofs := false) only [↓seqD_up, ↓seqL_up, ↓len_ilst, ↓len_up, ↓truD_ilst, up_up, List.length_map, ↓wFor_m, ↓frzK_up, ↓frzK_upi, ↓wFz_e, ↓wFg_e, ↓wLstF_e, ↓addF_int, ↓addF_l, ↓addF_tup, ↓addF_str, ↓mulF_int, ↓mulF_l, ↓wSlF_e, ↓slF_tup, ↓slF_str, ↓slF_l, ↓slF_scr, ↓slF_ref, ↓listF_eq, ↓listdF_eq, ↓sortedF_eq, ↓allF_eq, ↓sumF_eq, ↓extF_eq, ↓vEnumF_e, ↓enF_l, ↓fldF_obj, ↓fldF_ref, ↓wFldF_e, ↓wLcF_e, ↓pName_e, ↓pNil_e, ↓pCons_e, ↓pTup_e, ↓gK_some, ↓obind_e, ↓seqL_ilst, ↓addM_eq, ↓sq2_some, ↓wVar_0, ↓wVar_s, ↓hNil_e, ↓hCons_e, ↓wDget_e, ↓wDget2_e, ↓wDput_m, ↓wSortIt_e, ↓wMake_e, ↓wIfS_m, ↓wSeq_m, ↓wAsg_m, ↓hName_e, ↓wC_e, ↓wNil_e, ↓wCons_e, ↓wTup_e, ↓wLst_e, ↓wOp_e, ↓wUn_e, ↓wIf_e, ↓wAndV_e, ↓wOrV_e, ↓wNotV_e, ↓wB_e, ↓wAnd_e, ↓wOr_e, ↓zNot_e, ↓zTru_e, ↓hCons_e, ↓hTup_e, ↓hSub_e, ↓wNext_m, ↓wDrop_m, ↓wRet_m, ↓wRetN_m, ↓wPar_m, ↓wCB_e, ↓wCall_e, ↓wIxk_e, ↓wSl_e, ↓wNoPart_e, ↓wPart_e, ↓wBM_e, ↓wBM0_e, ↓wChain_e, ↓wNever_e, ↓vSeq_e, ↓vEnum_e, ↓vRng1_e, ↓vRng2_e, vZip, ↓blK_bl, ↓tupK_tup, ↓pairK_2, ↓inK_int, ↓truD_bl, ↓truD_int, ↓truD_non, ↓truD_tup, ↓isn_non, ↓isn_int, ↓isn_bl, ↓isn_str, ↓isn_tup, ↓isn_ref, ↓Z.add_int, ↓add_tup, ↓add_ref, ↓intD_eq, ↓intD0_eq, ↓Z.mul_int, ↓Z.eq_int, ↓Z.ne_int, ↓Z.eq_bl, ↓ne_bl, ↓Z.eq_str, ↓Z.ne_str, ↓eq_non, ↓eq_tup, ↓eq_ref, ↓Z.neg_int, ↓seq_tup, ↓seq_ilst, ↓Z.ix_tup, ↓ix_int, ↓sqK_some, ↓ixK_0, ↓ixK_s, ↓tyK_some, ↓ty_non, ↓ty_bl, ↓ty_int, ↓ty_str, ↓ty_tup, ↓ty_ilst, ↓isi_eq, ↓isi2_eq, isiW, ↓len_tup, ↓intc_int, ↓abs_int, ↓gcd_int, ↓list_seq, ↓tuple_seq, ↓all_ref, ↓sum_ref, ↓Z.sl_tup, ↓sl_ilst, ↓sl_ref, ↓walk_tup, ↓walk_ilst, ↓walk_ref, ↓en_ref, start', List.map_cons, List.map_nil, List.cons_append, List.nil_append, List.append_nil, List.length_cons, List.length_nil, List.replicate, List.set_cons_zero, List.set_cons_succ, List.set_nil, List.getElem?_cons_zero, List.getElem?_cons_succ, wipeD, Nat.zero_add, Nat.reduceAdd, Nat.reduceSub, Nat.sub_self, Nat.sub_zero, true_and, and_true, if_true, if_false, Bool.not_true, Bool.not_false, ite_true, ite_false, Bool.false_eq_true, decide_true, decide_false, decide_eq_true_eq, Int.cast_ofNat_Int, reduceIte, Bool.not_eq_true', decide_eq_false_iff_not, Bool.and_true, Bool.true_and, Bool.and_false, Bool.false_and, Bool.or_true, Bool.true_or, Bool.or_false, Bool.false_or, beq_self_eq_true, bne_self_eq_false, not_true_eq_false, not_false_eq_true, String.reduceBEq, String.reduceBNe, Int.reduceToNat, Bool.true_eq_false, reduceCtorEq, Int.reduceEq, Int.reduceLT, Int.reduceLE, gt_iff_lt, ge_iff_le, ↓wBreak_m, ↓wCont_m, ↓wPar3_m, trioK_3, ↓wFldS_m, ↓wFld_e, ↓wChain_e, ↓wLam_e, ↓wIsE_e, ↓wRaise0_e, ↓wCallX_e, ↓wCallKX_e, ↓wYes_e, ↓wCallK_e, isDct_eq, dkK_eq, ↓wDnewT_e, ↓wXf_e, ↓wIsE2_e, ↓wMakeK_e, ↓ownEqD_e, ↓wIsO_e, ↓wRaiseN_e, ↓vEnumG_e])
local macro_rules | `(tactic| walk_at "go") => `(tactic| ((first | with_reducible refine hld_i ?_ | skip); try walk_at "st"))
local macro_rules | `(tactic| walk_at "sx") => `(tactic| ((try simp only [sp_is_integer, sp_lowest, sp_exact, sp_law_draw, sp_law_of, sp_law_same, sp_law_low, sp_law_hand, sp_law_number, sp_is_number, sp_is_corner, sp_is_index, sp_is_face, sp_Net_init, sp_Net_eq, sp_law_bag, sp_law_is_num, sp_law_handed, sp_law_bad, sp_law_bent_corner, sp_law_bent_face, sp_law_any, sp_law_bend, sp_law_drawn, sp_law_pair]); try walk_at "st"))
local macro_rules | `(tactic| walk_at "s0") => `(tactic| simp (implicitDefEqProofs := false) only [start', List.map_cons, List.map_nil, List.length_cons, List.length_nil, Nat.zero_add, Nat.reduceAdd, Nat.reduceSub, List.replicate, List.cons_append, List.nil_append])
local macro_rules | `(tactic| walk_at "rr") => `(tactic| repeat (first | with_reducible refine hld_i ?_ | walk_at "st"))
local macro_rules | `(tactic| walk_at "rx") => `(tactic| repeat (first | with_reducible refine hld_i ?_ | walk_at "st" | simp only [sp_is_integer, sp_lowest, sp_exact, sp_law_draw, sp_law_of, sp_law_same, sp_law_low, sp_law_hand, sp_law_number, sp_is_number, sp_is_corner, sp_is_index, sp_is_face, sp_Net_init, sp_Net_eq, sp_law_bag, sp_law_is_num, sp_law_handed, sp_law_bad, sp_law_bent_corner, sp_law_bent_face, sp_law_any, sp_law_bend, sp_law_drawn, sp_law_pair]))
local macro_rules | `(tactic| walk_at "dw") => `(tactic| (refine draw (by first | exact up_same | assumption) (by assumption) (by omega) (by omega) (by omega) ?_))

variable {K : PySem.W.Frag}
theorem eq_num2 {a b c d : Int} {L : Lp} {Q : VK'} (q : Q (.bl (decide (a = c ∧ b = d))) L) : eqD false (.tup [.int a, .int b]) (.tup [.int c, .int d]) L Q := by
  refine ⟨.tuple [.int a, .int b], .tuple [.int c, .int d], .tup (.cons (.int _) (.cons (.int _) .nil)), .tup (.cons (.int _) (.cons (.int _) .nil)), rfl, rfl, ?_⟩
  have : PyData.eqv (.tuple [.int a, .int b]) (.tuple [.int c, .int d]) = ((a == c) && (b == d)) := by simp [PyData.eqv, PyData.eqvAll]
  rw [this, bd, bd, ← Bool.decide_and]
  exact q
theorem int_nb {n : Nat} {z : D} {L : Lp} {Q : VK'} (ok : OkV n z) (q : Q (.bl (isI z)) L) :
    tyK (tyD z L) fun n => if (n == "int" || n == "bool") = true then tyK (tyD z L) fun n => Q (.bl (!(n == "bool"))) L else Q (.bl false) L := by
  rw [ok_ty ok, tyK_some, tyK_some]
  cases z <;> exact q
theorem rd_law_is_num : RD_law_is_num K := by
  intro ds L Q E h
  unfold sp_law_is_num at h
  split at h
  · rename_i d
    obtain ⟨ok, h⟩ := h
    by_cases ct : ∃ xs, d = .tup xs
    · obtain ⟨xs, rfl⟩ := ct
      obtain ⟨m, hm, lx, okx⟩ := ok_tup ok
      unfold t_law_is_num t_law_is_num_1 t_law_is_num_2 t_law_is_num_3 t_law_is_num_4
      walk_at "s0"
      walk_at "rr"
      by_cases c : xs.length = 2
      · match xs, c with
        | [a, b], _ =>
          walk_at "rr"
          rw [isNum_tup2] at h
          refine lcF_i [a, b] (fun d => .bl (isI d)) (by show 2 ≤ sizeLine; decide) (fun _ _ => trivial) (fun z Q' hz hq => ?_) ?_
          · walk_at "rr"
            exact int_nb (okx z hz) hq
          · rw [all_map]
            walk_at "rr"
            refine ⟨[isI a, isI b], rfl, ?_⟩
            simp only [List.all_cons, List.all_nil, id, Bool.and_true]
            cases ca : isI a with
            | false =>
              rw [ca] at h
              walk_at "rr"
              exact .mk h
            | true =>
              cases cb : isI b with
              | false =>
                rw [ca, cb] at h
                walk_at "rr"
                exact .mk h
              | true =>
                obtain ⟨n, rfl⟩ := isI_int ca
                obtain ⟨e, rfl⟩ := isI_int cb
                rw [ca, cb] at h
                simp only [Bool.and_self, Bool.true_and] at h
                have ob := okx (.int e) (by simp)
                have ob2 : e.natAbs < 2 ^ 60 := by unfold OkV at ob; exact ob
                walk_at "rr"
                by_cases c1 : 1 ≤ e
                · rw [if_pos c1]
                  walk_at "rr"
                  refine ⟨by omega, Nat.lt_of_lt_of_le ob2 (Nat.pow_le_pow_right (by decide) (by decide)), ?_⟩
                  rw [numD_mk (by omega)]
                  refine eq_num2 (.mk ?_)
                  have e1 : decide (0 < e) = true := decide_eq_true (by omega)
                  rw [e1, Bool.true_and] at h
                  have hg : 0 < Nat.gcd n.natAbs e.natAbs := Nat.gcd_pos_of_pos_right _ (by omega)
                  have e2 : ∀ g : Nat, 0 < g → ((n / (g : Int) = n ∧ e / (g : Int) = e) ↔ g = 1) := fun g hg => by
                    constructor
                    · rintro ⟨_, k⟩
                      rcases Nat.lt_or_ge 1 g with z | z
                      · have := Int.ediv_lt_self_of_pos_of_ne_one (x := e) (y := g) (by omega) (by omega)
                        omega
                      · omega
                    · rintro rfl
                      simp
                  rw [show decide (n / ((Nat.gcd n.natAbs e.natAbs : Nat) : Int) = n ∧ e / ((Nat.gcd n.natAbs e.natAbs : Nat) : Int) = e) = decide (Nat.gcd n.natAbs e.natAbs = 1) from decide_eq_decide.mpr (e2 _ hg)]
                  exact h
                · rw [if_neg c1]
                  have e1 : decide (0 < e) = false := decide_eq_false (by omega)
                  rw [e1, Bool.false_and] at h
                  exact .mk h
      · rw [isNum_len c] at h
        rw [if_pos (by omega)]
        walk_at "rr"
        exact .mk h
    · by_cases ci : ∃ i, d = .int i
      · obtain ⟨i, rfl⟩ := ci
        unfold t_law_is_num t_law_is_num_1 t_law_is_num_2 t_law_is_num_3 t_law_is_num_4
        walk_at "s0"
        walk_at "rr"
        exact .mk h
      · have e : isNumD d = false := by
          cases d <;> first | rfl | exact absurd ⟨_, rfl⟩ ct | exact absurd ⟨_, rfl⟩ ci
        rw [e] at h
        by_cases cb : ∃ b, d = .bl b
        · obtain ⟨b, rfl⟩ := cb
          unfold t_law_is_num t_law_is_num_1 t_law_is_num_2 t_law_is_num_3 t_law_is_num_4
          walk_at "s0"
          walk_at "rr"
          exact .mk h
        · have e1 : (tyn d == "int") = false := by
            cases d <;> first | rfl | exact absurd ⟨_, rfl⟩ ci
          have e2 : (tyn d == "bool") = false := by
            cases d <;> first | rfl | exact absurd ⟨_, rfl⟩ cb
          have e3 : (tyn d == "tuple") = false := by
            cases d <;> first | rfl | exact absurd ⟨_, rfl⟩ ct
          unfold t_law_is_num t_law_is_num_1 t_law_is_num_2 t_law_is_num_3 t_law_is_num_4
          walk_at "s0"
          walk_at "rr"
          rw [ok_ty ok]
          walk_at "rr"
          simp only [e1, e2, e3]
          walk_at "rr"
          rw [ok_ty ok]
          walk_at "rr"
          simp only [e1, e2, e3]
          walk_at "rr"
          rw [ok_ty ok]
          walk_at "rr"
          simp only [e1, e2, e3]
          walk_at "rr"
          exact .mk h
  · exact h.elim
end Hd

set_option exponentiation.threshold 20000
open PySem PySem.Spec PyProof.Rows L2 Z
namespace Hd
local macro_rules | `(tactic| walk_at "st") => `(tactic| simp (implicitDefEqProofs := false) only [↓seqD_up, ↓seqL_up, ↓len_ilst, ↓len_up, ↓truD_ilst, up_up, List.length_map, ↓wFor_m, ↓frzK_up, ↓frzK_upi, ↓wFz_e, ↓wFg_e, ↓wLstF_e, ↓addF_int, ↓addF_l, ↓addF_tup, ↓addF_str, ↓mulF_int, ↓mulF_l, ↓wSlF_e, ↓slF_tup, ↓slF_str, ↓slF_l, ↓slF_scr, ↓slF_ref, ↓listF_eq, ↓listdF_eq, ↓sortedF_eq, ↓allF_eq, ↓sumF_eq, ↓extF_eq, ↓vEnumF_e, ↓enF_l, ↓fldF_obj, ↓fldF_ref, ↓wFldF_e, ↓wLcF_e, ↓pName_e, ↓pNil_e, ↓pCons_e, ↓pTup_e, ↓gK_some, ↓obind_e, ↓seqL_ilst, ↓addM_eq, ↓sq2_some, ↓wVar_0, ↓wVar_s, ↓hNil_e, ↓hCons_e, ↓wDget_e, ↓wDget2_e, ↓wDput_m, ↓wSortIt_e, ↓wMake_e, ↓wIfS_m, ↓wSeq_m, ↓wAsg_m, ↓hName_e, ↓wC_e, ↓wNil_e, ↓wCons_e, ↓wTup_e, ↓wLst_e, ↓wOp_e, ↓wUn_e, ↓wIf_e, ↓wAndV_e, ↓wOrV_e, ↓wNotV_e, ↓wB_e, ↓wAnd_e, ↓wOr_e, ↓zNot_e, ↓zTru_e, ↓hCons_e, ↓hTup_e, ↓hSub_e, ↓wNext_m, ↓wDrop_m, ↓wRet_m, ↓wRetN_m, ↓wPar_m, ↓wCB_e, ↓wCall_e, ↓wIxk_e, ↓wSl_e, ↓wNoPart_e, ↓wPart_e, ↓wBM_e, ↓wBM0_e, ↓wChain_e, ↓wNever_e, ↓vSeq_e, ↓vEnum_e, ↓vRng1_e, ↓vRng2_e, vZip, ↓blK_bl, ↓tupK_tup, ↓pairK_2, ↓inK_int, ↓truD_bl, ↓truD_int, ↓truD_non, ↓truD_tup, ↓isn_non, ↓isn_int, ↓isn_bl, ↓isn_str, ↓isn_tup, ↓isn_ref, ↓Z.add_int, ↓add_tup, ↓add_ref, ↓intD_eq, ↓intD0_eq, ↓Z.mul_int, ↓Z.eq_int, ↓Z.ne_int, ↓Z.eq_bl, ↓ne_bl, ↓Z.eq_str, ↓Z.ne_str, ↓eq_non, ↓eq_tup, ↓eq_ref, ↓Z.neg_int, ↓seq_tup, ↓seq_ilst, ↓Z.ix_tup, ↓ix_int, ↓sqK_some, ↓ixK_0, ↓ixK_s, ↓tyK_some, ↓ty_non, ↓ty_bl, ↓ty_int, ↓ty_str, ↓ty_tup, ↓ty_ilst, ↓isi_eq, ↓isi2_eq, isiW, ↓len_tup, ↓intc_int, ↓abs_int, ↓gcd_int, ↓list_seq, ↓tuple_seq, ↓all_ref, ↓sum_ref, ↓Z.sl_tup, ↓sl_ilst, ↓sl_ref, ↓walk_tup, ↓walk_ilst, ↓walk_ref, ↓en_ref, start', List.map_cons, List.map_nil, List.cons_append, List.nil_append, List.append_nil, List.length_cons, List.length_nil, List.replicate, List.set_cons_zero, List.set_cons_succ, List.set_nil, List.getElem?_cons_zero, List.getElem?_cons_succ, wipeD, Nat.zero_add, Nat.reduceAdd, Nat.reduceSub, Nat.sub_self, Nat.sub_zero, true_and, and_true, if_true, if_false, Bool.not_true, Bool.not_false, ite_true, ite_false, Bool.false_eq_true, decide_true, decide_false, decide_eq_true_eq, Int.cast_ofNat_Int, reduceIte, Bool.not_eq_true', decide_eq_false_iff_not, Bool.and_true, Bool.true_and, Bool.and_false, Bool.false_and, Bool.or_true, Bool.true_or, Bool.or_false, Bool.false_or, beq_self_eq_true, bne_self_eq_false, not_true_eq_false, not_false_eq_true, String.reduceBEq, String.reduceBNe, Int.reduceToNat, Bool.true_eq_false, reduceCtorEq, Int.reduceEq, Int.reduceLT, Int.reduceLE, gt_iff_lt, ge_iff_le, ↓wBreak_m, ↓wCont_m, ↓wPar3_m, trioK_3, ↓wFldS_m, ↓wFld_e, ↓wChain_e, ↓wLam_e, ↓wIsE_e, ↓wRaise0_e, ↓wCallX_e, ↓wCallKX_e, ↓wYes_e, ↓wCallK_e, isDct_eq, dkK_eq, ↓wDnewT_e, ↓wXf_e, ↓wIsE2_e, ↓wMakeK_e, ↓ownEqD_e, ↓wIsO_e, ↓wRaiseN_e, ↓vEnumG_e])
local macro_rules | `(tactic| walk_at "go") => `(tactic| ((first | with_reducible refine hld_i ?_ | skip); try walk_at "st"))
local macro_rules | `(tactic| walk_at "sx") => `(tactic| ((try simp only [sp_is_integer, sp_lowest, sp_exact, sp_law_draw, sp_law_of, sp_law_same, sp_law_low, sp_law_hand, sp_law_number, sp_is_number, sp_is_corner, sp_is_index, sp_is_face, sp_Net_init, sp_Net_eq, sp_law_bag, sp_law_is_num, sp_law_handed, sp_law_bad, sp_law_bent_corner, sp_law_bent_face, sp_law_any, sp_law_bend, sp_law_drawn, sp_law_pair]); try walk_at "st"))
local macro_rules | `(tactic| walk_at "s0") => `(tactic| simp (implicitDefEqProofs := false) only [start', List.map_cons, List.map_nil, List.length_cons, List.length_nil, Nat.zero_add, Nat.reduceAdd, Nat.reduceSub, List.replicate, List.cons_append, List.nil_append])
local macro_rules | `(tactic| walk_at "rr") => `(tactic| repeat (first | with_reducible refine hld_i ?_ | walk_at "st"))
local macro_rules | `(tactic| walk_at "rx") => `(tactic| repeat (first | with_reducible refine hld_i ?_ | walk_at "st" | simp only [sp_is_integer, sp_lowest, sp_exact, sp_law_draw, sp_law_of, sp_law_same, sp_law_low, sp_law_hand, sp_law_number, sp_is_number, sp_is_corner, sp_is_index, sp_is_face, sp_Net_init, sp_Net_eq, sp_law_bag, sp_law_is_num, sp_law_handed, sp_law_bad, sp_law_bent_corner, sp_law_bent_face, sp_law_any, sp_law_bend, sp_law_drawn, sp_law_pair]))
local macro_rules | `(tactic| walk_at "dw") => `(tactic| (refine draw (by first | exact up_same | assumption) (by assumption) (by omega) (by omega) (by omega) ?_))

variable {K : PySem.W.Frag}

theorem rd_law_bad : RD_law_bad K := by
  intro ds L Q E h
  unfold sp_law_bad at h
  split at h
  · rename_i a b
    obtain ⟨cds, fds, I, h⟩ := h
    unfold t_law_bad
    walk_at "s0"
    walk_at "rr"
    rw [len_seq I.ea]
    walk_at "rr"
    have l1 := I.lc
    have l2 := I.lf
    refine ⟨by omega, by omega, ?_⟩
    rw [Int.toNat_natCast]
    refine for_r (fun i τ' L' => (∃ o2 o3 o4 o5, τ' = [some a, some b, o2, o3, o4, o5]) ∧ L' = L ∧ ∀ j d, j < i → cds[j]? = some d → isCornerD d = true) ⟨⟨_, _, _, _, rfl⟩, rfl, fun j d hj _ => absurd hj (by omega)⟩ (fun _ _ _ _ _ => trivial) ?_ ?_
    · rintro i τ' L' hi ⟨⟨o2, o3, o4, o5, rfl⟩, rfl, hp⟩
      have hd : cds[i]? = some cds[i] := List.getElem?_eq_getElem hi
      generalize hz : cds[i] = d at hd
      have ok := I.oc d (List.mem_of_getElem? hd)
      have bad : isCornerD d = false → Q (.tup [.str "BadNet", .str "corner", .int (i : Int)]) L' := fun c => by
        unfold badD at h
        rw [badAt_some hp hd c] at h
        simpa [badT] using h
      have good : isCornerD d = true → ∀ j e, j < i + 1 → cds[j]? = some e → isCornerD e = true := fun c j e hj he => by
        rcases Nat.lt_succ_iff_lt_or_eq.mp hj with z | z
        · exact hp j e z he
        · subst z
          rw [hd] at he
          cases he
          exact c
      unfold t_law_bad_1
      walk_at "rr"
      rw [I.ea, Int.zero_add]
      refine atK_at ((atN hi).trans (congrArg some hz)) ?_
      walk_at "rr"
      by_cases ct : ∃ xs, d = .tup xs
      · obtain ⟨xs, rfl⟩ := ct
        obtain ⟨m, hm, lx, okx⟩ := ok_tup ok
        cases hm
        walk_at "rr"
        unfold isCornerD at bad good
        by_cases c : xs.length = 3
        · rw [if_neg (by omega)]
          simp only [c, decide_true, Bool.true_and] at bad good
          walk_at "rr"
          refine lcF_i xs (fun d => .bl (isNumD d)) (szl (by omega)) (fun _ _ => trivial) (fun z Q' hz hq => ?_) ?_
          · walk_at "rr"
            exact ⟨okx z hz, hq⟩
          · rw [all_map]
            walk_at "rr"
            refine ⟨xs.map isNumD, rfl, ?_⟩
            cases ca : (xs.map isNumD).all id with
            | true =>
              walk_at "rr"
              exact .mk ⟨⟨_, _, _, _, rfl⟩, rfl, good ca⟩
            | false =>
              walk_at "rr"
              exact .mk (bad ca)
        · rw [if_pos (by omega)]
          simp only [c, decide_false, Bool.false_and] at bad
          walk_at "rr"
          exact .mk (bad trivial)
      · have e3 : (tyn d == "tuple") = false := by
          cases d <;> first | rfl | exact absurd ⟨_, rfl⟩ ct
        have e2 : isCornerD d = false := by
          cases d <;> first | rfl | exact absurd ⟨_, rfl⟩ ct
        rw [ok_ty ok]
        walk_at "rr"
        simp only [e3]
        walk_at "rr"
        exact .mk (bad e2)
    · rintro τ' L' ⟨⟨o2, o3, o4, o5, rfl⟩, rfl, hp⟩
      have g1 : ∀ d ∈ cds, isCornerD d = true := fun d hd => by
        obtain ⟨j, hj⟩ := List.getElem?_of_mem hd
        exact hp j d (getlt hj) hj
      have b1 : badAt isCornerD 0 cds = none := badAt_none.mpr g1
      unfold badD at h
      rw [b1] at h
      simp only [] at h
      walk_at "rr"
      unfold t_law_bad_2
      walk_at "rr"
      rw [len_seq I.eb]
      walk_at "rr"
      refine ⟨by omega, by omega, ?_⟩
      rw [Int.toNat_natCast]
      refine for_r (fun i τ' L'' => (∃ o2 o3 o4 o5, τ' = [some a, some b, o2, o3, o4, o5]) ∧ L'' = L' ∧ ∀ j d, j < i → fds[j]? = some d → isFaceD cds.length d = true) ⟨⟨_, _, _, _, rfl⟩, rfl, fun j d hj _ => absurd hj (by omega)⟩ (fun _ _ _ _ _ => trivial) ?_ ?_
      · rintro i τ' L'' hi ⟨⟨o2, o3, o4, o5, rfl⟩, rfl, hp2⟩
        have hd : fds[i]? = some fds[i] := List.getElem?_eq_getElem hi
        generalize hz : fds[i] = d at hd
        have ok := I.of d (List.mem_of_getElem? hd)
        have bad : isFaceD cds.length d = false → Q (.tup [.str "BadNet", .str "face", .int (i : Int)]) L'' := fun c => by
          rw [badAt_some hp2 hd c] at h
          simpa [badT] using h
        have good : isFaceD cds.length d = true → ∀ j e, j < i + 1 → fds[j]? = some e → isFaceD cds.length e = true := fun c j e hj he => by
          rcases Nat.lt_succ_iff_lt_or_eq.mp hj with z | z
          · exact hp2 j e z he
          · subst z
            rw [hd] at he
            cases he
            exact c
        unfold t_law_bad_3
        walk_at "rr"
        rw [I.eb, Int.zero_add]
        refine atK_at ((atN hi).trans (congrArg some hz)) ?_
        walk_at "rr"
        by_cases ct : ∃ xs, d = .tup xs
        · obtain ⟨xs, rfl⟩ := ct
          obtain ⟨m, hm, lx, okx⟩ := ok_tup ok
          cases hm
          walk_at "rr"
          unfold isFaceD at bad good
          by_cases c : xs.length = 3
          · rw [if_neg (by omega)]
            simp only [c, decide_true, Bool.true_and] at bad good
            walk_at "rr"
            unfold t_law_bad_4
            walk_at "rr"
            refine lcF_i xs (fun d => .bl (isI d)) (szl (by omega)) (fun _ _ => trivial) (fun z Q' hz hq => ?_) ?_
            · walk_at "rr"
              exact int_nb (okx z hz) hq
            · rw [all_map]
              walk_at "rr"
              refine ⟨xs.map isI, rfl, ?_⟩
              cases ca : (xs.map isI).all id with
              | false =>
                walk_at "rr"
                refine .mk (bad ?_)
                rw [List.all_map, List.all_eq_false] at ca
                obtain ⟨z, hz, hn⟩ := ca
                rw [List.all_map, List.all_eq_false]
                refine ⟨z, hz, fun hk => hn ?_⟩
                cases z <;> first | rfl | cases hk
              | true =>
                walk_at "rr"
                unfold t_law_bad_5
                walk_at "rr"
                have allI : ∀ z ∈ xs, isI z = true := fun z hz => by
                  rw [List.all_map, List.all_eq_true] at ca
                  exact ca z hz
                refine lcF_i xs (fun d => .bl (isIdxD cds.length d)) (szl (by omega)) (fun _ _ => trivial) (fun z Q' hz hq => ?_) ?_
                · obtain ⟨j, rfl⟩ := isI_int (allI z hz)
                  unfold isIdxD at hq
                  walk_at "rr"
                  by_cases c1 : 0 ≤ j
                  · rw [if_pos c1]
                    simp only [c1, decide_true, Bool.true_and] at hq
                    walk_at "rr"
                    rw [len_seq I.ea]
                    walk_at "rr"
                    exact hq
                  · rw [if_neg c1]
                    simp only [c1, decide_false, Bool.false_and] at hq
                    exact hq
                · rw [all_map]
                  walk_at "rr"
                  refine ⟨xs.map (isIdxD cds.length), rfl, ?_⟩
                  cases cb : (xs.map (isIdxD cds.length)).all id with
                  | true =>
                    walk_at "rr"
                    exact .mk ⟨⟨_, _, _, _, rfl⟩, rfl, good cb⟩
                  | false =>
                    walk_at "rr"
                    exact .mk (bad cb)
          · rw [if_pos (by omega)]
            simp only [c, decide_false, Bool.false_and] at bad
            walk_at "rr"
            exact .mk (bad trivial)
        · have e3 : (tyn d == "tuple") = false := by
            cases d <;> first | rfl | exact absurd ⟨_, rfl⟩ ct
          have e2 : isFaceD cds.length d = false := by
            cases d <;> first | rfl | exact absurd ⟨_, rfl⟩ ct
          rw [ok_ty ok]
          walk_at "rr"
          simp only [e3]
          walk_at "rr"
          exact .mk (bad e2)
      · rintro τ' L'' ⟨⟨o2, o3, o4, o5, rfl⟩, rfl, hp2⟩
        have g2 : ∀ d ∈ fds, isFaceD cds.length d = true := fun d hd => by
          obtain ⟨j, hj⟩ := List.getElem?_of_mem hd
          exact hp2 j d (getlt hj) hj
        rw [badAt_none.mpr g2] at h
        walk_at "rr"
        exact .mk h
  · exact h.elim
end Hd

set_option exponentiation.threshold 20000
open PySem PySem.Spec PyProof.Rows L2 Z
namespace Hd
local macro_rules | `(tactic| walk_at "st") => `(tactic| simp (implicitDefEqProofs := false) only [↓seqD_up, ↓seqL_up, ↓len_ilst, ↓len_up, ↓truD_ilst, up_up, List.length_map, ↓wFor_m, ↓frzK_up, ↓frzK_upi, ↓wFz_e, ↓wFg_e, ↓wLstF_e, ↓addF_int, ↓addF_l, ↓addF_tup, ↓addF_str, ↓mulF_int, ↓mulF_l, ↓wSlF_e, ↓slF_tup, ↓slF_str, ↓slF_l, ↓slF_scr, ↓slF_ref, ↓listF_eq, ↓listdF_eq, ↓sortedF_eq, ↓allF_eq, ↓sumF_eq, ↓extF_eq, ↓vEnumF_e, ↓enF_l, ↓fldF_obj, ↓fldF_ref, ↓wFldF_e, ↓wLcF_e, ↓pName_e, ↓pNil_e, ↓pCons_e, ↓pTup_e, ↓gK_some, ↓obind_e, ↓seqL_ilst, ↓addM_eq, ↓sq2_some, ↓wVar_0, ↓wVar_s, ↓hNil_e, ↓hCons_e, ↓wDget_e, ↓wDget2_e, ↓wDput_m, ↓wSortIt_e, ↓wMake_e, ↓wIfS_m, ↓wSeq_m, ↓wAsg_m, ↓hName_e, ↓wC_e, ↓wNil_e, ↓wCons_e, ↓wTup_e, ↓wLst_e, ↓wOp_e, ↓wUn_e, ↓wIf_e, ↓wAndV_e, ↓wOrV_e, ↓wNotV_e, ↓wB_e, ↓wAnd_e, ↓wOr_e, ↓zNot_e, ↓zTru_e, ↓hCons_e, ↓hTup_e, ↓hSub_e, ↓wNext_m, ↓wDrop_m, ↓wRet_m, ↓wRetN_m, ↓wPar_m, ↓wCB_e, ↓wCall_e, ↓wIxk_e, ↓wSl_e, ↓wNoPart_e, ↓wPart_e, ↓wBM_e, ↓wBM0_e, ↓wChain_e, ↓wNever_e, ↓vSeq_e, ↓vEnum_e, ↓vRng1_e, ↓vRng2_e, vZip, ↓blK_bl, ↓tupK_tup, ↓pairK_2, ↓inK_int, ↓truD_bl, ↓truD_int, ↓truD_non, ↓truD_tup, ↓isn_non, ↓isn_int, ↓isn_bl, ↓isn_str, ↓isn_tup, ↓isn_ref, ↓Z.add_int, ↓add_tup, ↓add_ref, ↓intD_eq, ↓intD0_eq, ↓Z.mul_int, ↓Z.eq_int, ↓Z.ne_int, ↓Z.eq_bl, ↓ne_bl, ↓Z.eq_str, ↓Z.ne_str, ↓eq_non, ↓eq_tup, ↓eq_ref, ↓Z.neg_int, ↓seq_tup, ↓seq_ilst, ↓Z.ix_tup, ↓ix_int, ↓sqK_some, ↓ixK_0, ↓ixK_s, ↓tyK_some, ↓ty_non, ↓ty_bl, ↓ty_int, ↓ty_str, ↓ty_tup, ↓ty_ilst, ↓isi_eq, ↓isi2_eq, isiW, ↓len_tup, ↓intc_int, ↓abs_int, ↓gcd_int, ↓list_seq, ↓tuple_seq, ↓all_ref, ↓sum_ref, ↓Z.sl_tup, ↓sl_ilst, ↓sl_ref, ↓walk_tup, ↓walk_ilst, ↓walk_ref, ↓en_ref, start', List.map_cons, List.map_nil, List.cons_append, List.nil_append, List.append_nil, List.length_cons, List.length_nil, List.replicate, List.set_cons_zero, List.set_cons_succ, List.set_nil, List.getElem?_cons_zero, List.getElem?_cons_succ, wipeD, Nat.zero_add, Nat.reduceAdd, Nat.reduceSub, Nat.sub_self, Nat.sub_zero, true_and, and_true, if_true, if_false, Bool.not_true, Bool.not_false, ite_true, ite_false, Bool.false_eq_true, decide_true, decide_false, decide_eq_true_eq, Int.cast_ofNat_Int, reduceIte, Bool.not_eq_true', decide_eq_false_iff_not, Bool.and_true, Bool.true_and, Bool.and_false, Bool.false_and, Bool.or_true, Bool.true_or, Bool.or_false, Bool.false_or, beq_self_eq_true, bne_self_eq_false, not_true_eq_false, not_false_eq_true, String.reduceBEq, String.reduceBNe, Int.reduceToNat, Bool.true_eq_false, reduceCtorEq, Int.reduceEq, Int.reduceLT, Int.reduceLE, gt_iff_lt, ge_iff_le, ↓wBreak_m, ↓wCont_m, ↓wPar3_m, trioK_3, ↓wFldS_m, ↓wFld_e, ↓wChain_e, ↓wLam_e, ↓wIsE_e, ↓wRaise0_e, ↓wCallX_e, ↓wCallKX_e, ↓wYes_e, ↓wCallK_e, isDct_eq, dkK_eq, ↓wDnewT_e, ↓wXf_e, ↓wIsE2_e, ↓wMakeK_e, ↓ownEqD_e, ↓wIsO_e, ↓wRaiseN_e, ↓vEnumG_e])
local macro_rules | `(tactic| walk_at "go") => `(tactic| ((first | with_reducible refine hld_i ?_ | skip); try walk_at "st"))
local macro_rules | `(tactic| walk_at "sx") => `(tactic| ((try simp only [sp_is_integer, sp_lowest, sp_exact, sp_law_draw, sp_law_of, sp_law_same, sp_law_low, sp_law_hand, sp_law_number, sp_is_number, sp_is_corner, sp_is_index, sp_is_face, sp_Net_init, sp_Net_eq, sp_law_bag, sp_law_is_num, sp_law_handed, sp_law_bad, sp_law_bent_corner, sp_law_bent_face, sp_law_any, sp_law_bend, sp_law_drawn, sp_law_pair]); try walk_at "st"))
local macro_rules | `(tactic| walk_at "s0") => `(tactic| simp (implicitDefEqProofs := false) only [start', List.map_cons, List.map_nil, List.length_cons, List.length_nil, Nat.zero_add, Nat.reduceAdd, Nat.reduceSub, List.replicate, List.cons_append, List.nil_append])
local macro_rules | `(tactic| walk_at "rr") => `(tactic| repeat (first | with_reducible refine hld_i ?_ | walk_at "st"))
local macro_rules | `(tactic| walk_at "rx") => `(tactic| repeat (first | with_reducible refine hld_i ?_ | walk_at "st" | simp only [sp_is_integer, sp_lowest, sp_exact, sp_law_draw, sp_law_of, sp_law_same, sp_law_low, sp_law_hand, sp_law_number, sp_is_number, sp_is_corner, sp_is_index, sp_is_face, sp_Net_init, sp_Net_eq, sp_law_bag, sp_law_is_num, sp_law_handed, sp_law_bad, sp_law_bent_corner, sp_law_bent_face, sp_law_any, sp_law_bend, sp_law_drawn, sp_law_pair]))
local macro_rules | `(tactic| walk_at "dw") => `(tactic| (refine draw (by first | exact up_same | assumption) (by assumption) (by omega) (by omega) (by omega) ?_))

variable {K : PySem.W.Frag}
def okb : Nat → D → Bool
  | _, .non => true
  | _, .bl _ => true
  | _, .str _ => true
  | _, .int i => decide (i.natAbs < 1152921504606846976)
  | 0, _ => false
  | n + 1, .tup ds => decide (ds.length ≤ 20) && ds.all (okb n)
  | n + 1, .ilst ds => decide (ds.length ≤ 20) && ds.all (okb n)
  | _ + 1, _ => false
theorem okb_ok : ∀ {n : Nat} {d : D}, okb n d = true → OkV n d
  | n, .non, _ => by cases n <;> trivial
  | n, .bl _, _ => by cases n <;> trivial
  | n, .str _, _ => by cases n <;> trivial
  | n, .int i, h => by
    have : i.natAbs < 2 ^ 60 := by cases n <;> exact of_decide_eq_true h
    cases n <;> exact this
  | n + 1, .tup ds, h => by
    unfold okb at h
    simp only [Bool.and_eq_true, decide_eq_true_eq, List.all_eq_true] at h
    exact ⟨h.1, fun d hd => okb_ok (h.2 d hd)⟩
  | n + 1, .ilst ds, h => by
    unfold okb at h
    simp only [Bool.and_eq_true, decide_eq_true_eq, List.all_eq_true] at h
    exact ⟨h.1, fun d hd => okb_ok (h.2 d hd)⟩
  | 0, .tup _, h => by cases h
  | 0, .ilst _, h => by cases h
  | 0, .ref _, h => by cases h
  | _ + 1, .ref _, h => by cases h
  | 0, .ty _, h => by cases h
  | _ + 1, .ty _, h => by cases h
  | 0, .obj _ _, h => by cases h
  | _ + 1, .obj _ _, h => by cases h
  | 0, .scr _, h => by cases h
  | _ + 1, .scr _, h => by cases h
theorem okb_all {n k : Nat} {ds : List D} {x : D} (hx : x ∈ ds) (h : (ds.all fun x => okb n x && decide (tlen x ≤ k)) = true) : OkV n x ∧ tlen x ≤ k := by
  have := List.all_eq_true.mp h x hx
  simp only [Bool.and_eq_true, decide_eq_true_eq] at this
  exact ⟨okb_ok this.1, this.2⟩
theorem rd_law_any : RD_law_any K := by
  intro ds L Q E h
  unfold sp_law_any at h
  split at h
  · rename_i b
    obtain ⟨o, T, hb, hB, hT, h⟩ := h
    unfold t_law_any
    walk_at "s0"
    walk_at "rr"
    refine ⟨o, T, _, hb, hB, by omega, rfl, List.cons_ne_nil _ _, by simp only [List.length_cons, List.length_nil]; omega, fun x hx o' hB' => ?_⟩
    have := okb_all (n := 3) (k := 4) hx (by rfl)
    exact .mk (h _ o' this.1 this.2 (hB'.le (by omega)))
  · exact h.elim
theorem ok_up {n : Nat} {d : D} (h : OkV n d) : OkV (n + 1) d := by
  induction n generalizing d with
  | zero =>
    cases d <;> first | trivial | (unfold OkV at h ⊢; exact h) | (unfold OkV at h; exact h.elim)
  | succ n ih =>
    cases d <;> first | trivial | (unfold OkV at h ⊢; exact h) | (unfold OkV at h ⊢; exact ⟨h.1, fun d hd => ih (h.2 d hd)⟩)
theorem ok_put {m n : Nat} {xs : List D} {e : D} (okx : ∀ d ∈ xs, OkV m d) (oke : OkV m e) (lx : xs.length ≤ 10) : OkV (m + 1) (.tup (xs.take n ++ [e] ++ xs.drop (n + 1))) ∧ tlen (.tup (xs.take n ++ [e] ++ xs.drop (n + 1))) ≤ xs.length + 1 := by
  have l : (xs.take n ++ [e] ++ xs.drop (n + 1)).length ≤ xs.length + 1 := by
    simp only [List.length_append, List.length_take, List.length_drop, List.length_cons, List.length_nil]
    omega
  refine ⟨⟨by omega, fun d hd => ?_⟩, l⟩
  rcases List.mem_append.mp hd with h | h
  · rcases List.mem_append.mp h with h | h
    · exact okx d (List.mem_of_mem_take h)
    · rw [List.mem_singleton.mp h]
      exact oke
  · exact okx d (List.mem_of_mem_drop h)
theorem at3 {a b c : D} {n : Nat} (h : n < 3) : ∃ x, atI [a, b, c] (n : Int) = some x ∧ (x = a ∨ x = b ∨ x = c) := by
  match n, h with
  | 0, _ => exact ⟨a, rfl, .inl rfl⟩
  | 1, _ => exact ⟨b, rfl, .inr (.inl rfl)⟩
  | 2, _ => exact ⟨c, rfl, .inr (.inr rfl)⟩
theorem bent3 {m : Nat} {xs : List D} {e : D} (okx : ∀ d ∈ xs, OkV m d) (oke : OkV m e) (lx : xs.length ≤ 10) {x : D} (h : x = .ilst xs ∨ x = .tup (xs.take 2) ∨ x = .tup (xs ++ [e])) : OkV (m + 1) x ∧ tlen x ≤ xs.length + 1 := by
  rcases h with rfl | rfl | rfl
  · exact ⟨⟨by omega, okx⟩, Nat.le_succ _⟩
  · refine ⟨⟨by rw [List.length_take]; omega, fun d hd => okx d (List.mem_of_mem_take hd)⟩, ?_⟩
    show (xs.take 2).length ≤ _
    rw [List.length_take]
    omega
  · refine ⟨⟨by simp; omega, fun d hd => ?_⟩, ?_⟩
    · rcases List.mem_append.mp hd with h | h
      · exact okx d h
      · rw [List.mem_singleton.mp h]
        exact oke
    · show (xs ++ [e]).length ≤ _
      simp
theorem cut_2 {α : List D} : Z.cutD α none (some 2) = α.take 2 := cut_to 2
theorem cut_s {α : List D} (k : Nat) : Z.cutD α (some ((k : Int) + 1)) none = α.drop (k + 1) := cut_from (k + 1)
theorem rd_law_bent_corner : RD_law_bent_corner K := by
  intro ds L Q E h
  unfold sp_law_bent_corner at h
  split at h
  · rename_i b d
    obtain ⟨o, T, xs, hb, hB, hT, rfl, ok, lx, h⟩ := h
    obtain ⟨m, hm, lx2, okx⟩ := ok_tup ok
    cases hm
    unfold t_law_bent_corner t_law_bent_corner_1
    walk_at "s0"
    walk_at "rr"
    refine draw hb hB (by omega) (by decide) (by decide) fun n o1 hn hB1 => ?_
    walk_at "rr"
    refine draw up_same hB1 (by omega) (by decide) (by decide) fun w o2 hw hB2 => ?_
    walk_at "rr"
    by_cases c : (w : Int) < 3
    · rw [if_pos c]
      walk_at "rr"
      refine ⟨szl (by simp; omega), ?_⟩
      walk_at "rr"
      obtain ⟨x, hx, k⟩ := at3 (a := .ilst xs) (b := .tup (Z.cutD xs none (some 2))) (c := .tup (xs ++ [.tup [.int 1, .int 1]])) (n := w) (by omega)
      refine atK_at hx ?_
      rw [cut_2] at k
      have := bent3 okx (okb_ok (show okb 2 (.tup [.int 1, .int 1]) = true from rfl)) lx k
      walk_at "rr"
      exact .mk (h _ _ this.1 this.2 (hB2.le (by omega)))
    · rw [if_neg c]
      walk_at "rr"
      refine ⟨o2, T + 2, _, up_same, hB2, by omega, rfl, List.cons_ne_nil _ _, by simp only [List.length_cons, List.length_nil]; omega, fun x hx o3 hB3 => ?_⟩
      have okx3 := okb_all (n := 2) (k := 4) hx (by rfl)
      walk_at "rr"
      rw [cut_to, cut_s]
      refine ⟨szl (by simp; omega), ?_⟩
      walk_at "rr"
      refine ⟨szl (by simp; omega), ?_⟩
      walk_at "rr"
      have := ok_put (n := n) okx okx3.1 lx
      exact .mk (h _ _ this.1 this.2 (hB3.le (by omega)))
  · exact h.elim
theorem rd_law_bent_face : RD_law_bent_face K := by
  intro ds L Q E h
  unfold sp_law_bent_face at h
  split at h
  · rename_i b d mm
    obtain ⟨o, T, xs, hb, hB, hT, rfl, ok, lx, hmm, h⟩ := h
    obtain ⟨m, hm, lx2, okx⟩ := ok_tup ok
    cases hm
    unfold t_law_bent_face t_law_bent_face_1
    walk_at "s0"
    walk_at "rr"
    refine draw hb hB (by omega) (by decide) (by decide) fun n o1 hn hB1 => ?_
    walk_at "rr"
    refine draw up_same hB1 (by omega) (by decide) (by decide) fun w o2 hw hB2 => ?_
    walk_at "rr"
    by_cases c : (w : Int) < 3
    · rw [if_pos c]
      walk_at "rr"
      refine ⟨szl (by simp; omega), ?_⟩
      walk_at "rr"
      obtain ⟨x, hx, k⟩ := at3 (a := .ilst xs) (b := .tup (Z.cutD xs none (some 2))) (c := .tup (xs ++ [.int 0])) (n := w) (by omega)
      refine atK_at hx ?_
      rw [cut_2] at k
      have := bent3 okx (okb_ok (show okb 2 (.int 0) = true from rfl)) lx k
      walk_at "rr"
      exact .mk (h _ _ this.1 this.2 (hB2.le (by omega)))
    · rw [if_neg c]
      walk_at "rr"
      refine ⟨CPowW.of (by decide) (by decide) (by decide), CPowW.of (by decide) (by decide) (by decide), ?_⟩
      refine ⟨o2, T + 2, _, up_same, hB2, by omega, rfl, List.cons_ne_nil _ _, by simp only [List.length_cons, List.length_nil]; omega, fun x hx o3 hB3 => ?_⟩
      have okx3 : OkV 2 x := by
        simp only [List.mem_cons, List.not_mem_nil, or_false] at hx
        rcases hx with rfl | rfl | rfl | rfl | rfl | rfl | rfl | rfl | rfl | rfl | rfl | rfl | rfl | rfl
        all_goals first | exact okb_ok rfl | (unfold OkV; omega)
      walk_at "rr"
      rw [cut_to, cut_s]
      refine ⟨szl (by simp; omega), ?_⟩
      walk_at "rr"
      refine ⟨szl (by simp; omega), ?_⟩
      walk_at "rr"
      have := ok_put (n := n) okx okx3 lx
      exact .mk (h _ _ this.1 this.2 (hB3.le (by omega)))
  · exact h.elim
end Hd

set_option exponentiation.threshold 20000
open PySem PySem.Spec PyProof.Rows L2 Z
namespace Hd
local macro_rules | `(tactic| walk_at "st") => `(tactic| simp (implicitDefEqProofs := false) only [↓seqD_up, ↓seqL_up, ↓len_ilst, ↓len_up, ↓truD_ilst, up_up, List.length_map, ↓wFor_m, ↓frzK_up, ↓frzK_upi, ↓wFz_e, ↓wFg_e, ↓wLstF_e, ↓addF_int, ↓addF_l, ↓addF_tup, ↓addF_str, ↓mulF_int, ↓mulF_l, ↓wSlF_e, ↓slF_tup, ↓slF_str, ↓slF_l, ↓slF_scr, ↓slF_ref, ↓listF_eq, ↓listdF_eq, ↓sortedF_eq, ↓allF_eq, ↓sumF_eq, ↓extF_eq, ↓vEnumF_e, ↓enF_l, ↓fldF_obj, ↓fldF_ref, ↓wFldF_e, ↓wLcF_e, ↓pName_e, ↓pNil_e, ↓pCons_e, ↓pTup_e, ↓gK_some, ↓obind_e, ↓seqL_ilst, ↓addM_eq, ↓sq2_some, ↓wVar_0, ↓wVar_s, ↓hNil_e, ↓hCons_e, ↓wDget_e, ↓wDget2_e, ↓wDput_m, ↓wSortIt_e, ↓wMake_e, ↓wIfS_m, ↓wSeq_m, ↓wAsg_m, ↓hName_e, ↓wC_e, ↓wNil_e, ↓wCons_e, ↓wTup_e, ↓wLst_e, ↓wOp_e, ↓wUn_e, ↓wIf_e, ↓wAndV_e, ↓wOrV_e, ↓wNotV_e, ↓wB_e, ↓wAnd_e, ↓wOr_e, ↓zNot_e, ↓zTru_e, ↓hCons_e, ↓hTup_e, ↓hSub_e, ↓wNext_m, ↓wDrop_m, ↓wRet_m, ↓wRetN_m, ↓wPar_m, ↓wCB_e, ↓wCall_e, ↓wIxk_e, ↓wSl_e, ↓wNoPart_e, ↓wPart_e, ↓wBM_e, ↓wBM0_e, ↓wChain_e, ↓wNever_e, ↓vSeq_e, ↓vEnum_e, ↓vRng1_e, ↓vRng2_e, vZip, ↓blK_bl, ↓tupK_tup, ↓pairK_2, ↓inK_int, ↓truD_bl, ↓truD_int, ↓truD_non, ↓truD_tup, ↓isn_non, ↓isn_int, ↓isn_bl, ↓isn_str, ↓isn_tup, ↓isn_ref, ↓Z.add_int, ↓add_tup, ↓add_ref, ↓intD_eq, ↓intD0_eq, ↓Z.mul_int, ↓Z.eq_int, ↓Z.ne_int, ↓Z.eq_bl, ↓ne_bl, ↓Z.eq_str, ↓Z.ne_str, ↓eq_non, ↓eq_tup, ↓eq_ref, ↓Z.neg_int, ↓seq_tup, ↓seq_ilst, ↓Z.ix_tup, ↓ix_int, ↓sqK_some, ↓ixK_0, ↓ixK_s, ↓tyK_some, ↓ty_non, ↓ty_bl, ↓ty_int, ↓ty_str, ↓ty_tup, ↓ty_ilst, ↓isi_eq, ↓isi2_eq, isiW, ↓len_tup, ↓intc_int, ↓abs_int, ↓gcd_int, ↓list_seq, ↓tuple_seq, ↓all_ref, ↓sum_ref, ↓Z.sl_tup, ↓sl_ilst, ↓sl_ref, ↓walk_tup, ↓walk_ilst, ↓walk_ref, ↓en_ref, start', List.map_cons, List.map_nil, List.cons_append, List.nil_append, List.append_nil, List.length_cons, List.length_nil, List.replicate, List.set_cons_zero, List.set_cons_succ, List.set_nil, List.getElem?_cons_zero, List.getElem?_cons_succ, wipeD, Nat.zero_add, Nat.reduceAdd, Nat.reduceSub, Nat.sub_self, Nat.sub_zero, true_and, and_true, if_true, if_false, Bool.not_true, Bool.not_false, ite_true, ite_false, Bool.false_eq_true, decide_true, decide_false, decide_eq_true_eq, Int.cast_ofNat_Int, reduceIte, Bool.not_eq_true', decide_eq_false_iff_not, Bool.and_true, Bool.true_and, Bool.and_false, Bool.false_and, Bool.or_true, Bool.true_or, Bool.or_false, Bool.false_or, beq_self_eq_true, bne_self_eq_false, not_true_eq_false, not_false_eq_true, String.reduceBEq, String.reduceBNe, Int.reduceToNat, Bool.true_eq_false, reduceCtorEq, Int.reduceEq, Int.reduceLT, Int.reduceLE, gt_iff_lt, ge_iff_le, ↓wBreak_m, ↓wCont_m, ↓wPar3_m, trioK_3, ↓wFldS_m, ↓wFld_e, ↓wChain_e, ↓wLam_e, ↓wIsE_e, ↓wRaise0_e, ↓wCallX_e, ↓wCallKX_e, ↓wYes_e, ↓wCallK_e, isDct_eq, dkK_eq, ↓wDnewT_e, ↓wXf_e, ↓wIsE2_e, ↓wMakeK_e, ↓ownEqD_e, ↓wIsO_e, ↓wRaiseN_e, ↓vEnumG_e])
local macro_rules | `(tactic| walk_at "go") => `(tactic| ((first | with_reducible refine hld_i ?_ | skip); try walk_at "st"))
local macro_rules | `(tactic| walk_at "sx") => `(tactic| ((try simp only [sp_is_integer, sp_lowest, sp_exact, sp_law_draw, sp_law_of, sp_law_same, sp_law_low, sp_law_hand, sp_law_number, sp_is_number, sp_is_corner, sp_is_index, sp_is_face, sp_Net_init, sp_Net_eq, sp_law_bag, sp_law_is_num, sp_law_handed, sp_law_bad, sp_law_bent_corner, sp_law_bent_face, sp_law_any, sp_law_bend, sp_law_drawn, sp_law_pair]); try walk_at "st"))
local macro_rules | `(tactic| walk_at "s0") => `(tactic| simp (implicitDefEqProofs := false) only [start', List.map_cons, List.map_nil, List.length_cons, List.length_nil, Nat.zero_add, Nat.reduceAdd, Nat.reduceSub, List.replicate, List.cons_append, List.nil_append])
local macro_rules | `(tactic| walk_at "rr") => `(tactic| repeat (first | with_reducible refine hld_i ?_ | walk_at "st"))
local macro_rules | `(tactic| walk_at "rx") => `(tactic| repeat (first | with_reducible refine hld_i ?_ | walk_at "st" | simp only [sp_is_integer, sp_lowest, sp_exact, sp_law_draw, sp_law_of, sp_law_same, sp_law_low, sp_law_hand, sp_law_number, sp_is_number, sp_is_corner, sp_is_index, sp_is_face, sp_Net_init, sp_Net_eq, sp_law_bag, sp_law_is_num, sp_law_handed, sp_law_bad, sp_law_bent_corner, sp_law_bent_face, sp_law_any, sp_law_bend, sp_law_drawn, sp_law_pair]))
local macro_rules | `(tactic| walk_at "dw") => `(tactic| (refine draw (by first | exact up_same | assumption) (by assumption) (by omega) (by omega) (by omega) ?_))

variable {K : PySem.W.Frag}

/-- behind the choice of the list -/
def tb_rest : TS' := (wSeq (wAsg (wCall sp_law_draw [] X0 (wCons (wVar 0) (wCons (wOp addF (wCB lenD (wCons (wVar 4) wNil)) (wC (.int 1))) wNil))) (hName 6))
  (wIfS (wOr (wB (wOp (eqD false) (wVar 6) (wCB lenD (wCons (wVar 4) wNil)))) (wB (wOp (eqD false) (wCall sp_law_draw [] X0 (wCons (wVar 0) (wCons (wC (.int 5)) wNil))) (wC (.int 0))))) (wDrop (wBM "list" insertD (wVar 4) (wCons (wVar 6) (wCons (wCall sp_law_any [] X0 (wCons (wVar 0) wNil)) wNil)))) (wIfS (zNot (zTru (wCB (isiW "tuple") (wCons (wOp ixD (wVar 4) (wVar 6)) (wCons (wC (.ty "tuple")) wNil))))) (wAsg (wCall sp_law_any [] X0 (wCons (wVar 0) wNil)) (hSub (wVar 4) (wVar 6) setD)) (wIfS (wB (wOp (eqD false) (wVar 5) (wC (.str "corner")))) (wAsg (wCall sp_law_bent_corner [] X0 (wCons (wVar 0) (wCons (wOp ixD (wVar 4) (wVar 6)) wNil))) (hSub (wVar 4) (wVar 6) setD)) (wAsg (wCall sp_law_bent_face [] X0 (wCons (wVar 0) (wCons (wOp ixD (wVar 4) (wVar 6)) (wCons (wVar 3) wNil)))) (hSub (wVar 4) (wVar 6) setD))))))
theorem OkIs.up {k : Nat} {ds : List D} (h : OkIs k ds) : OkIs (k + 1) ds := fun d hd => ⟨(h d hd).1, Nat.le_succ_of_le (h d hd).2⟩
theorem OkIs.ins {k n : Nat} {ds : List D} {e : D} (h : OkIs k ds) (h1 : OkV 3 e) (h2 : tlen e ≤ k + 1) : OkIs (k + 1) (ds.take n ++ e :: ds.drop n) := fun d hd => by
  rcases List.mem_append.mp hd with q | q
  · exact h.up d (List.mem_of_mem_take q)
  · rcases List.mem_cons.mp q with q | q
    · rw [q]
      exact ⟨h1, h2⟩
    · exact h.up d (List.mem_of_mem_drop q)
theorem OkIs.set {k n : Nat} {ds : List D} {e : D} (h : OkIs k ds) (h1 : OkV 3 e) (h2 : tlen e ≤ k + 1) : OkIs (k + 1) (ds.set n e) := fun d hd => by
  rcases List.mem_or_eq_of_mem_set hd with q | q
  · exact h.up d q
  · rw [q]
    exact ⟨h1, h2⟩
def tb_ins : TS' := (wDrop (wBM "list" insertD (wVar 4) (wCons (wVar 6) (wCons (wCall sp_law_any [] X0 (wCons (wVar 0) wNil)) wNil))))
theorem bend_rest {L : Lp} {b p q r : Addr} {o : O} {T k n : Nat} {ds : List D} {z : Str} {m : Int} {Q : VK'} (hb : L b = some o) (hB : IsBag T o) (hT : T + 19 < 1099511627776) (br : b ≠ r) (hr : L r = some (.lst ds)) (oc : OkIs k ds) (lc : ds.length ≤ n) (k4 : 4 ≤ k) (k8 : k ≤ 8) (n15 : n ≤ 15) (hm : 0 ≤ m ∧ m ≤ 20)
    (h : ∀ ds' o', OkIs (k + 1) ds' → ds'.length ≤ n + 1 → IsBag (T + 19) o' → Q .non (up (up L b o') r (.lst ds'))) :
    tb_rest { nx := fun x L1 => Dn (Q D.non) L1, rt := fun d L1 => Dn (Q d) L1 } [some (.ref b), some (.ref p), some (.ref q), some (.int m), some (.ref r), some (.str z), none] L := by
  have up1 : ∀ o1 o2 : O, up (up L b o1) b o2 = up L b o2 := fun _ _ => up_up
  have rr : ∀ o1 : O, up L b o1 r = some (.lst ds) := fun o1 => by rw [up_ne (Ne.symm br)]; exact hr
  have ins : ∀ (w : Nat) (o1 : O) (T1 : Nat), IsBag T1 o1 → T1 ≤ T + 2 → w ≤ ds.length → tb_ins { nx := fun x L1 => Dn (Q D.non) L1, rt := fun d L1 => Dn (Q d) L1 } [some (.ref b), some (.ref p), some (.ref q), some (.int m), some (.ref r), some (.str z), some (.int (w : Int))] (up L b o1) := by
    intro w o1 T1 hB1 hT1 hw
    unfold tb_ins
    walk_at "rr"
    refine ⟨.inl ⟨rfl, _, rr o1⟩, ?_⟩
    refine ⟨o1, T1, up_same, hB1, by omega, fun e o2 h1 h2 hB2 => ?_⟩
    rw [up1]
    refine ⟨ds, rr o2, by have := szl (n := ds.length) (by omega); exact Nat.lt_of_lt_of_le (show ds.length < 100 by omega) (szl (by decide)), by omega, by omega, ?_⟩
    walk_at "rr"
    refine .mk (h _ o2 (oc.ins h1 (by omega)) ?_ (hB2.le (by omega)))
    simp only [List.length_append, List.length_take, List.length_drop, List.length_cons]
    omega
  unfold tb_rest
  walk_at "rr"
  rw [len_seq (seq_ref hr)]
  walk_at "rr"
  refine draw hb hB (by omega) (by omega) (by omega) fun w o1 hw hB1 => ?_
  walk_at "rr"
  rw [len_seq (seq_ref (rr o1))]
  walk_at "rr"
  by_cases c : (w : Int) = ds.length
  · rw [if_pos c]
    refine hld_i ?_
    exact ins w o1 _ hB1 (by omega) (by omega)
  · rw [if_neg c]
    refine draw up_same hB1 (by omega) (by omega) (by omega) fun v o2 hv hB2 => ?_
    rw [up1]
    walk_at "rr"
    by_cases c2 : (v : Int) = 0
    · rw [if_pos c2]
      refine hld_i ?_
      exact ins w o2 _ hB2 (by omega) (by omega)
    · rw [if_neg c2]
      have hwl : w < ds.length := by omega
      have hd : ds[w]? = some ds[w] := List.getElem?_eq_getElem hwl
      generalize hz : ds[w] = d at hd
      obtain ⟨ok, tl⟩ := oc d (List.mem_of_getElem? hd)
      have at_ : atI ds (w : Int) = some d := (atN hwl).trans (congrArg some hz)
      have ixn : ixN ds.length (w : Int) = some w := by unfold ixN; simp; omega
      have fin : ∀ (e : D) (o3 : O) (T3 : Nat), OkV 3 e → tlen e ≤ k + 1 → IsBag T3 o3 → T3 ≤ T + 19 → Dn (Q .non) (up (up L b o3) r (.lst (ds.set w e))) := fun e o3 T3 h1 h2 h3 h4 =>
        .mk (h _ o3 (oc.set h1 h2) (by rw [List.length_set]; omega) (h3.le h4))
      walk_at "rr"
      rw [seq_ref (rr o2)]
      refine atK_at at_ ?_
      walk_at "rr"
      by_cases ct : ∃ xs, d = .tup xs
      · obtain ⟨xs, rfl⟩ := ct
        have lx : xs.length ≤ k := tl
        walk_at "rr"
        by_cases c3 : z = Str.ofString "corner"
        · rw [if_pos c3]
          walk_at "rr"
          rw [seq_ref (rr o2)]
          refine atK_at at_ ?_
          refine ⟨o2, T + 2, xs, up_same, hB2, by omega, rfl, ok, by omega, fun e o3 h1 h2 hB3 => ?_⟩
          rw [up1]
          walk_at "rr"
          exact set_at (rr o3) ixn (fin e o3 _ h1 (by omega) hB3 (by omega))
        · rw [if_neg c3]
          walk_at "rr"
          rw [seq_ref (rr o2)]
          refine atK_at at_ ?_
          refine ⟨o2, T + 2, xs, up_same, hB2, by omega, rfl, ok, by omega, hm, fun e o3 h1 h2 hB3 => ?_⟩
          rw [up1]
          walk_at "rr"
          exact set_at (rr o3) ixn (fin e o3 _ h1 (by omega) hB3 (by omega))
      · have e3 : (tyn d == "tuple") = false := by
          cases d <;> first | rfl | exact absurd ⟨_, rfl⟩ ct
        rw [ok_ty ok]
        walk_at "rr"
        simp only [e3]
        walk_at "rr"
        refine ⟨o2, T + 2, up_same, hB2, by omega, fun e o3 h1 h2 hB3 => ?_⟩
        rw [up1]
        walk_at "rr"
        exact set_at (rr o3) ixn (fin e o3 _ h1 (by omega) hB3 (by omega))
theorem rd_law_bend : RD_law_bend K := by
  intro ds L Q E h
  unfold sp_law_bend at h
  split at h
  · rename_i b p q
    obtain ⟨o, T, k, n, cds, fds, hb, hB, hT, bp, bq, pq, hp, hq, oc, of, lc, lf, k4, k8, n15, h⟩ := h
    unfold t_law_bend
    walk_at "s0"
    walk_at "rr"
    rw [len_seq (seq_ref hp)]
    walk_at "rr"
    refine draw hb hB (by omega) (by decide) (by decide) fun w o1 hw hB1 => ?_
    walk_at "rr"
    have hp1 : up L b o1 p = some (.lst cds) := by rw [up_ne (Ne.symm bp)]; exact hp
    have hq1 : up L b o1 q = some (.lst fds) := by rw [up_ne (Ne.symm bq)]; exact hq
    by_cases c : (w : Int) < 2
    · rw [if_pos c]
      refine hld_i ?_
      refine bend_rest (T := T + 1) up_same hB1 (by omega) bp hp1 oc lc k4 k8 n15 ⟨by omega, by omega⟩ fun ds' o' h1 h2 h3 => ?_
      have := h ds' fds o' h1 of.up h2 (by omega) (h3.le (by omega))
      rw [up_id (by rw [up_ne (Ne.symm pq), up_ne (Ne.symm bq)]; exact hq)] at this
      rw [up_up]
      exact this
    · rw [if_neg c]
      refine hld_i ?_
      refine bend_rest (T := T + 1) up_same hB1 (by omega) bq hq1 of lf k4 k8 n15 ⟨by omega, by omega⟩ fun ds' o' h1 h2 h3 => ?_
      have := h cds ds' o' oc.up h1 (by omega) h2 (h3.le (by omega))
      rw [up_id (b := p) (by rw [up_ne (Ne.symm bp)]; exact hp)] at this
      rw [up_up]
      exact this
  · exact h.elim
end Hd

set_option exponentiation.threshold 20000
open PySem PySem.Spec PyProof.Rows L2 Z
namespace Hd
local macro_rules | `(tactic| walk_at "st") => `(tactic| simp (implicitDefEqProofs := false) only [↓seqD_up, ↓seqL_up, ↓len_ilst, ↓len_up, ↓truD_ilst, up_up, List.length_map, ↓wFor_m, ↓frzK_up, ↓frzK_upi, ↓wFz_e, ↓wFg_e, ↓wLstF_e, ↓addF_int, ↓addF_l, ↓addF_tup, ↓addF_str, ↓mulF_int, ↓mulF_l, ↓wSlF_e, ↓slF_tup, ↓slF_str, ↓slF_l, ↓slF_scr, ↓slF_ref, ↓listF_eq, ↓listdF_eq, ↓sortedF_eq, ↓allF_eq, ↓sumF_eq, ↓extF_eq, ↓vEnumF_e, ↓enF_l, ↓fldF_obj, ↓fldF_ref, ↓wFldF_e, ↓wLcF_e, ↓pName_e, ↓pNil_e, ↓pCons_e, ↓pTup_e, ↓gK_some, ↓obind_e, ↓seqL_ilst, ↓addM_eq, ↓sq2_some, ↓wVar_0, ↓wVar_s, ↓hNil_e, ↓hCons_e, ↓wDget_e, ↓wDget2_e, ↓wDput_m, ↓wSortIt_e, ↓wMake_e, ↓wIfS_m, ↓wSeq_m, ↓wAsg_m, ↓hName_e, ↓wC_e, ↓wNil_e, ↓wCons_e, ↓wTup_e, ↓wLst_e, ↓wOp_e, ↓wUn_e, ↓wIf_e, ↓wAndV_e, ↓wOrV_e, ↓wNotV_e, ↓wB_e, ↓wAnd_e, ↓wOr_e, ↓zNot_e, ↓zTru_e, ↓hCons_e, ↓hTup_e, ↓hSub_e, ↓wNext_m, ↓wDrop_m, ↓wRet_m, ↓wRetN_m, ↓wPar_m, ↓wCB_e, ↓wCall_e, ↓wIxk_e, ↓wSl_e, ↓wNoPart_e, ↓wPart_e, ↓wBM_e, ↓wBM0_e, ↓wChain_e, ↓wNever_e, ↓vSeq_e, ↓vEnum_e, ↓vRng1_e, ↓vRng2_e, vZip, ↓blK_bl, ↓tupK_tup, ↓pairK_2, ↓inK_int, ↓truD_bl, ↓truD_int, ↓truD_non, ↓truD_tup, ↓isn_non, ↓isn_int, ↓isn_bl, ↓isn_str, ↓isn_tup, ↓isn_ref, ↓Z.add_int, ↓add_tup, ↓add_ref, ↓intD_eq, ↓intD0_eq, ↓Z.mul_int, ↓Z.eq_int, ↓Z.ne_int, ↓Z.eq_bl, ↓ne_bl, ↓Z.eq_str, ↓Z.ne_str, ↓eq_non, ↓eq_tup, ↓eq_ref, ↓Z.neg_int, ↓seq_tup, ↓seq_ilst, ↓Z.ix_tup, ↓ix_int, ↓sqK_some, ↓ixK_0, ↓ixK_s, ↓tyK_some, ↓ty_non, ↓ty_bl, ↓ty_int, ↓ty_str, ↓ty_tup, ↓ty_ilst, ↓isi_eq, ↓isi2_eq, isiW, ↓len_tup, ↓intc_int, ↓abs_int, ↓gcd_int, ↓list_seq, ↓tuple_seq, ↓all_ref, ↓sum_ref, ↓Z.sl_tup, ↓sl_ilst, ↓sl_ref, ↓walk_tup, ↓walk_ilst, ↓walk_ref, ↓en_ref, start', List.map_cons, List.map_nil, List.cons_append, List.nil_append, List.append_nil, List.length_cons, List.length_nil, List.replicate, List.set_cons_zero, List.set_cons_succ, List.set_nil, List.getElem?_cons_zero, List.getElem?_cons_succ, wipeD, Nat.zero_add, Nat.reduceAdd, Nat.reduceSub, Nat.sub_self, Nat.sub_zero, true_and, and_true, if_true, if_false, Bool.not_true, Bool.not_false, ite_true, ite_false, Bool.false_eq_true, decide_true, decide_false, decide_eq_true_eq, Int.cast_ofNat_Int, reduceIte, Bool.not_eq_true', decide_eq_false_iff_not, Bool.and_true, Bool.true_and, Bool.and_false, Bool.false_and, Bool.or_true, Bool.true_or, Bool.or_false, Bool.false_or, beq_self_eq_true, bne_self_eq_false, not_true_eq_false, not_false_eq_true, String.reduceBEq, String.reduceBNe, Int.reduceToNat, Bool.true_eq_false, reduceCtorEq, Int.reduceEq, Int.reduceLT, Int.reduceLE, gt_iff_lt, ge_iff_le, ↓wBreak_m, ↓wCont_m, ↓wPar3_m, trioK_3, ↓wFldS_m, ↓wFld_e, ↓wChain_e, ↓wLam_e, ↓wIsE_e, ↓wRaise0_e, ↓wCallX_e, ↓wCallKX_e, ↓wYes_e, ↓wCallK_e, isDct_eq, dkK_eq, ↓wDnewT_e, ↓wXf_e, ↓wIsE2_e, ↓wMakeK_e, ↓ownEqD_e, ↓wIsO_e, ↓wRaiseN_e, ↓vEnumG_e])
local macro_rules | `(tactic| walk_at "go") => `(tactic| ((first | with_reducible refine hld_i ?_ | skip); try walk_at "st"))
local macro_rules | `(tactic| walk_at "sx") => `(tactic| ((try simp only [sp_is_integer, sp_lowest, sp_exact, sp_law_draw, sp_law_of, sp_law_same, sp_law_low, sp_law_hand, sp_law_number, sp_is_number, sp_is_corner, sp_is_index, sp_is_face, sp_Net_init, sp_Net_eq, sp_law_bag, sp_law_is_num, sp_law_handed, sp_law_bad, sp_law_bent_corner, sp_law_bent_face, sp_law_any, sp_law_bend, sp_law_drawn, sp_law_pair]); try walk_at "st"))
local macro_rules | `(tactic| walk_at "s0") => `(tactic| simp (implicitDefEqProofs := false) only [start', List.map_cons, List.map_nil, List.length_cons, List.length_nil, Nat.zero_add, Nat.reduceAdd, Nat.reduceSub, List.replicate, List.cons_append, List.nil_append])
local macro_rules | `(tactic| walk_at "rr") => `(tactic| repeat (first | with_reducible refine hld_i ?_ | walk_at "st"))
local macro_rules | `(tactic| walk_at "rx") => `(tactic| repeat (first | with_reducible refine hld_i ?_ | walk_at "st" | simp only [sp_is_integer, sp_lowest, sp_exact, sp_law_draw, sp_law_of, sp_law_same, sp_law_low, sp_law_hand, sp_law_number, sp_is_number, sp_is_corner, sp_is_index, sp_is_face, sp_Net_init, sp_Net_eq, sp_law_bag, sp_law_is_num, sp_law_handed, sp_law_bad, sp_law_bent_corner, sp_law_bent_face, sp_law_any, sp_law_bend, sp_law_drawn, sp_law_pair]))
local macro_rules | `(tactic| walk_at "dw") => `(tactic| (refine draw (by first | exact up_same | assumption) (by assumption) (by omega) (by omega) (by omega) ?_))

variable {K : PySem.W.Frag}

theorem ixn_nat {n m : Nat} (h : m < n) : ixN n (m : Int) = some m := by unfold ixN; simp; omega
theorem del_out {L : Lp} {a b : Addr} {u : O} (h : a ≠ b) : del (up L b u) a = up (del L a) b u := by
  funext x
  by_cases h1 : x = a
  · subst h1; rw [Z.del_same, up_ne h, Z.del_same]
  · by_cases h2 : x = b
    · subst h2; rw [Z.del_ne h1, up_same, up_same]
    · rw [Z.del_ne h1, up_ne h2, up_ne h2, Z.del_ne h1]
theorem rd_law_pair : RD_law_pair K := by
  intro ds L Q E h
  unfold sp_law_pair at h
  split at h
  · rename_i d
    obtain ⟨hd, h⟩ := h
    unfold t_law_pair
    unfold isNumD at hd
    split at hd
    · walk_at "s0"
      walk_at "rr"
      exact .mk h
    · walk_at "s0"
      walk_at "rr"
      exact .mk h
    · cases hd
  · exact h.elim
theorem num {b : Addr} {o : O} {T : Nat} {L : Lp} {Q : VK'} {E : XK'} (hb : L b = some o) (hB : IsBag T o) (hT : T + 9 < 1099511627776) (h : ∀ q o', Ok1 q → IsBag (T + 9) o' → Q (numD q) (up L b o')) : sp_law_number [.ref b] L Q E := ⟨o, T, hb, hB, hT, h⟩
theorem many_l {b : Addr} {o : O} {T : Nat} {L : Lp} {Q : VK'} {E : XK'} (hb : L b = some o) (hB : IsBag T o) (hT : T < 1099511627776) (h : ∀ (m : Nat) o', m ≤ 8 → IsBag (T + 1) o' → Q (.int m) (up L b o')) : sp_law_of [.ref b, .ilst [.int 4, .int 3, .int 5, .int 6, .int 1, .int 2, .int 8, .int 0, .int 4, .int 3, .int 7]] L Q E := by
  refine ⟨o, T, _, hb, hB, hT, rfl, List.cons_ne_nil _ _, by simp only [List.length_cons, List.length_nil]; omega, fun x hx o' hB' => ?_⟩
  simp only [List.mem_cons, List.not_mem_nil, or_false] at hx
  rcases hx with rfl | rfl | rfl | rfl | rfl | rfl | rfl | rfl | rfl | rfl | rfl
  · exact h 4 o' (by decide) hB'
  · exact h 3 o' (by decide) hB'
  · exact h 5 o' (by decide) hB'
  · exact h 6 o' (by decide) hB'
  · exact h 1 o' (by decide) hB'
  · exact h 2 o' (by decide) hB'
  · exact h 8 o' (by decide) hB'
  · exact h 0 o' (by decide) hB'
  · exact h 4 o' (by decide) hB'
  · exact h 3 o' (by decide) hB'
  · exact h 7 o' (by decide) hB'
theorem rd_law_drawn : RD_law_drawn K := by
  intro ds L Q E h
  unfold sp_law_drawn at h
  split at h
  · rename_i b
    obtain ⟨o, T, hb, hB, hT, h⟩ := h
    unfold t_law_drawn t_law_drawn_1 t_law_drawn_2 t_law_drawn_3
    walk_at "s0"
    walk_at "rr"
    refine many_l hb hB (by omega) fun m o1 hm hB1 => ?_
    walk_at "rr"
    refine lcM_b (List.range m) (fun i : Nat => D.int (0 + (i : Int))) (fun i acc o => (∃ cs : List C3, acc = cs.map cD ∧ cs.length = i ∧ ∀ c ∈ cs, Ok3 c) ∧ IsBag (T + 1 + 27 * i) o) (by rw [List.length_range]; exact szl (by omega)) o1 up_same ⟨⟨[], rfl, rfl, fun _ hc => nomatch hc⟩, hB1⟩ (fun R k => ?_) ?_ ?_
    · walk_at "rr"
      refine ⟨by omega, by omega, ?_⟩
      rw [Int.toNat_natCast]
      exact k _ fun _ _ _ _ => trivial
    · rintro i z acc o2 p Q' hi np ⟨⟨cs, rfl, hl, hok⟩, hB2⟩ hq
      have hil := getlt hi
      rw [List.length_range] at hil
      have hpb : p ≠ b := fun z => by subst z; rw [up_same] at np; cases np
      walk_at "rr"
      refine num (by rw [up_ne (Ne.symm hpb), up_same]) hB2 (by omega) fun q1 o3 k1 hB3 => ?_
      walk_at "rr"
      refine num up_same hB3 (by omega) fun q2 o4 k2 hB4 => ?_
      walk_at "rr"
      refine num up_same hB4 (by omega) fun q3 o5 k3 hB5 => ?_
      walk_at "rr"
      have := hq (cD (q1, q2, q3)) o5 ⟨⟨cs ++ [(q1, q2, q3)], by rw [List.map_append]; rfl, by simp [hl], fun c hc => ?_⟩, by
        have e : T + 1 + 27 * (i + 1) = T + 1 + 27 * i + 9 + 9 + 9 := by omega
        rw [e]; exact hB5⟩
      · rw [up_out hpb]
        simpa only [up_up] using this
      · rcases List.mem_append.mp hc with c1 | c1
        · exact hok c c1
        · rw [List.mem_singleton.mp c1]
          exact ⟨k1, k2, k3⟩
    · rintro p acc o2 np ⟨⟨cs, rfl, hl, hok⟩, hB2⟩ _
      rw [List.length_range] at hl hB2
      have hpb : p ≠ b := fun z => by subst z; rw [up_same] at np; cases np
      have np0 : L p = none := by rw [up_ne hpb] at np; exact np
      rw [up_up]
      walk_at "rr"
      refine ⟨⟨by decide, by decide, by omega, by omega⟩, ?_⟩
      refine for_r (fun i τ' L' => ∃ (o3 : Option D) (cs2 : List C3) (o4 : O), τ' = [some (.ref b), some (.int (m : Int)), some (.ref p), o3, none] ∧ cs2.length = m ∧ (∀ c ∈ cs2, Ok3 c) ∧ IsBag (T + 1 + 27 * m + 2 * i) o4 ∧ L' = up (up L b o4) p (.lst (cs2.map cD))) ⟨none, cs, o2, rfl, hl, hok, hB2, rfl⟩ (fun _ _ _ _ _ => trivial) ?_ ?_
      · rintro i τ' L' hi ⟨o3, cs2, o4, rfl, hl2, hok2, hB4, rfl⟩
        walk_at "rr"
        refine draw (by rw [up_ne (Ne.symm hpb), up_same]) hB4 (by omega) (by decide) (by decide) fun n o5 hn hB5 => ?_
        rw [up_out hpb]
        walk_at "rr"
        by_cases c : (n : Int) = 0
        · rw [if_pos c]
          walk_at "rr"
          refine draw (by rw [up_ne (Ne.symm hpb), up_same]) hB5 (by omega) (by omega) (by omega) fun k o6 hk hB6 => ?_
          rw [up_out hpb]
          walk_at "rr"
          have hk2 : k < cs2.length := by omega
          have hi2 : i + 1 < cs2.length := by omega
          refine atK_at (x := cD cs2[k]) ?_ ?_
          · rw [atN (by rw [List.length_map]; exact hk2), List.getElem_map]
          · refine set_at (n := i + 1) up_same ?_ ?_
            · rw [show (1 + (i : Int)) = ((i + 1 : Nat) : Int) by omega, List.length_map]
              exact ixn_nat hi2
            · try walk_at "rr"
              refine .mk ⟨_, cs2.set (i + 1) cs2[k], o6, rfl, by rw [List.length_set]; exact hl2, fun c hc => ?_, hB6.le (by omega), by rw [List.map_set]⟩
              rcases List.mem_or_eq_of_mem_set hc with q | q
              · exact hok2 c q
              · rw [q]
                exact hok2 _ (List.getElem_mem hk2)
        · rw [if_neg c]
          walk_at "rr"
          exact .mk ⟨_, cs2, o5, rfl, hl2, hok2, hB5.le (by omega), rfl⟩
      · rintro τ' L' ⟨o3, cs2, o4, rfl, hl2, hok2, hB4, rfl⟩
        have hB4 : IsBag (T + 240) o4 := hB4.le (by omega)
        walk_at "rr"
        intro r nr
        have hpr : p ≠ r := fun z => by subst z; rw [up_same] at nr; cases nr
        have hrb : r ≠ b := fun z => by subst z; rw [up_ne (Ne.symm hpb), up_same] at nr; cases nr
        have nr0 : L r = none := by rw [up_ne (Ne.symm hpr), up_ne hrb] at nr; exact nr
        walk_at "rr"
        refine draw (by rw [up_ne (Ne.symm hrb), up_ne (Ne.symm hpb), up_same]) hB4 (by omega) (by decide) (by decide) fun n o5 hn hB5 => ?_
        walk_at "rr"
        refine ⟨by omega, by omega, ?_⟩
        rw [Int.toNat_natCast]
        have out : ∀ (o o' : O) (c f : O), up (up (up (up L b o) p c) r f) b o' = up (up (up L b o') p c) r f := fun o o' c f => by
          rw [up_comm hrb, up_out hpb]
        rw [out]
        refine for_r (fun i τ' L' => ∃ (o3 : Option D) (fs : List F3) (o4 : O), τ' = [some (.ref b), some (.int (m : Int)), some (.ref p), o3, some (.ref r)] ∧ fs.length ≤ i ∧ (∀ f ∈ fs, InF m f) ∧ IsBag (T + 241 + 3 * i) o4 ∧ L' = up (up (up L b o4) p (.lst (cs2.map cD))) r (.lst (fs.map fD))) ⟨_, [], o5, rfl, Nat.le_refl _, fun _ hf => (nomatch hf), hB5, rfl⟩ (fun _ _ _ _ _ => trivial) ?_ ?_
        · rintro i τ' L' hi ⟨o3, fs, o4, rfl, lf, hf, hB6, rfl⟩
          have rb : ∀ o c f, up (up (up L b o) p c) r f b = some o := fun o c f => by rw [up_ne (Ne.symm hrb), up_ne (Ne.symm hpb), up_same]
          walk_at "rr"
          by_cases c : (0 : Int) < m
          · rw [if_pos c]
            walk_at "rr"
            refine ⟨kind_up, ?_⟩
            refine draw (rb _ _ _) hB6 (by omega) (by omega) (by omega) fun n1 o6 hn1 hB7 => ?_
            rw [out]
            walk_at "rr"
            refine draw (rb _ _ _) hB7 (by omega) (by omega) (by omega) fun n2 o7 hn2 hB8 => ?_
            rw [out]
            walk_at "rr"
            refine draw (rb _ _ _) hB8 (by omega) (by omega) (by omega) fun n3 o8 hn3 hB9 => ?_
            rw [out]
            walk_at "rr"
            refine app_up (by rw [List.length_map]; exact Nat.lt_of_lt_of_le (show fs.length < 100 by omega) (szl (by decide))) ?_
            walk_at "rr"
            refine .mk ⟨_, fs ++ [((n1 : Int), (n2 : Int), (n3 : Int))], o8, rfl, by simp; omega, fun f hf2 => ?_, hB9.le (by omega), by rw [List.map_append]; rfl⟩
            rcases List.mem_append.mp hf2 with q | q
            · exact hf f q
            · rw [List.mem_singleton.mp q]
              exact ⟨⟨Int.natCast_nonneg _, hn1⟩, ⟨Int.natCast_nonneg _, hn2⟩, ⟨Int.natCast_nonneg _, hn3⟩⟩
          · rw [if_neg c]
            walk_at "rr"
            exact .mk ⟨_, fs, o4, rfl, by omega, hf, hB6.le (by omega), rfl⟩
        · rintro τ' L' ⟨o3, fs, o4, rfl, lf, hf, hB6, rfl⟩
          walk_at "rr"
          rw [frzK_lst (by rw [up_ne hpr, up_same])]
          rw [del_out hpr, del_up]
          walk_at "rr"
          rw [del_no (a := p) (by rw [up_ne hpb]; exact np0), del_no (a := r) (by rw [up_ne hrb]; exact nr0)]
          exact .mk (h cs2 fs o4 (by omega) (by omega) hok2 (by rw [hl2]; exact hf) (hB6.le (by omega)))
  · exact h.elim
end Hd

set_option exponentiation.threshold 20000
open PySem PySem.Spec PyProof.Rows L2 Z
namespace Hd
local macro_rules | `(tactic| walk_at "st") => `(tactic| simp (implicitDefEqProofs := false) only [↓seqD_up, ↓seqL_up, ↓len_ilst, ↓len_up, ↓truD_ilst, up_up, List.length_map, ↓wFor_m, ↓frzK_up, ↓frzK_upi, ↓wFz_e, ↓wFg_e, ↓wLstF_e, ↓addF_int, ↓addF_l, ↓addF_tup, ↓addF_str, ↓mulF_int, ↓mulF_l, ↓wSlF_e, ↓slF_tup, ↓slF_str, ↓slF_l, ↓slF_scr, ↓slF_ref, ↓listF_eq, ↓listdF_eq, ↓sortedF_eq, ↓allF_eq, ↓sumF_eq, ↓extF_eq, ↓vEnumF_e, ↓enF_l, ↓fldF_obj, ↓fldF_ref, ↓wFldF_e, ↓wLcF_e, ↓pName_e, ↓pNil_e, ↓pCons_e, ↓pTup_e, ↓gK_some, ↓obind_e, ↓seqL_ilst, ↓addM_eq, ↓sq2_some, ↓wVar_0, ↓wVar_s, ↓hNil_e, ↓hCons_e, ↓wDget_e, ↓wDget2_e, ↓wDput_m, ↓wSortIt_e, ↓wMake_e, ↓wIfS_m, ↓wSeq_m, ↓wAsg_m, ↓hName_e, ↓wC_e, ↓wNil_e, ↓wCons_e, ↓wTup_e, ↓wLst_e, ↓wOp_e, ↓wUn_e, ↓wIf_e, ↓wAndV_e, ↓wOrV_e, ↓wNotV_e, ↓wB_e, ↓wAnd_e, ↓wOr_e, ↓zNot_e, ↓zTru_e, ↓hCons_e, ↓hTup_e, ↓hSub_e, ↓wNext_m, ↓wDrop_m, ↓wRet_m, ↓wRetN_m, ↓wPar_m, ↓wCB_e, ↓wCall_e, ↓wIxk_e, ↓wSl_e, ↓wNoPart_e, ↓wPart_e, ↓wBM_e, ↓wBM0_e, ↓wChain_e, ↓wNever_e, ↓vSeq_e, ↓vEnum_e, ↓vRng1_e, ↓vRng2_e, vZip, ↓blK_bl, ↓tupK_tup, ↓pairK_2, ↓inK_int, ↓truD_bl, ↓truD_int, ↓truD_non, ↓truD_tup, ↓isn_non, ↓isn_int, ↓isn_bl, ↓isn_str, ↓isn_tup, ↓isn_ref, ↓Z.add_int, ↓add_tup, ↓add_ref, ↓intD_eq, ↓intD0_eq, ↓Z.mul_int, ↓Z.eq_int, ↓Z.ne_int, ↓Z.eq_bl, ↓ne_bl, ↓Z.eq_str, ↓Z.ne_str, ↓eq_non, ↓eq_tup, ↓eq_ref, ↓Z.neg_int, ↓seq_tup, ↓seq_ilst, ↓Z.ix_tup, ↓ix_int, ↓sqK_some, ↓ixK_0, ↓ixK_s, ↓tyK_some, ↓ty_non, ↓ty_bl, ↓ty_int, ↓ty_str, ↓ty_tup, ↓ty_ilst, ↓isi_eq, ↓isi2_eq, isiW, ↓len_tup, ↓intc_int, ↓abs_int, ↓gcd_int, ↓list_seq, ↓tuple_seq, ↓all_ref, ↓sum_ref, ↓Z.sl_tup, ↓sl_ilst, ↓sl_ref, ↓walk_tup, ↓walk_ilst, ↓walk_ref, ↓en_ref, start', List.map_cons, List.map_nil, List.cons_append, List.nil_append, List.append_nil, List.length_cons, List.length_nil, List.replicate, List.set_cons_zero, List.set_cons_succ, List.set_nil, List.getElem?_cons_zero, List.getElem?_cons_succ, wipeD, Nat.zero_add, Nat.reduceAdd, Nat.reduceSub, Nat.sub_self, Nat.sub_zero, true_and, and_true, if_true, if_false, Bool.not_true, Bool.not_false, ite_true, ite_false, Bool.false_eq_true, decide_true, decide_false, decide_eq_true_eq, Int.cast_ofNat_Int, reduceIte, Bool.not_eq_true', decide_eq_false_iff_not, Bool.and_true, Bool.true_and, Bool.and_false, Bool.false_and, Bool.or_true, Bool.true_or, Bool.or_false, Bool.false_or, beq_self_eq_true, bne_self_eq_false, not_true_eq_false, not_false_eq_true, String.reduceBEq, String.reduceBNe, Int.reduceToNat, Bool.true_eq_false, reduceCtorEq, Int.reduceEq, Int.reduceLT, Int.reduceLE, gt_iff_lt, ge_iff_le, ↓wBreak_m, ↓wCont_m, ↓wPar3_m, trioK_3, ↓wFldS_m, ↓wFld_e, ↓wChain_e, ↓wLam_e, ↓wIsE_e, ↓wRaise0_e, ↓wCallX_e, ↓wCallKX_e, ↓wYes_e, ↓wCallK_e, isDct_eq, dkK_eq, ↓wDnewT_e, ↓wXf_e, ↓wIsE2_e, ↓wMakeK_e, ↓ownEqD_e, ↓wIsO_e, ↓wRaiseN_e, ↓vEnumG_e])
local macro_rules | `(tactic| walk_at "go") => `(tactic| ((first | with_reducible refine hld_i ?_ | skip); try walk_at "st"))
local macro_rules | `(tactic| walk_at "sx") => `(tactic| ((try simp only [sp_is_integer, sp_lowest, sp_exact, sp_law_draw, sp_law_of, sp_law_same, sp_law_low, sp_law_hand, sp_law_number, sp_is_number, sp_is_corner, sp_is_index, sp_is_face, sp_Net_init, sp_Net_eq, sp_law_bag, sp_law_is_num, sp_law_handed, sp_law_bad, sp_law_bent_corner, sp_law_bent_face, sp_law_any, sp_law_bend, sp_law_drawn, sp_law_pair]); try walk_at "st"))
local macro_rules | `(tactic| walk_at "s0") => `(tactic| simp (implicitDefEqProofs := false) only [start', List.map_cons, List.map_nil, List.length_cons, List.length_nil, Nat.zero_add, Nat.reduceAdd, Nat.reduceSub, List.replicate, List.cons_append, List.nil_append])
local macro_rules | `(tactic| walk_at "rr") => `(tactic| repeat (first | with_reducible refine hld_i ?_ | walk_at "st"))
local macro_rules | `(tactic| walk_at "rx") => `(tactic| repeat (first | with_reducible refine hld_i ?_ | walk_at "st" | simp only [sp_is_integer, sp_lowest, sp_exact, sp_law_draw, sp_law_of, sp_law_same, sp_law_low, sp_law_hand, sp_law_number, sp_is_number, sp_is_corner, sp_is_index, sp_is_face, sp_Net_init, sp_Net_eq, sp_law_bag, sp_law_is_num, sp_law_handed, sp_law_bad, sp_law_bent_corner, sp_law_bent_face, sp_law_any, sp_law_bend, sp_law_drawn, sp_law_pair]))
local macro_rules | `(tactic| walk_at "dw") => `(tactic| (refine draw (by first | exact up_same | assumption) (by assumption) (by omega) (by omega) (by omega) ?_))

variable {K : PySem.W.Frag}

theorem wd_small {q : Rat} (h : Ok1 q) : q.num.natAbs < 2 ^ 60 ∧ q.den < 2 ^ 60 := by
  obtain ⟨x, rfl, hx⟩ := h
  refine ⟨?_, Nat.lt_of_le_of_lt (show (mkRat x 27720).den ≤ 27720 by rw [Rat.den_mkRat, if_neg (by decide)]; exact Nat.div_le_self _ _) (by decide)⟩
  rw [mk_num (by decide)]
  refine Nat.lt_of_le_of_lt ?_ hx
  rw [Int.natAbs_ediv_of_dvd]
  · exact Nat.div_le_self _ _
  · exact Int.ofNat_dvd_left.mpr (Nat.gcd_dvd_left _ _)
theorem num_isnum (q : Rat) : isNumD (numD q) = true := by
  have h1 : decide ((0 : Int) < (q.den : Int)) = true := decide_eq_true (by have := q.den_pos; omega)
  have h2 : Nat.gcd q.num.natAbs ((q.den : Int)).natAbs = 1 := by rw [Int.natAbs_natCast]; exact q.reduced
  show (decide ((0 : Int) < (q.den : Int)) && decide (Nat.gcd q.num.natAbs ((q.den : Int)).natAbs = 1)) = true
  rw [h1, Bool.true_and]
  exact decide_eq_true h2
theorem hnd_num {q : Rat} {d : D} (h : Hnd q d) : isNumD d = true ∧ exN d = numD q := by
  rcases h with rfl | ⟨h1, rfl⟩
  · exact ⟨num_isnum q, rfl⟩
  · refine ⟨rfl, ?_⟩
    show D.tup [.int q.num, .int 1] = numD q
    unfold numD
    rw [h1]
    rfl
theorem ok_num {q : Rat} {n : Nat} (h : Ok1 q) : OkV (n + 1) (numD q) := by
  obtain ⟨h1, h2⟩ := wd_small h
  refine ⟨by show 2 ≤ 20; omega, fun d hd => ?_⟩
  simp only [List.mem_cons, List.not_mem_nil, or_false] at hd
  rcases hd with rfl | rfl
  · cases n <;> (unfold OkV; exact h1)
  · cases n <;> (unfold OkV; rw [Int.natAbs_natCast]; exact h2)
theorem hnd_ok {q : Rat} {d : D} {n : Nat} (ok : Ok1 q) (h : Hnd q d) : OkV (n + 1) d := by
  rcases h with rfl | ⟨_, rfl⟩
  · exact ok_num ok
  · unfold OkV
    exact (wd_small ok).1
theorem hc_all {c : C3} {d : D} (ok : Ok3 c) (h : HC c d) : OkV 3 d ∧ isCornerD d = true ∧ exC d = cD c := by
  obtain ⟨d1, d2, d3, rfl, h1, h2, h3⟩ := h
  obtain ⟨k1, k2, k3⟩ := ok
  refine ⟨⟨by show 3 ≤ 20; omega, fun d hd => ?_⟩, ?_, ?_⟩
  · simp only [List.mem_cons, List.not_mem_nil, or_false] at hd
    rcases hd with rfl | rfl | rfl
    · exact hnd_ok k1 h1
    · exact hnd_ok k2 h2
    · exact hnd_ok k3 h3
  · unfold isCornerD
    simp [(hnd_num h1).1, (hnd_num h2).1, (hnd_num h3).1]
  · unfold exC
    simp only [List.map_cons, List.map_nil]
    rw [(hnd_num h1).2, (hnd_num h2).2, (hnd_num h3).2]
theorem hc_self (c : C3) : HC c (cD c) := ⟨_, _, _, rfl, .inl rfl, .inl rfl, .inl rfl⟩
theorem hc_selfs : ∀ cs : List C3, All2 HC cs (cs.map cD)
  | [] => .nil
  | c :: cs => .cons (hc_self c) (hc_selfs cs)
theorem f_all {f : F3} {m : Nat} (h : InF m f) (hm : m ≤ 20) : OkV 3 (fD f) ∧ isFaceD m (fD f) = true := by
  obtain ⟨f1, f2, f3⟩ := f
  obtain ⟨⟨a1, a2⟩, ⟨b1, b2⟩, ⟨c1, c2⟩⟩ := h
  dsimp only at a1 a2 b1 b2 c1 c2
  refine ⟨⟨by show 3 ≤ 20; omega, fun d hd => ?_⟩, ?_⟩
  · simp only [List.mem_cons, List.not_mem_nil, or_false] at hd
    rcases hd with rfl | rfl | rfl <;> (unfold OkV; omega)
  · unfold isFaceD
    simp [isIdxD, a1, a2, b1, b2, c1, c2]
/-- a typed net -/
structure GoodN (cs : List C3) (fs : List F3) : Prop where
  oc : ∀ c ∈ cs, Ok3 c
  of : ∀ f ∈ fs, InF cs.length f
  lc : cs.length ≤ 8
  lf : fs.length ≤ 7
theorem hc_map {cs : List C3} {cds : List D} (h : All2 HC cs cds) (ok : ∀ c ∈ cs, Ok3 c) : cds.map exC = cs.map cD ∧ ∀ d ∈ cds, OkV 3 d ∧ isCornerD d = true := by
  induction h with
  | nil => exact ⟨rfl, fun _ hd => nomatch hd⟩
  | cons h t ih =>
    have k := hc_all (ok _ (by simp)) h
    have i := ih fun c hc => ok c (by simp [hc])
    refine ⟨by rw [List.map_cons, List.map_cons, k.2.2, i.1], fun d hd => ?_⟩
    rcases List.mem_cons.mp hd with rfl | hd
    · exact ⟨k.1, k.2.1⟩
    · exact i.2 d hd
theorem seqD_fresh {d : D} {L : Lp} {ds : List D} {x : Addr} {o : O} (h : seqD d L = some ds) (hx : L x = none) : seqD d (up L x o) = some ds := by
  unfold seqD at h
  split at h
  · exact h
  · exact h
  · rename_i p
    split at h
    · cases h
      rename_i q
      have ne : p ≠ x := fun z => by subst z; rw [hx] at q; cases q
      exact seq_ref (by rw [up_ne ne]; exact q)
    · cases h
  · cases h
theorem net_bad {cs : List C3} {fs : List F3} {cds : List D} (g : GoodN cs fs) (hA : All2 HC cs cds) : badD cds (fs.map fD) = none := by
  have hl := hA.length
  unfold badD
  rw [badAt_none.mpr fun d hd => ((hc_map hA g.oc).2 d hd).2]
  simp only []
  rw [badAt_none.mpr fun d hd => ?_]
  obtain ⟨f, hf, rfl⟩ := List.mem_map.mp hd
  rw [← hl]
  exact (f_all (g.of f hf) (by have := g.lc; omega)).2
/-- a net made, typed -/
theorem net {a b : D} {L : Lp} {cds : List D} {cs : List C3} {fs : List F3} {Q : VK'} (ha : seqD a L = some cds) (hb : seqD b L = some (fs.map fD)) (hA : All2 HC cs cds) (g : GoodN cs fs) (k : Q (netD K cs fs) L) :
    ∀ x, L x = none → sp_Net_init K [.ref x, a, b] (up L x (.ins (He.ga K "Net") [])) (fun d L2 => d = .non ∧ frzK (.ref x) L2 Q) X0 := by
  intro x nx
  have hl := hA.length
  have l1 := g.lc
  have l2 := g.lf
  refine ⟨cds, fs.map fD, ⟨seqD_fresh ha nx, seqD_fresh hb nx, fun d hd => ((hc_map hA g.oc).2 d hd).1, fun d hd => ?_, by omega, by rw [List.length_map]; omega⟩, up_same, fun w i e => ?_, fun _ => ⟨rfl, ?_⟩⟩
  · obtain ⟨f, hf, rfl⟩ := List.mem_map.mp hd
    exact (f_all (g.of f hf) (by omega)).1
  · rw [net_bad g hA] at e
    cases e
  · rw [up_up, frzK_upi, del_no nx, (hc_map hA g.oc).1]
    exact k
/-! ### the heap of once -/
structure St (K : PySem.W.Frag) (L : Lp) (b : Addr) (T : Nat) (L' : Lp) (o : O) : Prop where
  le : Le (up L b o) L'
  bag : IsBag T o
  tab : TabsAre (lamT K) L'
structure Fr (L : Lp) (b p : Addr) : Prop where
  n : L p = none
  ne : p ≠ b
theorem bag_tab {T : Nat} {o : O} (h : IsBag T o) : ∀ q, o ≠ .tab q := fun q e => by
  obtain ⟨ns, i, r, m, t, e2, _⟩ := h
  rw [e2] at e; cases e
section
variable {L L' : Lp} {b p : Addr} {T T2 : Nat} {o o2 u w : O}
theorem St.at (h : St K L b T L' o) : L' b = some o := h.le b o up_same
theorem St.draw (h : St K L b T L' o) (hB : IsBag T2 o2) : St K L b T2 (up L' b o2) o2 := by
  refine ⟨fun x v e => ?_, hB, h.tab.up (fun q e => bag_tab h.bag q (by rw [h.at] at e; exact Option.some.inj e)) (bag_tab hB)⟩
  by_cases hx : x = b
  · subst hx
    rw [up_same] at e ⊢
    exact e
  · rw [up_ne hx] at e ⊢
    exact h.le x v (by rw [up_ne hx]; exact e)
theorem St.fr (h : St K L b T L' o) (np : L' p = none) : Fr L b p := by
  have ne : p ≠ b := fun z => by subst z; rw [h.at] at np; cases np
  refine ⟨?_, ne⟩
  cases e : L p with
  | none => rfl
  | some v =>
    rw [h.le p v (by rw [up_ne ne]; exact e)] at np
    cases np
theorem St.new (h : St K L b T L' o) (np : L' p = none) (hu : ∀ q, u ≠ .tab q) : St K L b T (up L' p u) o := by
  have f := h.fr np
  exact ⟨h.le.new (by rw [up_ne f.ne]; exact f.n), h.bag, h.tab.up (fun q e => by rw [np] at e; cases e) hu⟩
theorem St.put (h : St K L b T L' o) (f : Fr L b p) (hp : L' p = some w) (hw : ∀ q, w ≠ .tab q) (hu : ∀ q, u ≠ .tab q) : St K L b T (up L' p u) o :=
  ⟨h.le.new (by rw [up_ne f.ne]; exact f.n), h.bag, h.tab.up (fun q e => by rw [hp] at e; exact hw q (Option.some.inj e)) hu⟩
theorem St.le' (h : St K L b T L' o) (l : T ≤ T2) : St K L b T2 L' o := ⟨h.le, h.bag.le l, h.tab⟩
theorem St.fin (h : St K L b T L' o) {Q : VK'} {d : D} (l : T ≤ T2) (f : ∀ o', IsBag T2 o' → Q d (up L b o')) : Dn (Q d) L' := ⟨_, h.le, f o (h.bag.le l)⟩
theorem St.dr (h : St K L b T L' o) {m : Int} {Q : VK'} {E : XK'} (hT : T < 1099511627776) (h0 : 0 < m) (h1 : m < 2 ^ 60) (k : ∀ (n : Nat) o2, (n : Int) < m → St K L b (T + 1) (up L' b o2) o2 → Q (.int n) (up L' b o2)) : sp_law_draw [.ref b, .int m] L' Q E :=
  Hd.draw h.at h.bag hT h0 h1 fun n o2 hn hB => k n o2 hn (h.draw hB)
end
end Hd

set_option exponentiation.threshold 20000
open PySem PySem.Spec PyProof.Rows L2 Z
namespace Hd
local macro_rules | `(tactic| walk_at "st") => `(tactic| simp (implicitDefEqProofs := false) only [↓seqD_up, ↓seqL_up, ↓len_ilst, ↓len_up, ↓truD_ilst, up_up, List.length_map, ↓wFor_m, ↓frzK_up, ↓frzK_upi, ↓wFz_e, ↓wFg_e, ↓wLstF_e, ↓addF_int, ↓addF_l, ↓addF_tup, ↓addF_str, ↓mulF_int, ↓mulF_l, ↓wSlF_e, ↓slF_tup, ↓slF_str, ↓slF_l, ↓slF_scr, ↓slF_ref, ↓listF_eq, ↓listdF_eq, ↓sortedF_eq, ↓allF_eq, ↓sumF_eq, ↓extF_eq, ↓vEnumF_e, ↓enF_l, ↓fldF_obj, ↓fldF_ref, ↓wFldF_e, ↓wLcF_e, ↓pName_e, ↓pNil_e, ↓pCons_e, ↓pTup_e, ↓gK_some, ↓obind_e, ↓seqL_ilst, ↓addM_eq, ↓sq2_some, ↓wVar_0, ↓wVar_s, ↓hNil_e, ↓hCons_e, ↓wDget_e, ↓wDget2_e, ↓wDput_m, ↓wSortIt_e, ↓wMake_e, ↓wIfS_m, ↓wSeq_m, ↓wAsg_m, ↓hName_e, ↓wC_e, ↓wNil_e, ↓wCons_e, ↓wTup_e, ↓wLst_e, ↓wOp_e, ↓wUn_e, ↓wIf_e, ↓wAndV_e, ↓wOrV_e, ↓wNotV_e, ↓wB_e, ↓wAnd_e, ↓wOr_e, ↓zNot_e, ↓zTru_e, ↓hCons_e, ↓hTup_e, ↓hSub_e, ↓wNext_m, ↓wDrop_m, ↓wRet_m, ↓wRetN_m, ↓wPar_m, ↓wCB_e, ↓wCall_e, ↓wIxk_e, ↓wSl_e, ↓wNoPart_e, ↓wPart_e, ↓wBM_e, ↓wBM0_e, ↓wChain_e, ↓wNever_e, ↓vSeq_e, ↓vEnum_e, ↓vRng1_e, ↓vRng2_e, vZip, ↓blK_bl, ↓tupK_tup, ↓pairK_2, ↓inK_int, ↓truD_bl, ↓truD_int, ↓truD_non, ↓truD_tup, ↓isn_non, ↓isn_int, ↓isn_bl, ↓isn_str, ↓isn_tup, ↓isn_ref, ↓Z.add_int, ↓add_tup, ↓add_ref, ↓intD_eq, ↓intD0_eq, ↓Z.mul_int, ↓Z.eq_int, ↓Z.ne_int, ↓Z.eq_bl, ↓ne_bl, ↓Z.eq_str, ↓Z.ne_str, ↓eq_non, ↓eq_tup, ↓eq_ref, ↓Z.neg_int, ↓seq_tup, ↓seq_ilst, ↓Z.ix_tup, ↓ix_int, ↓sqK_some, ↓ixK_0, ↓ixK_s, ↓tyK_some, ↓ty_non, ↓ty_bl, ↓ty_int, ↓ty_str, ↓ty_tup, ↓ty_ilst, ↓isi_eq, ↓isi2_eq, isiW, ↓len_tup, ↓intc_int, ↓abs_int, ↓gcd_int, ↓list_seq, ↓tuple_seq, ↓all_ref, ↓sum_ref, ↓Z.sl_tup, ↓sl_ilst, ↓sl_ref, ↓walk_tup, ↓walk_ilst, ↓walk_ref, ↓en_ref, start', List.map_cons, List.map_nil, List.cons_append, List.nil_append, List.append_nil, List.length_cons, List.length_nil, List.replicate, List.set_cons_zero, List.set_cons_succ, List.set_nil, List.getElem?_cons_zero, List.getElem?_cons_succ, wipeD, Nat.zero_add, Nat.reduceAdd, Nat.reduceSub, Nat.sub_self, Nat.sub_zero, true_and, and_true, if_true, if_false, Bool.not_true, Bool.not_false, ite_true, ite_false, Bool.false_eq_true, decide_true, decide_false, decide_eq_true_eq, Int.cast_ofNat_Int, reduceIte, Bool.not_eq_true', decide_eq_false_iff_not, Bool.and_true, Bool.true_and, Bool.and_false, Bool.false_and, Bool.or_true, Bool.true_or, Bool.or_false, Bool.false_or, beq_self_eq_true, bne_self_eq_false, not_true_eq_false, not_false_eq_true, String.reduceBEq, String.reduceBNe, Int.reduceToNat, Bool.true_eq_false, reduceCtorEq, Int.reduceEq, Int.reduceLT, Int.reduceLE, gt_iff_lt, ge_iff_le, ↓wBreak_m, ↓wCont_m, ↓wPar3_m, trioK_3, ↓wFldS_m, ↓wFld_e, ↓wChain_e, ↓wLam_e, ↓wIsE_e, ↓wRaise0_e, ↓wCallX_e, ↓wCallKX_e, ↓wYes_e, ↓wCallK_e, isDct_eq, dkK_eq, ↓wDnewT_e, ↓wXf_e, ↓wIsE2_e, ↓wMakeK_e, ↓ownEqD_e, ↓wIsO_e, ↓wRaiseN_e, ↓vEnumG_e])
local macro_rules | `(tactic| walk_at "go") => `(tactic| ((first | with_reducible refine hld_i ?_ | skip); try walk_at "st"))
local macro_rules | `(tactic| walk_at "sx") => `(tactic| ((try simp only [sp_is_integer, sp_lowest, sp_exact, sp_law_draw, sp_law_of, sp_law_same, sp_law_low, sp_law_hand, sp_law_number, sp_is_number, sp_is_corner, sp_is_index, sp_is_face, sp_Net_init, sp_Net_eq, sp_law_bag, sp_law_is_num, sp_law_handed, sp_law_bad, sp_law_bent_corner, sp_law_bent_face, sp_law_any, sp_law_bend, sp_law_drawn, sp_law_pair]); try walk_at "st"))
local macro_rules | `(tactic| walk_at "s0") => `(tactic| simp (implicitDefEqProofs := false) only [start', List.map_cons, List.map_nil, List.length_cons, List.length_nil, Nat.zero_add, Nat.reduceAdd, Nat.reduceSub, List.replicate, List.cons_append, List.nil_append])
local macro_rules | `(tactic| walk_at "rr") => `(tactic| repeat (first | with_reducible refine hld_i ?_ | walk_at "st"))
local macro_rules | `(tactic| walk_at "rx") => `(tactic| repeat (first | with_reducible refine hld_i ?_ | walk_at "st" | simp only [sp_is_integer, sp_lowest, sp_exact, sp_law_draw, sp_law_of, sp_law_same, sp_law_low, sp_law_hand, sp_law_number, sp_is_number, sp_is_corner, sp_is_index, sp_is_face, sp_Net_init, sp_Net_eq, sp_law_bag, sp_law_is_num, sp_law_handed, sp_law_bad, sp_law_bent_corner, sp_law_bent_face, sp_law_any, sp_law_bend, sp_law_drawn, sp_law_pair]))
local macro_rules | `(tactic| walk_at "dw") => `(tactic| (refine draw (by first | exact up_same | assumption) (by assumption) (by omega) (by omega) (by omega) ?_))

variable {K : PySem.W.Frag}

theorem same_ok : ∀ {n : Nat} {L : Lp} {d : D}, OkV n d → Same (n + 1) L d d
  | n, L, .non, _ => by unfold Same; trivial
  | n, L, .bl _, _ => by unfold Same; rfl
  | n, L, .str _, _ => by unfold Same; rfl
  | n, L, .int _, _ => by unfold Same; rfl
  | n + 1, L, .tup ds, h => by
    unfold OkV at h
    unfold Same
    refine ⟨szl (by omega), ?_⟩
    have := all_same (R := Same (n + 1) L) (fun x : { d : D // OkV n d } => x.1) (fun x => same_ok x.2) (ds.attach.map fun d => ⟨d.1, h.2 d.1 d.2⟩)
    simpa using this
  | n + 1, L, .ilst ds, h => by
    unfold OkV at h
    unfold Same
    refine ⟨szl (by omega), ?_⟩
    have := all_same (R := Same (n + 1) L) (fun x : { d : D // OkV n d } => x.1) (fun x => same_ok x.2) (ds.attach.map fun d => ⟨d.1, h.2 d.1 d.2⟩)
    simpa using this
  | 0, _, .tup _, h => by unfold OkV at h; exact h.elim
  | 0, _, .ilst _, h => by unfold OkV at h; exact h.elim
  | 0, _, .ref _, h => by unfold OkV at h; exact h.elim
  | _ + 1, _, .ref _, h => by unfold OkV at h; exact h.elim
  | 0, _, .ty _, h => by unfold OkV at h; exact h.elim
  | _ + 1, _, .ty _, h => by unfold OkV at h; exact h.elim
  | 0, _, .obj _ _, h => by unfold OkV at h; exact h.elim
  | _ + 1, _, .obj _ _, h => by unfold OkV at h; exact h.elim
  | 0, _, .scr _, h => by unfold OkV at h; exact h.elim
  | _ + 1, _, .scr _, h => by unfold OkV at h; exact h.elim
theorem same_tup {n : Nat} {L : Lp} {ds : List D} (h : ∀ d ∈ ds, OkV n d) (l : ds.length ≤ 100) : Same (n + 2) L (.tup ds) (.tup ds) := by
  unfold Same
  refine ⟨szl (by omega), ?_⟩
  have := all_same (R := Same (n + 1) L) (fun x : { d : D // OkV n d } => x.1) (fun x => same_ok x.2) (ds.attach.map fun d => ⟨d.1, h d.1 d.2⟩)
  simpa using this
theorem ok_exN {n : Nat} {d : D} (h : OkV (n + 1) d) : OkV (n + 1) (exN d) := by
  cases d <;> first | exact h | skip
  rename_i i
  unfold OkV at h
  refine ⟨by show 2 ≤ 20; omega, fun d hd => ?_⟩
  simp only [List.mem_cons, List.not_mem_nil, or_false] at hd
  rcases hd with rfl | rfl
  · cases n <;> (unfold OkV; exact h)
  · cases n <;> (unfold OkV; decide)
theorem ok_exC {d : D} (h : OkV 3 d) : OkV 3 (exC d) := by
  cases d <;> first | exact h | skip
  rename_i ds
  unfold OkV at h
  unfold exC
  refine ⟨by rw [List.length_map]; exact h.1, fun d hd => ?_⟩
  obtain ⟨e, he, rfl⟩ := List.mem_map.mp hd
  exact ok_exN (h.2 e he)
theorem bad_none {cds fds : List D} (h : badD cds fds = none) : ∀ d ∈ cds, isCornerD d = true := by
  unfold badD at h
  split at h
  · cases h
  · rename_i e
    exact badAt_none.mp e
abbrev S18 (K : PySem.W.Frag) (b : Addr) (d1 d2 d6 d7 d13 d14 d15 d16 : D) (o3 o4 o5 o8 o9 o10 o11 o12 o17 o18 o19 : Option D) : S' := [some (.ref b), some d1, some d2, o3, o4, o5, some d6, some d7, o8, o9, o10, o11, o12, some d13, some d14, some d15, some d16, o17, o18, o19]
theorem once_8 (hc : Cls K (He.ga K "Net")) (n1 : NoAttr K (He.ga K "Net") "corners") (n2 : NoAttr K (He.ga K "Net") "faces") {L L' : Lp} {b s1 s2 x : Addr} {T T2 : Nat} {o : O} {Q : VK'} {cds fds : List D} {d1 d2 d6 d7 d16 : D} {o3 o4 o5 o8 o9 o10 o11 o12 o17 o18 o19 : Option D}
    (S : St K L b T L' o) (hT : T ≤ T2) (f : ∀ o', IsBag T2 o' → Q (.bl true) (up L b o')) (h1 : L' s1 = some (.lst cds)) (h2 : L' s2 = some (.lst fds)) (ok1 : ∀ d ∈ cds, OkV 3 d) (ok2 : ∀ d ∈ fds, OkV 3 d) (lc : cds.length ≤ 20) (lf : fds.length ≤ 20) (hb : badD cds fds = none) (hx : L' x = some (.ins (He.ga K "Net") [("corners", .tup (cds.map exC)), ("faces", .tup fds)])) :
    t_law_once_8 K { nx := fun _ L1 => Dn (Q .non) L1, rt := fun d L1 => Dn (Q d) L1 } (S18 K b d1 d2 d6 d7 (.ref s1) (.ref s2) (.tup [.str "", .ref x]) d16 o3 o4 o5 o8 o9 o10 o11 o12 o17 o18 o19) L' := by
  unfold t_law_once_8
  walk_at "rr"
  refine walk_seq (seq_ref h1) fun st hst => ?_
  refine lcF_i cds exC (szl (by omega)) hst (fun z Q' hz hq => ?_) ?_
  · obtain ⟨a1, a2, a3, rfl, k1, k2, k3⟩ := corner_3 (bad_none hb z hz)
    walk_at "rr"
    refine lcF_i [a1, a2, a3] exN (by show 3 ≤ sizeLine; decide) (fun _ _ => trivial) (fun w Q2 hm2 hq2 => ?_) ?_
    · walk_at "rr"
      refine ⟨?_, hq2⟩
      simp only [List.mem_cons, List.not_mem_nil, or_false] at hm2
      rcases hm2 with rfl | rfl | rfl
      · exact k1
      · exact k2
      · exact k3
    · walk_at "rr"
      exact hq
  · walk_at "rr"
    refine ⟨_, _, _, hx, hc, n1, rfl, _, _, _, hx, hc, n2, rfl, ?_⟩
    rw [seq_ref h2]
    walk_at "rr"
    refine same_e ?_ (S.fin hT f)
    refine ⟨szl (by show 2 ≤ 1000; omega), .cons (same_tup (fun d hd => ?_) (by rw [List.length_map]; omega)) (.cons (same_tup ok2 (by omega)) .nil)⟩
    obtain ⟨e, he, rfl⟩ := List.mem_map.mp hd
    exact ok_exC (ok1 e he)
theorem bad_word {cds fds : List D} {x : Str × Nat} (h : badD cds fds = some x) : x.1 = "corner" ∨ x.1 = "face" := by
  unfold badD at h
  split at h
  · cases h; exact .inl rfl
  · split at h
    · cases h; exact .inr rfl
    · cases h
theorem ne_badT {cds fds : List D} {L : Lp} {Q : VK'} (q : Q (.bl (badD cds fds).isSome) L) : eqD true (badT (badD cds fds)) (.tup []) L Q := by
  cases e : badD cds fds with
  | none =>
    rw [e] at q
    exact ⟨.tuple [], .tuple [], .tup .nil, .tup .nil, rfl, rfl, q⟩
  | some x =>
    have hw := bad_word e
    rw [e] at q
    obtain ⟨w, i⟩ := x
    have hw : w = "corner" ∨ w = "face" := hw
    refine ⟨.tuple [.str "BadNet", .str w, .int (i : Nat)], .tuple [], .tup (.cons (.str _) (.cons (.str _) (.cons (.int _) .nil))), .tup .nil, ?_, rfl, q⟩
    rcases hw with rfl | rfl
    · kernel_rfl
    · kernel_rfl
theorem same_badT {o : Option (Str × Nat)} {L : Lp} : Same 6 L (badT o) (badT o) := by
  cases o with
  | none => exact ⟨szl (by show 0 ≤ 1000; omega), .nil⟩
  | some x => exact ⟨szl (by show 3 ≤ 1000; omega), .cons rfl (.cons rfl (.cons rfl .nil))⟩
/-- behind the call that may be refused -/
def tb_6 (K : PySem.W.Frag) : TS' := (wSeq (wAsg (wCall sp_law_bad [] X0 (wCons (wVar 13) (wCons (wVar 14) wNil))) (hName 16))
  (wSeq (wIfS (wB (wOp (eqD true) (wVar 16) (wTup wNil))) (wRet (wAndV (wCall sp_law_same [] X0 (wCons (wVar 15) (wCons (wVar 16) wNil))) (wAndV (wCall sp_law_same [] X0 (wCons (wFldF K (wFz (wMake (He.ga K "Net") (sp_Net_init K) X0 (wCons (wVar 1) (wCons (wVar 2) wNil)))) "corners") (wCons (wCB tupleD (wCons (wVar 1) wNil)) wNil))) (wOp (ownEqD (He.ga K "Net") (sp_Net_eq K)) (wVar 6) (wVar 7))))) wNext)
  (t_law_once_7 K)))
theorem once_6b (hc : Cls K (He.ga K "Net")) (n1 : NoAttr K (He.ga K "Net") "corners") (n2 : NoAttr K (He.ga K "Net") "faces")
    {L L' : Lp} {b s1 s2 : Addr} {T T2 : Nat} {o : O} {Q : VK'} {cds fds : List D} {cs : List C3} {fs : List F3} {d15 : D} {o3 o4 o5 o8 o9 o10 o11 o12 o16 o17 o18 o19 : Option D}
    (S : St K L b T L' o) (hT : T ≤ T2) (f : ∀ o', IsBag T2 o' → Q (.bl true) (up L b o')) (g : GoodN cs fs) (h1 : L' s1 = some (.lst cds)) (h2 : L' s2 = some (.lst fds)) (ok1 : ∀ d ∈ cds, OkV 3 d) (ok2 : ∀ d ∈ fds, OkV 3 d) (lc : cds.length ≤ 20) (lf : fds.length ≤ 20)
    (e1 : ∀ x, badD cds fds = some x → d15 = badT (some x)) (e2 : badD cds fds = none → ∃ x, d15 = .tup [.str "", .ref x] ∧ L' x = some (.ins (He.ga K "Net") [("corners", .tup (cds.map exC)), ("faces", .tup fds)])) :
    tb_6 K { nx := fun _ L1 => Dn (Q .non) L1, rt := fun d L1 => Dn (Q d) L1 } [some (.ref b), some (.ilst (cs.map cD)), some (.ilst (fs.map fD)), o3, o4, o5, some (netD K cs fs), some (netD K cs fs), o8, o9, o10, o11, o12, some (.ref s1), some (.ref s2), some d15, o16, o17, o18, o19] L' := by
  unfold tb_6
  walk_at "rr"
  refine ⟨cds, fds, ⟨seq_ref h1, seq_ref h2, ok1, ok2, lc, lf⟩, ?_⟩
  walk_at "rr"
  refine ne_badT ?_
  cases e : badD cds fds with
  | none =>
    obtain ⟨x, e3, hx⟩ := e2 e
    rw [e3]
    walk_at "rr"
    unfold t_law_once_7
    walk_at "rr"
    rw [if_neg (by simp)]
    walk_at "rr"
    exact once_8 hc n1 n2 S hT f h1 h2 ok1 ok2 lc lf e hx
  | some x =>
    rw [e1 x e]
    simp only [Option.isSome_some]
    walk_at "rr"
    refine same_e same_badT ?_
    walk_at "rr"
    refine net (fs := fs) rfl rfl (hc_selfs cs) g ?_
    refine ⟨hc, n1, _, rfl, same_e ⟨sz (n := 100) (by have := g.lc; omega) (by decide), all_same cD same_c cs⟩ ?_⟩
    walk_at "rr"
    refine ⟨_, _, rfl, rfl, cs, fs, cs, fs, rfl, rfl, ⟨_, rfl⟩, ?_⟩
    have et : decide (cs = cs ∧ fs = fs) = true := decide_eq_true ⟨rfl, rfl⟩
    rw [et]
    exact S.fin hT f
/-- the call that may be refused -/
theorem once_6 (hc : Cls K (He.ga K "Net")) (n1 : NoAttr K (He.ga K "Net") "corners") (n2 : NoAttr K (He.ga K "Net") "faces") (xm : PySem.W.exmOne K (.ref (He.ga K "BadNet")) (.ref (He.ga K "Refused")) = some true) (ec : ExcC K (He.ga K "BadNet")) (ks : PySem.W.kitOne K (.ref (He.ga K "BadNet")) (.ref (He.ga K "BadNet")) = some true)
    (kv : PySem.W.kitOne K (.ref (He.ga K "BadNet")) (.type "ValueError") = some true) (xf : XfC K (He.ga K "BadNet")) (nw : PySem.W.findIn K (.ref (He.ga K "BadNet")) "word" = some none) (ni : PySem.W.findIn K (.ref (He.ga K "BadNet")) "index" = some none)
    {L L' : Lp} {b s1 s2 : Addr} {T T2 : Nat} {o : O} {Q : VK'} {cds fds : List D} {cs : List C3} {fs : List F3} {o3 o4 o5 o8 o9 o10 o11 o12 o15 o16 o17 o18 o19 : Option D}
    (S : St K L b T L' o) (hT : T ≤ T2) (f : ∀ o', IsBag T2 o' → Q (.bl true) (up L b o')) (g : GoodN cs fs) (h1 : L' s1 = some (.lst cds)) (h2 : L' s2 = some (.lst fds)) (ok1 : ∀ d ∈ cds, OkV 3 d) (ok2 : ∀ d ∈ fds, OkV 3 d) (lc : cds.length ≤ 20) (lf : fds.length ≤ 20) :
    t_law_once_6 K { nx := fun _ L1 => Dn (Q .non) L1, rt := fun d L1 => Dn (Q d) L1 } [some (.ref b), some (.ilst (cs.map cD)), some (.ilst (fs.map fD)), o3, o4, o5, some (netD K cs fs), some (netD K cs fs), o8, o9, o10, o11, o12, some (.ref s1), some (.ref s2), o15, o16, o17, o18, o19] L' := by
  unfold t_law_once_6
  walk_at "rr"
  refine ⟨S.tab, ?_⟩
  unfold TTd
  walk_at "rr"
  intro x nx
  have Sx := S.new (u := .ins (He.ga K "Net") []) nx (fun _ z => nomatch z)
  have ne1 : s1 ≠ x := fun z => by subst z; rw [h1] at nx; cases nx
  have ne2 : s2 ≠ x := fun z => by subst z; rw [h2] at nx; cases nx
  refine ⟨cds, fds, ⟨seq_ref (by rw [up_ne ne1]; exact h1), seq_ref (by rw [up_ne ne2]; exact h2), ok1, ok2, lc, lf⟩, up_same, fun w i e => ⟨xm, fun a od na nd eo => ?_⟩, fun e => ?_⟩
  · cases od with
    | none => exact absurd (eo.mp rfl) (fun z => nomatch z)
    | some dd =>
      have Sd := Sx.new (u := .xd [("index", .int (i : Nat)), ("word", .str w)]) (nd dd rfl) (fun _ z => nomatch z)
      have nd1 := nd dd rfl
      have m1 : s1 ≠ dd := fun z => by subst z; rw [up_ne ne1, h1] at nd1; cases nd1
      have m2 : s2 ≠ dd := fun z => by subst z; rw [up_ne ne2, h2] at nd1; cases nd1
      unfold upx ts_law_try
      walk_at "rr"
      refine ⟨ec, .inr ⟨dd, _, rfl, up_same⟩, true, ks, ?_⟩
      walk_at "rr"
      refine ⟨ec, .inr ⟨dd, _, rfl, up_same⟩, true, kv, ?_⟩
      walk_at "rr"
      refine ⟨xf, nw, dd, _, _, rfl, up_same, rfl, xf, ni, dd, _, _, rfl, up_same, rfl, ?_⟩
      refine Dn.mk ?_
      refine hld_i ?_
      refine once_6b hc n1 n2 Sd hT f g (by rw [up_ne m1, up_ne ne1]; exact h1) (by rw [up_ne m2, up_ne ne2]; exact h2) ok1 ok2 lc lf (fun x hx => ?_) (fun z => ?_)
      · rw [e] at hx; cases hx; rfl
      · rw [e] at z; cases z
  · rw [up_up]
    refine ⟨rfl, hld_i ?_⟩
    have Sy := S.new (u := .ins (He.ga K "Net") [("corners", .tup (cds.map exC)), ("faces", .tup fds)]) nx (fun _ z => nomatch z)
    exact once_6b hc n1 n2 Sy hT f g (by rw [up_ne ne1]; exact h1) (by rw [up_ne ne2]; exact h2) ok1 ok2 lc lf (fun y hy => by rw [e] at hy; cases hy) (fun _ => ⟨x, rfl, up_same⟩)
end Hd

set_option exponentiation.threshold 20000
open PySem PySem.Spec PyProof.Rows L2 Z
namespace Hd
local macro_rules | `(tactic| walk_at "st") => `(tactic| simp (implicitDefEqProofs := false) only [↓seqD_up, ↓seqL_up, ↓len_ilst, ↓len_up, ↓truD_ilst, up_up, List.length_map, ↓wFor_m, ↓frzK_up, ↓frzK_upi, ↓wFz_e, ↓wFg_e, ↓wLstF_e, ↓addF_int, ↓addF_l, ↓addF_tup, ↓addF_str, ↓mulF_int, ↓mulF_l, ↓wSlF_e, ↓slF_tup, ↓slF_str, ↓slF_l, ↓slF_scr, ↓slF_ref, ↓listF_eq, ↓listdF_eq, ↓sortedF_eq, ↓allF_eq, ↓sumF_eq, ↓extF_eq, ↓vEnumF_e, ↓enF_l, ↓fldF_obj, ↓fldF_ref, ↓wFldF_e, ↓wLcF_e, ↓pName_e, ↓pNil_e, ↓pCons_e, ↓pTup_e, ↓gK_some, ↓obind_e, ↓seqL_ilst, ↓addM_eq, ↓sq2_some, ↓wVar_0, ↓wVar_s, ↓hNil_e, ↓hCons_e, ↓wDget_e, ↓wDget2_e, ↓wDput_m, ↓wSortIt_e, ↓wMake_e, ↓wIfS_m, ↓wSeq_m, ↓wAsg_m, ↓hName_e, ↓wC_e, ↓wNil_e, ↓wCons_e, ↓wTup_e, ↓wLst_e, ↓wOp_e, ↓wUn_e, ↓wIf_e, ↓wAndV_e, ↓wOrV_e, ↓wNotV_e, ↓wB_e, ↓wAnd_e, ↓wOr_e, ↓zNot_e, ↓zTru_e, ↓hCons_e, ↓hTup_e, ↓hSub_e, ↓wNext_m, ↓wDrop_m, ↓wRet_m, ↓wRetN_m, ↓wPar_m, ↓wCB_e, ↓wCall_e, ↓wIxk_e, ↓wSl_e, ↓wNoPart_e, ↓wPart_e, ↓wBM_e, ↓wBM0_e, ↓wChain_e, ↓wNever_e, ↓vSeq_e, ↓vEnum_e, ↓vRng1_e, ↓vRng2_e, vZip, ↓blK_bl, ↓tupK_tup, ↓pairK_2, ↓inK_int, ↓truD_bl, ↓truD_int, ↓truD_non, ↓truD_tup, ↓isn_non, ↓isn_int, ↓isn_bl, ↓isn_str, ↓isn_tup, ↓isn_ref, ↓Z.add_int, ↓add_tup, ↓add_ref, ↓intD_eq, ↓intD0_eq, ↓Z.mul_int, ↓Z.eq_int, ↓Z.ne_int, ↓Z.eq_bl, ↓ne_bl, ↓Z.eq_str, ↓Z.ne_str, ↓eq_non, ↓eq_tup, ↓eq_ref, ↓Z.neg_int, ↓seq_tup, ↓seq_ilst, ↓Z.ix_tup, ↓ix_int, ↓sqK_some, ↓ixK_0, ↓ixK_s, ↓tyK_some, ↓ty_non, ↓ty_bl, ↓ty_int, ↓ty_str, ↓ty_tup, ↓ty_ilst, ↓isi_eq, ↓isi2_eq, isiW, ↓len_tup, ↓intc_int, ↓abs_int, ↓gcd_int, ↓list_seq, ↓tuple_seq, ↓all_ref, ↓sum_ref, ↓Z.sl_tup, ↓sl_ilst, ↓sl_ref, ↓walk_tup, ↓walk_ilst, ↓walk_ref, ↓en_ref, start', List.map_cons, List.map_nil, List.cons_append, List.nil_append, List.append_nil, List.length_cons, List.length_nil, List.replicate, List.set_cons_zero, List.set_cons_succ, List.set_nil, List.getElem?_cons_zero, List.getElem?_cons_succ, wipeD, Nat.zero_add, Nat.reduceAdd, Nat.reduceSub, Nat.sub_self, Nat.sub_zero, true_and, and_true, if_true, if_false, Bool.not_true, Bool.not_false, ite_true, ite_false, Bool.false_eq_true, decide_true, decide_false, decide_eq_true_eq, Int.cast_ofNat_Int, reduceIte, Bool.not_eq_true', decide_eq_false_iff_not, Bool.and_true, Bool.true_and, Bool.and_false, Bool.false_and, Bool.or_true, Bool.true_or, Bool.or_false, Bool.false_or, beq_self_eq_true, bne_self_eq_false, not_true_eq_false, not_false_eq_true, String.reduceBEq, String.reduceBNe, Int.reduceToNat, Bool.true_eq_false, reduceCtorEq, Int.reduceEq, Int.reduceLT, Int.reduceLE, gt_iff_lt, ge_iff_le, ↓wBreak_m, ↓wCont_m, ↓wPar3_m, trioK_3, ↓wFldS_m, ↓wFld_e, ↓wChain_e, ↓wLam_e, ↓wIsE_e, ↓wRaise0_e, ↓wCallX_e, ↓wCallKX_e, ↓wYes_e, ↓wCallK_e, isDct_eq, dkK_eq, ↓wDnewT_e, ↓wXf_e, ↓wIsE2_e, ↓wMakeK_e, ↓ownEqD_e, ↓wIsO_e, ↓wRaiseN_e, ↓vEnumG_e])
local macro_rules | `(tactic| walk_at "go") => `(tactic| ((first | with_reducible refine hld_i ?_ | skip); try walk_at "st"))
local macro_rules | `(tactic| walk_at "sx") => `(tactic| ((try simp only [sp_is_integer, sp_lowest, sp_exact, sp_law_draw, sp_law_of, sp_law_same, sp_law_low, sp_law_hand, sp_law_number, sp_is_number, sp_is_corner, sp_is_index, sp_is_face, sp_Net_init, sp_Net_eq, sp_law_bag, sp_law_is_num, sp_law_handed, sp_law_bad, sp_law_bent_corner, sp_law_bent_face, sp_law_any, sp_law_bend, sp_law_drawn, sp_law_pair]); try walk_at "st"))
local macro_rules | `(tactic| walk_at "s0") => `(tactic| simp (implicitDefEqProofs := false) only [start', List.map_cons, List.map_nil, List.length_cons, List.length_nil, Nat.zero_add, Nat.reduceAdd, Nat.reduceSub, List.replicate, List.cons_append, List.nil_append])
local macro_rules | `(tactic| walk_at "rr") => `(tactic| repeat (first | with_reducible refine hld_i ?_ | walk_at "st"))
local macro_rules | `(tactic| walk_at "rx") => `(tactic| repeat (first | with_reducible refine hld_i ?_ | walk_at "st" | simp only [sp_is_integer, sp_lowest, sp_exact, sp_law_draw, sp_law_of, sp_law_same, sp_law_low, sp_law_hand, sp_law_number, sp_is_number, sp_is_corner, sp_is_index, sp_is_face, sp_Net_init, sp_Net_eq, sp_law_bag, sp_law_is_num, sp_law_handed, sp_law_bad, sp_law_bent_corner, sp_law_bent_face, sp_law_any, sp_law_bend, sp_law_drawn, sp_law_pair]))
local macro_rules | `(tactic| walk_at "dw") => `(tactic| (refine draw (by first | exact up_same | assumption) (by assumption) (by omega) (by omega) (by omega) ?_))

variable {K : PySem.W.Frag}


theorem cD_f {c : C3} : exC (cD c) = cD c := rfl
theorem ok_cs {cs : List C3} (h : ∀ c ∈ cs, Ok3 c) : OkIs 4 (cs.map cD) := fun d hd => by
  obtain ⟨c, hc, rfl⟩ := List.mem_map.mp hd
  exact ⟨(hc_all (h c hc) (hc_self c)).1, by show 3 ≤ 4; decide⟩
theorem ok_fs {fs : List F3} {m : Nat} (h : ∀ f ∈ fs, InF m f) (hm : m ≤ 20) : OkIs 4 (fs.map fD) := fun d hd => by
  obtain ⟨c, hc, rfl⟩ := List.mem_map.mp hd
  exact ⟨(f_all (h c hc) hm).1, by show 3 ≤ 4; decide⟩
theorem once_4 (hc : Cls K (He.ga K "Net")) (n1 : NoAttr K (He.ga K "Net") "corners") (n2 : NoAttr K (He.ga K "Net") "faces") (xm : PySem.W.exmOne K (.ref (He.ga K "BadNet")) (.ref (He.ga K "Refused")) = some true) (ec : ExcC K (He.ga K "BadNet")) (ks : PySem.W.kitOne K (.ref (He.ga K "BadNet")) (.ref (He.ga K "BadNet")) = some true)
    (kv : PySem.W.kitOne K (.ref (He.ga K "BadNet")) (.type "ValueError") = some true) (xf : XfC K (He.ga K "BadNet")) (nw : PySem.W.findIn K (.ref (He.ga K "BadNet")) "word" = some none) (ni : PySem.W.findIn K (.ref (He.ga K "BadNet")) "index" = some none)
    {L L' : Lp} {b : Addr} {T T2 : Nat} {o : O} {Q : VK'} {cs : List C3} {fs : List F3} {o3 o4 o5 o8 o9 o10 o11 o12 o13 o14 o15 o16 o17 o18 o19 : Option D}
    (S : St K L b T L' o) (hT : T + 100 ≤ T2) (hT2 : T2 < 1099511627776) (f : ∀ o', IsBag T2 o' → Q (.bl true) (up L b o')) (g : GoodN cs fs) :
    t_law_once_4 K { nx := fun _ L1 => Dn (Q .non) L1, rt := fun d L1 => Dn (Q d) L1 } [some (.ref b), some (.ilst (cs.map cD)), some (.ilst (fs.map fD)), o3, o4, o5, some (netD K cs fs), some (netD K cs fs), o8, o9, o10, o11, o12, o13, o14, o15, o16, o17, o18, o19] L' := by
  have l1 := g.lc
  have l2 := g.lf
  unfold t_law_once_4
  walk_at "rr"
  intro s1 m1
  walk_at "rr"
  intro s2 m2
  walk_at "rr"
  have S1 := S.new (u := .lst (cs.map cD)) m1 (fun _ z => nomatch z)
  have S2 := S1.new (u := .lst (fs.map fD)) m2 (fun _ z => nomatch z)
  have f1 := S.fr m1
  have f2 := S1.fr m2
  have n21 : s2 ≠ s1 := fun z => by subst z; rw [up_same] at m2; cases m2
  refine S2.dr (by omega) (by decide) (by decide) fun n o2 hn S3 => ?_
  walk_at "rr"
  refine ⟨by omega, by omega, ?_⟩
  have en : (1 + (n : Int)).toNat = n + 1 := by omega
  rw [en]
  have a1 : s1 ≠ b := f1.ne
  have a2 : s2 ≠ b := f2.ne
  refine for_r (fun i τ' L'' => ∃ (o11 : Option D) (cds fds : List D) (u4 : O), τ' = [some (.ref b), some (.ilst (cs.map cD)), some (.ilst (fs.map fD)), o3, o4, o5, some (netD K cs fs), some (netD K cs fs), o8, o9, o10, o11, o12, some (.ref s1), some (.ref s2), o15, o16, o17, o18, o19] ∧ St K L b (T + 1 + 20 * i) L'' u4 ∧ L'' s1 = some (.lst cds) ∧ L'' s2 = some (.lst fds) ∧ OkIs (4 + i) cds ∧ OkIs (4 + i) fds ∧ cds.length ≤ 8 + i ∧ fds.length ≤ 8 + i)
    ⟨_, _, _, o2, rfl, S3, by rw [up_ne a1, up_ne (Ne.symm n21), up_same], by rw [up_ne a2, up_same], ok_cs g.oc, ok_fs g.of (by omega), by rw [List.length_map]; omega, by rw [List.length_map]; omega⟩ (fun _ _ _ _ _ => trivial) ?_ ?_
  · rintro i τ' L'' hi ⟨o11, cds, fds, u4, rfl, S4, h1, h2, c1, c2, lc, lf⟩
    unfold t_law_once_5
    walk_at "rr"
    refine ⟨u4, T + 1 + 20 * i, 4 + i, 8 + i, cds, fds, S4.at, S4.bag, by omega, a1.symm, a2.symm, n21.symm, h1, h2, c1, c2, lc, lf, by omega, by omega, by omega, fun cds' fds' o' k1 k2 k3 k4 hB => ?_⟩
    walk_at "rr"
    have S5 := S4.draw hB
    have S6 := S5.put (w := .lst cds) (u := .lst cds') f1 (by rw [up_ne a1]; exact h1) (fun _ z => nomatch z) (fun _ z => nomatch z)
    have S7 := S6.put (w := .lst fds) (u := .lst fds') f2 (by rw [up_ne n21, up_ne a2]; exact h2) (fun _ z => nomatch z) (fun _ z => nomatch z)
    exact .mk ⟨_, cds', fds', o', rfl, S7.le' (by omega), by rw [up_ne n21.symm, up_same], up_same, k1, k2, by omega, by omega⟩
  · rintro τ' L'' ⟨o11, cds, fds, u4, rfl, S4, h1, h2, c1, c2, lc, lf⟩
    refine hld_i ?_
    exact once_6 hc n1 n2 xm ec ks kv xf nw ni S4 (by omega) f g h1 h2 (fun d hd => (c1 d hd).1) (fun d hd => (c2 d hd).1) (by omega) (by omega)
end Hd

set_option exponentiation.threshold 20000
open PySem PySem.Spec PyProof.Rows L2 Z
namespace Hd
local macro_rules | `(tactic| walk_at "st") => `(tactic| simp (implicitDefEqProofs := false) only [↓seqD_up, ↓seqL_up, ↓len_ilst, ↓len_up, ↓truD_ilst, up_up, List.length_map, ↓wFor_m, ↓frzK_up, ↓frzK_upi, ↓wFz_e, ↓wFg_e, ↓wLstF_e, ↓addF_int, ↓addF_l, ↓addF_tup, ↓addF_str, ↓mulF_int, ↓mulF_l, ↓wSlF_e, ↓slF_tup, ↓slF_str, ↓slF_l, ↓slF_scr, ↓slF_ref, ↓listF_eq, ↓listdF_eq, ↓sortedF_eq, ↓allF_eq, ↓sumF_eq, ↓extF_eq, ↓vEnumF_e, ↓enF_l, ↓fldF_obj, ↓fldF_ref, ↓wFldF_e, ↓wLcF_e, ↓pName_e, ↓pNil_e, ↓pCons_e, ↓pTup_e, ↓gK_some, ↓obind_e, ↓seqL_ilst, ↓addM_eq, ↓sq2_some, ↓wVar_0, ↓wVar_s, ↓hNil_e, ↓hCons_e, ↓wDget_e, ↓wDget2_e, ↓wDput_m, ↓wSortIt_e, ↓wMake_e, ↓wIfS_m, ↓wSeq_m, ↓wAsg_m, ↓hName_e, ↓wC_e, ↓wNil_e, ↓wCons_e, ↓wTup_e, ↓wLst_e, ↓wOp_e, ↓wUn_e, ↓wIf_e, ↓wAndV_e, ↓wOrV_e, ↓wNotV_e, ↓wB_e, ↓wAnd_e, ↓wOr_e, ↓zNot_e, ↓zTru_e, ↓hCons_e, ↓hTup_e, ↓hSub_e, ↓wNext_m, ↓wDrop_m, ↓wRet_m, ↓wRetN_m, ↓wPar_m, ↓wCB_e, ↓wCall_e, ↓wIxk_e, ↓wSl_e, ↓wNoPart_e, ↓wPart_e, ↓wBM_e, ↓wBM0_e, ↓wChain_e, ↓wNever_e, ↓vSeq_e, ↓vEnum_e, ↓vRng1_e, ↓vRng2_e, vZip, ↓blK_bl, ↓tupK_tup, ↓pairK_2, ↓inK_int, ↓truD_bl, ↓truD_int, ↓truD_non, ↓truD_tup, ↓isn_non, ↓isn_int, ↓isn_bl, ↓isn_str, ↓isn_tup, ↓isn_ref, ↓Z.add_int, ↓add_tup, ↓add_ref, ↓intD_eq, ↓intD0_eq, ↓Z.mul_int, ↓Z.eq_int, ↓Z.ne_int, ↓Z.eq_bl, ↓ne_bl, ↓Z.eq_str, ↓Z.ne_str, ↓eq_non, ↓eq_tup, ↓eq_ref, ↓Z.neg_int, ↓seq_tup, ↓seq_ilst, ↓Z.ix_tup, ↓ix_int, ↓sqK_some, ↓ixK_0, ↓ixK_s, ↓tyK_some, ↓ty_non, ↓ty_bl, ↓ty_int, ↓ty_str, ↓ty_tup, ↓ty_ilst, ↓isi_eq, ↓isi2_eq, isiW, ↓len_tup, ↓intc_int, ↓abs_int, ↓gcd_int, ↓list_seq, ↓tuple_seq, ↓all_ref, ↓sum_ref, ↓Z.sl_tup, ↓sl_ilst, ↓sl_ref, ↓walk_tup, ↓walk_ilst, ↓walk_ref, ↓en_ref, start', List.map_cons, List.map_nil, List.cons_append, List.nil_append, List.append_nil, List.length_cons, List.length_nil, List.replicate, List.set_cons_zero, List.set_cons_succ, List.set_nil, List.getElem?_cons_zero, List.getElem?_cons_succ, wipeD, Nat.zero_add, Nat.reduceAdd, Nat.reduceSub, Nat.sub_self, Nat.sub_zero, true_and, and_true, if_true, if_false, Bool.not_true, Bool.not_false, ite_true, ite_false, Bool.false_eq_true, decide_true, decide_false, decide_eq_true_eq, Int.cast_ofNat_Int, reduceIte, Bool.not_eq_true', decide_eq_false_iff_not, Bool.and_true, Bool.true_and, Bool.and_false, Bool.false_and, Bool.or_true, Bool.true_or, Bool.or_false, Bool.false_or, beq_self_eq_true, bne_self_eq_false, not_true_eq_false, not_false_eq_true, String.reduceBEq, String.reduceBNe, Int.reduceToNat, Bool.true_eq_false, reduceCtorEq, Int.reduceEq, Int.reduceLT, Int.reduceLE, gt_iff_lt, ge_iff_le, ↓wBreak_m, ↓wCont_m, ↓wPar3_m, trioK_3, ↓wFldS_m, ↓wFld_e, ↓wChain_e, ↓wLam_e, ↓wIsE_e, ↓wRaise0_e, ↓wCallX_e, ↓wCallKX_e, ↓wYes_e, ↓wCallK_e, isDct_eq, dkK_eq, ↓wDnewT_e, ↓wXf_e, ↓wIsE2_e, ↓wMakeK_e, ↓ownEqD_e, ↓wIsO_e, ↓wRaiseN_e, ↓vEnumG_e])
local macro_rules | `(tactic| walk_at "go") => `(tactic| ((first | with_reducible refine hld_i ?_ | skip); try walk_at "st"))
local macro_rules | `(tactic| walk_at "sx") => `(tactic| ((try simp only [sp_is_integer, sp_lowest, sp_exact, sp_law_draw, sp_law_of, sp_law_same, sp_law_low, sp_law_hand, sp_law_number, sp_is_number, sp_is_corner, sp_is_index, sp_is_face, sp_Net_init, sp_Net_eq, sp_law_bag, sp_law_is_num, sp_law_handed, sp_law_bad, sp_law_bent_corner, sp_law_bent_face, sp_law_any, sp_law_bend, sp_law_drawn, sp_law_pair]); try walk_at "st"))
local macro_rules | `(tactic| walk_at "s0") => `(tactic| simp (implicitDefEqProofs := false) only [start', List.map_cons, List.map_nil, List.length_cons, List.length_nil, Nat.zero_add, Nat.reduceAdd, Nat.reduceSub, List.replicate, List.cons_append, List.nil_append])
local macro_rules | `(tactic| walk_at "rr") => `(tactic| repeat (first | with_reducible refine hld_i ?_ | walk_at "st"))
local macro_rules | `(tactic| walk_at "rx") => `(tactic| repeat (first | with_reducible refine hld_i ?_ | walk_at "st" | simp only [sp_is_integer, sp_lowest, sp_exact, sp_law_draw, sp_law_of, sp_law_same, sp_law_low, sp_law_hand, sp_law_number, sp_is_number, sp_is_corner, sp_is_index, sp_is_face, sp_Net_init, sp_Net_eq, sp_law_bag, sp_law_is_num, sp_law_handed, sp_law_bad, sp_law_bent_corner, sp_law_bent_face, sp_law_any, sp_law_bend, sp_law_drawn, sp_law_pair]))
local macro_rules | `(tactic| walk_at "dw") => `(tactic| (refine draw (by first | exact up_same | assumption) (by assumption) (by omega) (by omega) (by omega) ?_))

variable {K : PySem.W.Frag}



structure Kf (K : PySem.W.Frag) : Prop where
  hc : Cls K (He.ga K "Net")
  n1 : NoAttr K (He.ga K "Net") "corners"
  n2 : NoAttr K (He.ga K "Net") "faces"
  xm : PySem.W.exmOne K (.ref (He.ga K "BadNet")) (.ref (He.ga K "Refused")) = some true
  ec : ExcC K (He.ga K "BadNet")
  ks : PySem.W.kitOne K (.ref (He.ga K "BadNet")) (.ref (He.ga K "BadNet")) = some true
  kv : PySem.W.kitOne K (.ref (He.ga K "BadNet")) (.type "ValueError") = some true
  xf : XfC K (He.ga K "BadNet")
  nw : PySem.W.findIn K (.ref (He.ga K "BadNet")) "word" = some none
  ni : PySem.W.findIn K (.ref (He.ga K "BadNet")) "index" = some none
theorem once_3 (F : Kf K) {L L' : Lp} {b r1 r2 : Addr} {T T2 : Nat} {o : O} {Q : VK'} {cs cs2 : List C3} {fs fs2 : List F3} {o3 o4 o5 o10 o11 o12 o13 o14 o15 o16 o17 o18 o19 : Option D}
    (S : St K L b T L' o) (hT : T + 100 ≤ T2) (hT2 : T2 < 1099511627776) (f : ∀ o', IsBag T2 o' → Q (.bl true) (up L b o')) (g : GoodN cs fs) (g2 : GoodN cs2 fs2) (h1 : L' r1 = some (.lst (cs2.map cD))) (h2 : L' r2 = some (.lst (fs2.map fD))) :
    t_law_once_3 K { nx := fun _ L1 => Dn (Q .non) L1, rt := fun d L1 => Dn (Q d) L1 } [some (.ref b), some (.ilst (cs.map cD)), some (.ilst (fs.map fD)), o3, o4, o5, some (netD K cs fs), some (netD K cs fs), some (.ref r1), some (.ref r2), o10, o11, o12, o13, o14, o15, o16, o17, o18, o19] L' := by
  unfold t_law_once_3
  walk_at "rr"
  refine net (seq_ref h1) (seq_ref h2) (hc_selfs cs2) g2 ?_
  walk_at "rr"
  refine ⟨_, _, rfl, rfl, cs, fs, cs2, fs2, rfl, rfl, ⟨_, rfl⟩, ?_⟩
  walk_at "rr"
  refine enc_c.lst h1 ?_
  walk_at "rr"
  have go : t_law_once_4 K { nx := fun _ L1 => Dn (Q .non) L1, rt := fun d L1 => Dn (Q d) L1 } [some (.ref b), some (.ilst (cs.map cD)), some (.ilst (fs.map fD)), o3, o4, o5, some (netD K cs fs), some (netD K cs fs), some (.ref r1), some (.ref r2), o10, o11, some (netD K cs2 fs2), o13, o14, o15, o16, o17, o18, o19] L' :=
    once_4 F.hc F.n1 F.n2 F.xm F.ec F.ks F.kv F.xf F.nw F.ni S hT hT2 f g
  by_cases c : cs2 = cs
  · rw [if_pos c]
    walk_at "rr"
    refine enc_f.lst h2 ?_
    refine same_e ?_ ?_
    · show decide (cs = cs2 ∧ fs = fs2) = decide (fs2 = fs)
      refine decide_eq_decide.mpr ⟨fun h => h.2.symm, fun h => ⟨c.symm, h.symm⟩⟩
    · walk_at "rr"
      exact go
  · rw [if_neg c]
    walk_at "rr"
    refine same_e ?_ ?_
    · show decide (cs = cs2 ∧ fs = fs2) = false
      exact decide_eq_false fun h => c h.1.symm
    · walk_at "rr"
      exact go
def tb_2f : TS' := (wIfS (wB (wOp gtD (wCB lenD (wCons (wVar 2) wNil)) (wC (.int 0)))) (wSeq (wAsg (wCall sp_law_draw [] X0 (wCons (wVar 0) (wCons (wCB lenD (wCons (wVar 2) wNil)) wNil))) (hName 10))
  (wAsg (wOp addF (wSlF (wOp ixD (wVar 2) (wVar 10)) (wPart (wC (.int 1))) wNoPart) (wSlF (wOp ixD (wVar 2) (wVar 10)) wNoPart (wPart (wC (.int 1))))) (hSub (wVar 9) (wVar 10) setD))) wNext)
theorem put3 {c : C3} {q : Rat} {k : Nat} (h : k < 3) (hc : Ok3 c) (hq : Ok1 q) : ∃ c2 : C3, ([numD c.1, numD c.2.1, numD c.2.2].take k ++ [numD q] ++ [numD c.1, numD c.2.1, numD c.2.2].drop (k + 1)) = [numD c2.1, numD c2.2.1, numD c2.2.2] ∧ Ok3 c2 := by
  obtain ⟨a1, a2, a3⟩ := hc
  match k, h with
  | 0, _ => exact ⟨(q, c.2.1, c.2.2), rfl, hq, a2, a3⟩
  | 1, _ => exact ⟨(c.1, q, c.2.2), rfl, a1, hq, a3⟩
  | 2, _ => exact ⟨(c.1, c.2.1, q), rfl, a1, a2, hq⟩
theorem once_2f (F : Kf K) {L L' : Lp} {b r1 r2 : Addr} {T T2 : Nat} {o : O} {Q : VK'} {cs : List C3} {fs : List F3} {o3 o4 o5 o10 o11 o12 o13 o14 o15 o16 o17 o18 o19 : Option D}
    (S : St K L b T L' o) (hT : T + 150 ≤ T2) (hT2 : T2 < 1099511627776) (f : ∀ o', IsBag T2 o' → Q (.bl true) (up L b o')) (g : GoodN cs fs) (a1 : r1 ≠ b) (f2 : Fr L b r2) (n21 : r2 ≠ r1) (h1 : L' r1 = some (.lst (cs.map cD))) (h2 : L' r2 = some (.lst (fs.map fD))) :
    tb_2f { nx := hld (t_law_once_3 K { nx := fun x L1 => Dn (Q D.non) L1, rt := fun d L1 => Dn (Q d) L1 }), rt := fun d L1 => Dn (Q d) L1 } [some (.ref b), some (.ilst (cs.map cD)), some (.ilst (fs.map fD)), o3, o4, o5, some (netD K cs fs), some (netD K cs fs), some (.ref r1), some (.ref r2), o10, o11, o12, o13, o14, o15, o16, o17, o18, o19] L' := by
  have l1 := g.lc
  have l2 := g.lf
  have a2 : r2 ≠ b := f2.ne
  unfold tb_2f
  walk_at "st"
  by_cases c : (0 : Int) < fs.length
  · rw [if_pos c]
    walk_at "rr"
    refine S.dr (by omega) (by omega) (by omega) fun n o2 hn S3 => ?_
    walk_at "rr"
    have hn2 : n < fs.length := by omega
    have ix : atI (fs.map fD) (n : Int) = some (fD fs[n]) := by rw [atN (by rw [List.length_map]; exact hn2), List.getElem_map]
    refine atK_at ix ?_
    walk_at "rr"
    refine atK_at ix ?_
    walk_at "rr"
    rw [show Z.cutD [D.int fs[n].1, .int fs[n].2.1, .int fs[n].2.2] (some 1) none = [.int fs[n].2.1, .int fs[n].2.2] from cut_from 1, show Z.cutD [D.int fs[n].1, .int fs[n].2.1, .int fs[n].2.2] none (some 1) = [.int fs[n].1] from cut_to 1]
    refine ⟨szl (by show 2 + 1 ≤ 1000; omega), ?_⟩
    walk_at "st"
    have h2' : up L' b o2 r2 = some (.lst (fs.map fD)) := by rw [up_ne a2]; exact h2
    refine set_at h2' (n := n) (by rw [List.length_map]; exact ixn_nat hn2) ?_
    have S4 := S3.put (w := .lst (fs.map fD)) (u := .lst ((fs.set n (fs[n].2.1, fs[n].2.2, fs[n].1)).map fD)) f2 h2' (fun _ z => nomatch z) (fun _ z => nomatch z)
    have e : (fs.map fD).set n (.tup [.int fs[n].2.1, .int fs[n].2.2, .int fs[n].1]) = (fs.set n (fs[n].2.1, fs[n].2.2, fs[n].1)).map fD := by rw [List.map_set]
    refine hld_i ?_
    have q := once_3 (o3 := o3) (o4 := o4) (o5 := o5) (o10 := some (.int (n : Int))) (o11 := o11) (o12 := o12) (o13 := o13) (o14 := o14) (o15 := o15) (o16 := o16) (o17 := o17) (o18 := o18) (o19 := o19) F S4 (by omega) hT2 f g ⟨g.oc, fun x hx => ?_, g.lc, by rw [List.length_set]; exact g.lf⟩ (by rw [up_ne n21.symm, up_ne a1]; exact h1) up_same
    · rw [← e] at q
      exact q
    · rcases List.mem_or_eq_of_mem_set hx with z | z
      · exact g.of x z
      · have k := g.of _ (List.getElem_mem hn2)
        rw [z]
        exact ⟨k.2.1, k.2.2, k.1⟩
  · rw [if_neg c]
    refine hld_i ?_
    walk_at "st"
    refine hld_i ?_
    exact once_3 F S (by omega) hT2 f g g h1 h2
theorem once_2 (F : Kf K) {L L' : Lp} {b : Addr} {T T2 : Nat} {o : O} {Q : VK'} {cs : List C3} {fs : List F3} {o3 o4 o5 o8 o9 o10 o11 o12 o13 o14 o15 o16 o17 o18 o19 : Option D}
    (S : St K L b T L' o) (hT : T + 200 ≤ T2) (hT2 : T2 < 1099511627776) (f : ∀ o', IsBag T2 o' → Q (.bl true) (up L b o')) (g : GoodN cs fs) :
    t_law_once_2 K { nx := fun _ L1 => Dn (Q .non) L1, rt := fun d L1 => Dn (Q d) L1 } [some (.ref b), some (.ilst (cs.map cD)), some (.ilst (fs.map fD)), o3, o4, o5, some (netD K cs fs), some (netD K cs fs), o8, o9, o10, o11, o12, o13, o14, o15, o16, o17, o18, o19] L' := by
  have l1 := g.lc
  have l2 := g.lf
  unfold t_law_once_2
  walk_at "rr"
  intro r1 m1
  walk_at "rr"
  intro r2 m2
  walk_at "rr"
  have S1 := S.new (u := .lst (cs.map cD)) m1 (fun _ z => nomatch z)
  have S2 := S1.new (u := .lst (fs.map fD)) m2 (fun _ z => nomatch z)
  have f1 := S.fr m1
  have f2 := S1.fr m2
  have a1 : r1 ≠ b := f1.ne
  have a2 : r2 ≠ b := f2.ne
  have n21 : r2 ≠ r1 := fun z => by subst z; rw [up_same] at m2; cases m2
  have h1 : up (up L' r1 (.lst (cs.map cD))) r2 (.lst (fs.map fD)) r1 = some (.lst (cs.map cD)) := by rw [up_ne n21.symm, up_same]
  have h2 : up (up L' r1 (.lst (cs.map cD))) r2 (.lst (fs.map fD)) r2 = some (.lst (fs.map fD)) := up_same
  generalize hM : up (up L' r1 (.lst (cs.map cD))) r2 (.lst (fs.map fD)) = M at S2 h1 h2
  by_cases c : (0 : Int) < cs.length
  · rw [if_pos c]
    refine S2.dr (by omega) (by decide) (by decide) fun w o2 hw S3 => ?_
    have h1' : up M b o2 r1 = some (.lst (cs.map cD)) := by rw [up_ne a1]; exact h1
    have h2' : up M b o2 r2 = some (.lst (fs.map fD)) := by rw [up_ne a2]; exact h2
    walk_at "st"
    by_cases cw : (w : Int) = 0
    · rw [if_pos cw]
      walk_at "rr"
      refine S3.dr (by omega) (by omega) (by omega) fun n o3' hn S4 => ?_
      rw [up_up] at S4 ⊢
      walk_at "rr"
      refine S4.dr (by omega) (by omega) (by omega) fun k o4' hk S5 => ?_
      rw [up_up] at S5 ⊢
      walk_at "rr"
      have hn2 : n < cs.length := by omega
      have hk2 : k < 3 := by omega
      have ix : atI (cs.map cD) (n : Int) = some (cD cs[n]) := by rw [atN (by rw [List.length_map]; exact hn2), List.getElem_map]
      refine atK_at ix ?_
      walk_at "rr"
      rw [cut_to]
      refine num S5.at S5.bag (by omega) fun q o5' hq hB => ?_
      have S6 := S5.draw hB
      rw [up_up] at S6 ⊢
      walk_at "rr"
      obtain ⟨c2, e2, ok2⟩ := put3 (c := cs[n]) hk2 (g.oc _ (List.getElem_mem hn2)) hq
      refine ⟨szl (by rw [List.length_take]; simp only [List.length_cons, List.length_nil]; omega), ?_⟩
      refine atK_at ix ?_
      walk_at "st"
      rw [cut_s]
      refine ⟨szl (by simp only [List.length_append, List.length_take, List.length_drop, List.length_cons, List.length_nil]; omega), ?_⟩
      rw [e2]
      have h1'' : up M b o5' r1 = some (.lst (cs.map cD)) := by rw [up_ne a1]; exact h1
      have h2'' : up M b o5' r2 = some (.lst (fs.map fD)) := by rw [up_ne a2]; exact h2
      refine set_at h1'' (n := n) (by rw [List.length_map]; exact ixn_nat hn2) ?_
      have S7 := S6.put (w := .lst (cs.map cD)) (u := .lst ((cs.set n c2).map cD)) f1 h1'' (fun _ z => nomatch z) (fun _ z => nomatch z)
      have e : (cs.map cD).set n (cD c2) = (cs.set n c2).map cD := by rw [List.map_set]
      refine hld_i ?_
      have z := once_3 (o3 := o3) (o4 := o4) (o5 := o5) (o10 := some (.int (n : Int))) (o11 := some (.int (k : Int))) (o12 := o12) (o13 := o13) (o14 := o14) (o15 := o15) (o16 := o16) (o17 := o17) (o18 := o18) (o19 := o19) F S7 (by omega) hT2 f g ⟨fun x hx => ?_, fun x hx => ?_, by rw [List.length_set]; exact g.lc, g.lf⟩ up_same (by rw [up_ne n21]; exact h2'')
      · rw [← e] at z
        exact z
      · rcases List.mem_or_eq_of_mem_set hx with y | y
        · exact g.oc x y
        · rw [y]
          exact ok2
      · rw [List.length_set]
        exact g.of x hx
    · rw [if_neg cw]
      refine hld_i ?_
      exact once_2f F S3 (by omega) hT2 f g a1 f2 n21 h1' h2'
  · rw [if_neg c]
    refine hld_i ?_
    exact once_2f F S2 (by omega) hT2 f g a1 f2 n21 h1 h2
end Hd

set_option exponentiation.threshold 20000
open PySem PySem.Spec PyProof.Rows L2 Z
namespace Hd
local macro_rules | `(tactic| walk_at "st") => `(tactic| simp (implicitDefEqProofs := false) only [↓seqD_up, ↓seqL_up, ↓len_ilst, ↓len_up, ↓truD_ilst, up_up, List.length_map, ↓wFor_m, ↓frzK_up, ↓frzK_upi, ↓wFz_e, ↓wFg_e, ↓wLstF_e, ↓addF_int, ↓addF_l, ↓addF_tup, ↓addF_str, ↓mulF_int, ↓mulF_l, ↓wSlF_e, ↓slF_tup, ↓slF_str, ↓slF_l, ↓slF_scr, ↓slF_ref, ↓listF_eq, ↓listdF_eq, ↓sortedF_eq, ↓allF_eq, ↓sumF_eq, ↓extF_eq, ↓vEnumF_e, ↓enF_l, ↓fldF_obj, ↓fldF_ref, ↓wFldF_e, ↓wLcF_e, ↓pName_e, ↓pNil_e, ↓pCons_e, ↓pTup_e, ↓gK_some, ↓obind_e, ↓seqL_ilst, ↓addM_eq, ↓sq2_some, ↓wVar_0, ↓wVar_s, ↓hNil_e, ↓hCons_e, ↓wDget_e, ↓wDget2_e, ↓wDput_m, ↓wSortIt_e, ↓wMake_e, ↓wIfS_m, ↓wSeq_m, ↓wAsg_m, ↓hName_e, ↓wC_e, ↓wNil_e, ↓wCons_e, ↓wTup_e, ↓wLst_e, ↓wOp_e, ↓wUn_e, ↓wIf_e, ↓wAndV_e, ↓wOrV_e, ↓wNotV_e, ↓wB_e, ↓wAnd_e, ↓wOr_e, ↓zNot_e, ↓zTru_e, ↓hCons_e, ↓hTup_e, ↓hSub_e, ↓wNext_m, ↓wDrop_m, ↓wRet_m, ↓wRetN_m, ↓wPar_m, ↓wCB_e, ↓wCall_e, ↓wIxk_e, ↓wSl_e, ↓wNoPart_e, ↓wPart_e, ↓wBM_e, ↓wBM0_e, ↓wChain_e, ↓wNever_e, ↓vSeq_e, ↓vEnum_e, ↓vRng1_e, ↓vRng2_e, vZip, ↓blK_bl, ↓tupK_tup, ↓pairK_2, ↓inK_int, ↓truD_bl, ↓truD_int, ↓truD_non, ↓truD_tup, ↓isn_non, ↓isn_int, ↓isn_bl, ↓isn_str, ↓isn_tup, ↓isn_ref, ↓Z.add_int, ↓add_tup, ↓add_ref, ↓intD_eq, ↓intD0_eq, ↓Z.mul_int, ↓Z.eq_int, ↓Z.ne_int, ↓Z.eq_bl, ↓ne_bl, ↓Z.eq_str, ↓Z.ne_str, ↓eq_non, ↓eq_tup, ↓eq_ref, ↓Z.neg_int, ↓seq_tup, ↓seq_ilst, ↓Z.ix_tup, ↓ix_int, ↓sqK_some, ↓ixK_0, ↓ixK_s, ↓tyK_some, ↓ty_non, ↓ty_bl, ↓ty_int, ↓ty_str, ↓ty_tup, ↓ty_ilst, ↓isi_eq, ↓isi2_eq, isiW, ↓len_tup, ↓intc_int, ↓abs_int, ↓gcd_int, ↓list_seq, ↓tuple_seq, ↓all_ref, ↓sum_ref, ↓Z.sl_tup, ↓sl_ilst, ↓sl_ref, ↓walk_tup, ↓walk_ilst, ↓walk_ref, ↓en_ref, start', List.map_cons, List.map_nil, List.cons_append, List.nil_append, List.append_nil, List.length_cons, List.length_nil, List.replicate, List.set_cons_zero, List.set_cons_succ, List.set_nil, List.getElem?_cons_zero, List.getElem?_cons_succ, wipeD, Nat.zero_add, Nat.reduceAdd, Nat.reduceSub, Nat.sub_self, Nat.sub_zero, true_and, and_true, if_true, if_false, Bool.not_true, Bool.not_false, ite_true, ite_false, Bool.false_eq_true, decide_true, decide_false, decide_eq_true_eq, Int.cast_ofNat_Int, reduceIte, Bool.not_eq_true', decide_eq_false_iff_not, Bool.and_true, Bool.true_and, Bool.and_false, Bool.false_and, Bool.or_true, Bool.true_or, Bool.or_false, Bool.false_or, beq_self_eq_true, bne_self_eq_false, not_true_eq_false, not_false_eq_true, String.reduceBEq, String.reduceBNe, Int.reduceToNat, Bool.true_eq_false, reduceCtorEq, Int.reduceEq, Int.reduceLT, Int.reduceLE, gt_iff_lt, ge_iff_le, ↓wBreak_m, ↓wCont_m, ↓wPar3_m, trioK_3, ↓wFldS_m, ↓wFld_e, ↓wChain_e, ↓wLam_e, ↓wIsE_e, ↓wRaise0_e, ↓wCallX_e, ↓wCallKX_e, ↓wYes_e, ↓wCallK_e, isDct_eq, dkK_eq, ↓wDnewT_e, ↓wXf_e, ↓wIsE2_e, ↓wMakeK_e, ↓ownEqD_e, ↓wIsO_e, ↓wRaiseN_e, ↓vEnumG_e])
local macro_rules | `(tactic| walk_at "go") => `(tactic| ((first | with_reducible refine hld_i ?_ | skip); try walk_at "st"))
local macro_rules | `(tactic| walk_at "sx") => `(tactic| ((try simp only [sp_is_integer, sp_lowest, sp_exact, sp_law_draw, sp_law_of, sp_law_same, sp_law_low, sp_law_hand, sp_law_number, sp_is_number, sp_is_corner, sp_is_index, sp_is_face, sp_Net_init, sp_Net_eq, sp_law_bag, sp_law_is_num, sp_law_handed, sp_law_bad, sp_law_bent_corner, sp_law_bent_face, sp_law_any, sp_law_bend, sp_law_drawn, sp_law_pair]); try walk_at "st"))
local macro_rules | `(tactic| walk_at "s0") => `(tactic| simp (implicitDefEqProofs := false) only [start', List.map_cons, List.map_nil, List.length_cons, List.length_nil, Nat.zero_add, Nat.reduceAdd, Nat.reduceSub, List.replicate, List.cons_append, List.nil_append])
local macro_rules | `(tactic| walk_at "rr") => `(tactic| repeat (first | with_reducible refine hld_i ?_ | walk_at "st"))
local macro_rules | `(tactic| walk_at "rx") => `(tactic| repeat (first | with_reducible refine hld_i ?_ | walk_at "st" | simp only [sp_is_integer, sp_lowest, sp_exact, sp_law_draw, sp_law_of, sp_law_same, sp_law_low, sp_law_hand, sp_law_number, sp_is_number, sp_is_corner, sp_is_index, sp_is_face, sp_Net_init, sp_Net_eq, sp_law_bag, sp_law_is_num, sp_law_handed, sp_law_bad, sp_law_bent_corner, sp_law_bent_face, sp_law_any, sp_law_bend, sp_law_drawn, sp_law_pair]))
local macro_rules | `(tactic| walk_at "dw") => `(tactic| (refine draw (by first | exact up_same | assumption) (by assumption) (by omega) (by omega) (by omega) ?_))

variable {K : PySem.W.Frag}




theorem once_1 (F : Kf K) {L L' : Lp} {b p q : Addr} {T T2 : Nat} {o : O} {Q : VK'} {cs : List C3} {fs : List F3} {A : List D} {o7 o8 o9 o10 o11 o12 o13 o14 o15 o16 o17 o18 o19 : Option D}
    (S : St K L b T L' o) (hT : T + 600 ≤ T2) (hT2 : T2 < 1099511627776) (f : ∀ o', IsBag T2 o' → Q (.bl true) (up L b o')) (g : GoodN cs fs) (f1 : Fr L b p) (f2 : Fr L b q) (n21 : q ≠ p) (h1 : L' p = some (.lst A)) (h2 : L' q = some (.lst (fs.map fD))) (lA : A.length ≤ 20) :
    t_law_once_1 K { nx := fun _ L1 => Dn (Q .non) L1, rt := fun d L1 => Dn (Q d) L1 } [some (.ref b), some (.ilst (cs.map cD)), some (.ilst (fs.map fD)), some (.ilst [.tup (cs.map cD), .tup (fs.map fD)]), some (.ref p), some (.ref q), some (netD K cs fs), o7, o8, o9, o10, o11, o12, o13, o14, o15, o16, o17, o18, o19] L' := by
  have l1 := g.lc
  have l2 := g.lf
  have a1 : p ≠ b := f1.ne
  have a2 : q ≠ b := f2.ne
  unfold t_law_once_1
  walk_at "rr"
  refine ⟨o, T, cs, S.at, S.bag, by omega, rfl, by omega, fun ds o2 r hB hA nr => ?_⟩
  have S2 := S.draw hB
  walk_at "rr"
  have rb : r ≠ b := fun z => by subst z; rw [S.at] at nr; cases nr
  rw [del_no (by rw [up_ne rb]; exact nr)]
  have h1' : up L' b o2 p = some (.lst A) := by rw [up_ne a1]; exact h1
  have h2' : up L' b o2 q = some (.lst (fs.map fD)) := by rw [up_ne a2]; exact h2
  refine net rfl rfl hA g ?_
  walk_at "rr"
  refine ⟨.inl ⟨rfl, _, h1'⟩, ?_⟩
  refine ⟨A, h1', Nat.lt_of_lt_of_le (show A.length < 100 by omega) (szl (by decide)), by decide, by decide, ?_⟩
  have S3 := S2.put (w := .lst A) (u := .lst (A.take (min (0 : Int).toNat A.length) ++ (D.tup [.int 5, .int 5, .int 5]) :: A.drop (min (0 : Int).toNat A.length))) f1 h1' (fun _ z => nomatch z) (fun _ z => nomatch z)
  have h2'' : up (up L' b o2) p (.lst (A.take (min (0 : Int).toNat A.length) ++ (D.tup [.int 5, .int 5, .int 5]) :: A.drop (min (0 : Int).toNat A.length))) q = some (.lst (fs.map fD)) := by rw [up_ne n21]; exact h2'
  generalize up (up L' b o2) p (.lst (A.take (min (0 : Int).toNat A.length) ++ (D.tup [.int 5, .int 5, .int 5]) :: A.drop (min (0 : Int).toNat A.length))) = M at S3 h2''
  walk_at "rr"
  refine ⟨.inl ⟨rfl, _, h2''⟩, ?_⟩
  refine ⟨fs.map fD, h2'', Nat.lt_of_lt_of_le (show (fs.map fD).length < 100 by rw [List.length_map]; omega) (szl (by decide)), ?_⟩
  have S4 := S3.put (w := .lst (fs.map fD)) (u := .lst (fs.map fD ++ [.tup [.int 0, .int 0, .int 0]])) f2 h2'' (fun _ z => nomatch z) (fun _ z => nomatch z)
  generalize up M q (.lst (fs.map fD ++ [.tup [.int 0, .int 0, .int 0]])) = N at S4
  walk_at "rr"
  have et : decide (cs = cs ∧ fs = fs) = true := decide_eq_true ⟨rfl, rfl⟩
  refine ⟨F.hc, F.n1, _, rfl, F.hc, F.n2, _, rfl, _, _, rfl, rfl, cs, fs, cs, fs, rfl, rfl, ⟨_, rfl⟩, _, _, rfl, rfl, cs, fs, cs, fs, rfl, rfl, ⟨_, rfl⟩, ?_⟩
  rw [et]
  walk_at "rr"
  have sc : Same 5 N (.tup (cs.map cD)) (.tup (cs.map cD)) := ⟨sz (n := 100) (by omega) (by decide), all_same cD same_c cs⟩
  have sf : Same 5 N (.tup (fs.map fD)) (.tup (fs.map fD)) := ⟨sz (n := 100) (by omega) (by decide), all_same fD same_f fs⟩
  refine ⟨szl (by decide), same_e ⟨szl (by show 4 ≤ 1000; decide), .cons sc (.cons sf (.cons rfl (.cons rfl .nil)))⟩ ?_⟩
  walk_at "rr"
  exact once_2 F S4 (by omega) hT2 f g
theorem rd_law_once (F : Kf K) : RD_law_once K := by
  intro ds L Q E h
  unfold sp_law_once at h
  split at h
  · rename_i b
    obtain ⟨o, T, hb, hB, hT, hTab, h⟩ := h
    have S0 : St K L b T L o := ⟨by rw [up_id hb]; exact Le.refl L, hB, hTab⟩
    unfold t_law_once
    walk_at "s0"
    walk_at "rr"
    refine ⟨o, T, hb, hB, by omega, fun cs fs o1 lc lf oc of hB1 => ?_⟩
    have g : GoodN cs fs := ⟨oc, of, lc, lf⟩
    have S1 := S0.draw hB1
    walk_at "rr"
    refine ⟨o1, _, cs, S1.at, S1.bag, by omega, rfl, by omega, fun A o2 p hB2 hA np => ?_⟩
    have S2 := S1.draw hB2
    have pb : p ≠ b := fun z => by subst z; rw [up_same] at np; cases np
    rw [up_up] at S2 ⊢
    have np2 : up L b o2 p = none := by rw [up_ne pb] at np ⊢; exact np
    have S3 := S2.new (u := .lst A) np2 (fun _ z => nomatch z)
    have f1 := S2.fr np2
    walk_at "rr"
    intro q nq
    have S4 := S3.new (u := .lst (fs.map fD)) nq (fun _ z => nomatch z)
    have f2 := S3.fr nq
    have n21 : q ≠ p := fun z => by subst z; rw [up_same] at nq; cases nq
    walk_at "rr"
    have lA := hA.length
    have h1 : up (up (up L b o2) p (.lst A)) q (.lst (fs.map fD)) p = some (.lst A) := by rw [up_ne n21.symm, up_same]
    have h2 : up (up (up L b o2) p (.lst A)) q (.lst (fs.map fD)) q = some (.lst (fs.map fD)) := up_same
    generalize up (up (up L b o2) p (.lst A)) q (.lst (fs.map fD)) = M at S4 h1 h2
    refine S4.dr (by omega) (by decide) (by decide) fun n o3 hn S5 => ?_
    have h1' : up M b o3 p = some (.lst A) := by rw [up_ne f1.ne]; exact h1
    have h2' : up M b o3 q = some (.lst (fs.map fD)) := by rw [up_ne f2.ne]; exact h2
    generalize up M b o3 = N at S5 h1' h2'
    walk_at "rr"
    have sc : Same 5 N (.tup (cs.map cD)) (.tup (cs.map cD)) := ⟨sz (n := 100) (by omega) (by decide), all_same cD same_c cs⟩
    have sf : Same 5 N (.tup (fs.map fD)) (.tup (fs.map fD)) := ⟨sz (n := 100) (by omega) (by decide), all_same fD same_f fs⟩
    by_cases c : (n : Int) = 0
    · rw [if_pos c, seq_ref h1', seq_ref h2']
      walk_at "rr"
      refine net rfl rfl hA g ?_
      walk_at "rr"
      refine ⟨F.hc, F.n1, _, rfl, F.hc, F.n2, _, rfl, same_e ⟨szl (by show 2 ≤ 1000; decide), .cons sc (.cons sf .nil)⟩ ?_⟩
      walk_at "rr"
      exact once_1 F S5 (T2 := T + 3000) (by omega) (by omega) h g f1 f2 n21 h1' h2' (by omega)
    · rw [if_neg c]
      refine net (seq_ref h1') (seq_ref h2') hA g ?_
      walk_at "rr"
      refine ⟨F.hc, F.n1, _, rfl, F.hc, F.n2, _, rfl, same_e ⟨szl (by show 2 ≤ 1000; decide), .cons sc (.cons sf .nil)⟩ ?_⟩
      walk_at "rr"
      exact once_1 F S5 (T2 := T + 3000) (by omega) (by omega) h g f1 f2 n21 h1' h2' (by omega)
  · exact h.elim
theorem rd_law : RD_law K := by
  intro ds L Q E h
  unfold sp_law at h
  split at h
  · rename_i d
    obtain ⟨ns, hd, hT, h⟩ := h
    unfold t_law
    walk_at "s0"
    walk_at "rr"
    refine ⟨ns, hd, fun b o nb hB => ?_⟩
    walk_at "rr"
    refine ⟨by decide, by decide, ?_⟩
    refine for_r (fun i τ' L' => (∃ o2, τ' = [some d, some (.ref b), o2]) ∧ ∃ o, IsBag (4000 * i) o ∧ L' = up L b o) ⟨⟨_, rfl⟩, o, hB, rfl⟩ (fun _ _ _ _ _ => trivial) ?_ ?_
    · rintro i τ' L' hi ⟨⟨o2, rfl⟩, o, hB, rfl⟩
      unfold t_law_1
      walk_at "rr"
      refine ⟨o, _, up_same, hB, by omega, hT.up (fun q e => by rw [nb] at e; cases e) (bag_tab hB), fun o3 hB3 => ?_⟩
      walk_at "rr"
      exact .mk ⟨⟨_, rfl⟩, o3, hB3.le (by omega), rfl⟩
    · rintro τ' L' ⟨⟨o2, rfl⟩, o, hB, rfl⟩
      walk_at "rr"
      exact Dn.mk (h _)
  · exact h.elim
end Hd

namespace Hd
open PySem PySem.Spec PyProof.Rows L2 Z
theorem ex_gcd {K : PySem.W.Frag} {mg : Str → Option Value} (C : Hc K mg) : extB K "gcd" "math.gcd" = true := (He.ba C.more).1
theorem ec_BadNet {K : PySem.W.Frag} {mg : Str → Option Value} (C : Hc K mg) : ExcC K (He.ga K "BadNet") := excC_ok (He.ba (He.ba C.more).2).1
theorem xf_BadNet {K : PySem.W.Frag} {mg : Str → Option Value} (C : Hc K mg) : XfC K (He.ga K "BadNet") := xfB_ok (He.ba (He.ba (He.ba C.more).2).2).1
theorem ic_Net {K : PySem.W.Frag} {mg : Str → Option Value} (C : Hc K mg) : InsC K (He.ga K "Net") := insC_ok (cl_Net C) (He.ba (He.ba (He.ba (He.ba C.more).2).2).2).1
theorem kv_BadNet {K : PySem.W.Frag} {mg : Str → Option Value} (C : Hc K mg) : PySem.W.kitOne K (.ref (He.ga K "BadNet")) (.type "ValueError") = some true := of_decide_eq_true (He.ba (He.ba (He.ba (He.ba (He.ba C.more).2).2).2).2).1
theorem su_BadNet {K : PySem.W.Frag} {mg : Str → Option Value} (C : Hc K mg) : supB PySem.Challenge.pw_mostlaid_k18_nets_told.main.file K "BadNet" = true := (He.ba (He.ba (He.ba (He.ba (He.ba C.more).2).2).2).2).2
/-- the own errors with an own __init__ -/
structure Sups (P : Program) (K : PySem.W.Frag) : Prop where
  BadNet : SupF P K (He.ga K "BadNet") (supAt K "BadNet") "__init__" "BadNet.__init__" (defArgs s_BadNet_init) (defBody s_BadNet_init) (defScope s_BadNet_init)
  top : (P.main.scope.names.lookup ("super" : Str)).isSome = false
theorem no_BadNet {K : PySem.W.Frag} {mg : Str → Option Value} (C : Hc K mg) : True := trivial
theorem no_BadNet_word {K : PySem.W.Frag} {mg : Str → Option Value} (C : Hc K mg) : PySem.W.findIn K (.ref (He.ga K "BadNet")) "word" = some none := na_BadNet_word C
theorem no_BadNet_index {K : PySem.W.Frag} {mg : Str → Option Value} (C : Hc K mg) : PySem.W.findIn K (.ref (He.ga K "BadNet")) "index" = some none := na_BadNet_index C
theorem mk_BadNet {X : Cx} (C : Hc X.K X.mg) (SP : Sups X.prog X.K) (hr : Room 2 X.A) {e1 e2 : Expr} {p pos : Pos} {ta : TA} (hg : Gl X "BadNet") (ha : PA X [e1, e2] ta) (he : starEach [e1, e2] X.env = (false, eval e1 X.env) :: starEach [e2] X.env := by rfl) (hpl : (backTo pos (starEach [e2] X.env)).any (·.1) = false := by rfl) :
    PMk X (.Call (.Name "BadNet" p) [e1, e2] [] pos) (fun σ H Q => ta σ H fun vs H1 => ∃ v1 v2, vs = [v1, v2] ∧ ∀ d, H1 d = none → Q (.ref (He.ga X.K "BadNet")) (some d) (upd H1 d (.xd [("index", v2), ("word", v1)]))) :=
  pmk_sup2 SP.BadNet hr hg (g_BadNet C) (fr_super C) SP.top (fun _ _ => ⟨fun _ => rfl, fun _ => rfl, fun _ => ⟨_, rfl⟩⟩) rfl rfl rfl (fun _ _ _ _ _ _ _ _ _ _ => rfl) (by decide) (by decide) (by decide) rfl rfl rfl rfl rfl rfl rfl rfl (by decide +kernel) (by decide) (by decide) (by decide) (fun _ _ _ => rfl) (fun _ _ _ => rfl) (no_BadNet_word C) (no_BadNet_index C) ha (by decide) he hpl
theorem sc_law_try : FnScope ["_law_ask", "e"] ["_law_ask"] (defScope s_law_try) := ⟨rfl, rfl, rfl, by decide +kernel, rfl, by decide +kernel, by decide +kernel⟩
theorem bd_law_try {K : PySem.W.Frag} {mg : Str → Option Value} (C : Hc K mg) : Binds K (fdAt K (("_law_try", none))) ["_law_ask"] [] := (f_law_try C).bindsN fun _ _ _ _ _ _ us hl => match us, hl with | [_], _ => rfl
theorem gv_law_try {X : Cx} (C : Hc X.K X.mg) (cdv : Value) (q : Str) : LamX.GivesTo X ["_law_ask", "e"] "_law_try" (defScope s_law_try) (He.fAd X.K (("_law_try", none))) cdv (defBody s_law_try) "_law_ask" q (TTh X.K (He.ga X.K "Refused") (ts_law_try X.K) (tr_law_try X.K)) :=
  told_as rfl (g_Refused C) (by decide) (by decide) rfl (fun A outer s H aa oe CC od pn hz hf => (qs_one (qs_if (tw (tw_and (t_tru (q_isE2 (v := .ref _) hz hf (pe_glob rfl (g_BadNet C) rfl) (fun _ h => h) rfl (fr_isinstance C) (qv 1))) (tw_and1 (t_tru (q_isE2 (v := .ty "ValueError") hz hf (pe_bltn rfl (fr_ValueError C) (by decide +kernel) rfl) (fun _ h => h) rfl (fr_isinstance C) (qv 1)))))) (qs_one (qs_ret (q_tup (qa_cons (qcon (.str "BadNet") pe_str fun _ => .str _) (qa_cons (q_xf hz hf (qv 1)) (qa_cons (q_xf hz hf (qv 1)) qa_nil)))))) qs_nil))) (fun A outer s H => (qs_one (qs_ret (q_tup (qa_cons (qcon (.str "other") pe_str fun _ => .str _) qa_nil)))))
/-! is_integer -/
theorem sc_is_integer : FnScope ["value"] ["value"] (defScope s_is_integer) := ⟨rfl, rfl, rfl, by decide +kernel, rfl, by decide +kernel, by decide +kernel⟩
theorem kp_is_integer {K : PySem.W.Frag} {mg : Str → Option Value} (C : Hc K mg) : PySem.W.keepIn K (.ref (He.fAd K (("is_integer", none)))) = true := (f_is_integer C).kp
theorem bd_is_integer {K : PySem.W.Frag} {mg : Str → Option Value} (C : Hc K mg) : Binds K (fdAt K (("is_integer", none))) ["value"] [] := (f_is_integer C).bindsN fun _ _ _ _ _ _ us hl => match us, hl with | [_], _ => rfl
theorem dv_is_integer {P : Program} {w : World} {K : PySem.W.Frag} {mg : Str → Option Value} {base : Heap} (C : Hc K mg) 
    (cdv : Value) (A : Around) (outer : List Env) (s : Shared) (H : Hp) (E : XK) (hr : Room 0 (A.deeper (envOfC "is_integer" (defScope s_is_integer) s.heap.objs.size (He.fAd K (("is_integer", none))) cdv))) :
    QSs (cxOf CX0 P w K mg base ["value"] "is_integer" (defScope s_is_integer) (He.fAd K (("is_integer", none))) cdv A outer s H E) (defBody s_is_integer) (t_is_integer K) :=
  (qs_one (qs_ret (q_and (q_cb call_isi (l_isi "int" (by decide)) (by rfl) (fr_isinstance C) (by decide +kernel) (qa_cons (qv 0) (qa_cons (q_ty rfl (fr_int C) (by decide +kernel)) qa_nil))) (q_one (q_not (q_cb call_isi (l_isi "bool" (by decide)) (by rfl) (fr_isinstance C) (by decide +kernel) (qa_cons (qv 0) (qa_cons (q_ty rfl (fr_bool C) (by decide +kernel)) qa_nil))))))))
/-! lowest -/
theorem sc_lowest : FnScope ["n", "d", "shared"] ["n", "d"] (defScope s_lowest) := ⟨rfl, rfl, rfl, by decide +kernel, rfl, by decide +kernel, by decide +kernel⟩
theorem kp_lowest {K : PySem.W.Frag} {mg : Str → Option Value} (C : Hc K mg) : PySem.W.keepIn K (.ref (He.fAd K (("lowest", none)))) = true := (f_lowest C).kp
theorem bd_lowest {K : PySem.W.Frag} {mg : Str → Option Value} (C : Hc K mg) : Binds K (fdAt K (("lowest", none))) ["n", "d"] [] := (f_lowest C).bindsN fun _ _ _ _ _ _ us hl => match us, hl with | [_, _], _ => rfl
theorem dv_lowest {P : Program} {w : World} {K : PySem.W.Frag} {mg : Str → Option Value} {base : Heap} (C : Hc K mg) 
    (cdv : Value) (A : Around) (outer : List Env) (s : Shared) (H : Hp) (E : XK) (hr : Room 0 (A.deeper (envOfC "lowest" (defScope s_lowest) s.heap.objs.size (He.fAd K (("lowest", none))) cdv))) :
    QSs (cxOf CX0 P w K mg base ["n", "d", "shared"] "lowest" (defScope s_lowest) (He.fAd K (("lowest", none))) cdv A outer s H E) (defBody s_lowest) (t_lowest K) :=
  (qs_cons (qs_set (i := 2) sc_lowest.nd rfl (Or.inl rfl) (q_gcd (e_gcd C (ex_gcd C)) (qa_cons (qv 0) (qa_cons (qv 1) qa_nil))))
    (qs_cons (qs_if (t_cmp op_lt l_lt (qv 1) (qcon (.int 0) pe_int fun _ => .int _) (nomark _)) (qs_one (qs_set (i := 2) sc_lowest.nd rfl (Or.inl rfl) (q_un un_neg l_neg (qv 2)))) qs_nil)
    (qs_one (qs_ret (q_tup (qa_cons (q_op op_fdivW l_fdiv (qv 0) (qv 2)) (qa_cons (q_op op_fdivW l_fdiv (qv 1) (qv 2)) qa_nil)))))))
/-! exact -/
theorem sc_exact : FnScope ["value", "n", "d", "found"] ["value"] (defScope s_exact) := ⟨rfl, rfl, rfl, by decide +kernel, rfl, by decide +kernel, by decide +kernel⟩
theorem kp_exact {K : PySem.W.Frag} {mg : Str → Option Value} (C : Hc K mg) : PySem.W.keepIn K (.ref (He.fAd K (("exact", none)))) = true := (f_exact C).kp
theorem bd_exact {K : PySem.W.Frag} {mg : Str → Option Value} (C : Hc K mg) : Binds K (fdAt K (("exact", none))) ["value"] [] := (f_exact C).bindsN fun _ _ _ _ _ _ us hl => match us, hl with | [_], _ => rfl
theorem dv_exact {P : Program} {w : World} {K : PySem.W.Frag} {mg : Str → Option Value} {base : Heap} (C : Hc K mg) (G_is_integer : FnOk P w K mg base CX0 1 (He.fAd K (("is_integer", none))) (fdAt K (("is_integer", none))) ["value"] (lSp K sp_is_integer)) (G_lowest : FnOk P w K mg base CX0 1 (He.fAd K (("lowest", none))) (fdAt K (("lowest", none))) ["n", "d"] (lSp K sp_lowest))
    (cdv : Value) (A : Around) (outer : List Env) (s : Shared) (H : Hp) (E : XK) (hr : Room 2 (A.deeper (envOfC "exact" (defScope s_exact) s.heap.objs.size (He.fAd K (("exact", none))) cdv))) :
    QSs (cxOf CX0 P w K mg base ["value", "n", "d", "found"] "exact" (defScope s_exact) (He.fAd K (("exact", none))) cdv A outer s H E) (defBody s_exact) (t_exact K) :=
  (qs_cons (qs_if (t_tru (q_call G_is_integer (hr.mono (by decide)) rfl (g_is_integer C) (kp_is_integer C) (bd_is_integer C) (qa_cons (qv 0) qa_nil))) (qs_one (qs_ret (q_tup (qa_cons (qv 0) (qa_cons (qcon (.int 1) pe_int fun _ => .int _) qa_nil))))) qs_nil)
    (qs_cons (qs_if (tw (tw_and (t_tru (q_cb call_isi (l_isi "tuple" (by decide)) (by rfl) (fr_isinstance C) (by decide +kernel) (qa_cons (qv 0) (qa_cons (q_ty rfl (fr_tuple C) (by decide +kernel)) qa_nil)))) (tw_and1 (t_cmp (o_eq (hu64 hr)) l_eq (q_cb call_len l_len (by rfl) (fr_len C) PySem.boot_len (qa_cons (qv 0) qa_nil)) (qcon (.int 2) pe_int fun _ => .int _) (nomark _))))) (qs_cons (qs_asg (qv 0) (g_tup rfl (g_cons (g_name (i := 1) sc_exact.nd rfl (Or.inl rfl)) (g_cons (g_name (i := 2) sc_exact.nd rfl (Or.inl rfl)) g_nil))))
    (qs_one (qs_if (tw (tw_and (t_tru (q_call G_is_integer (hr.mono (by decide)) rfl (g_is_integer C) (kp_is_integer C) (bd_is_integer C) (qa_cons (qv 1) qa_nil))) (tw_and (t_tru (q_call G_is_integer (hr.mono (by decide)) rfl (g_is_integer C) (kp_is_integer C) (bd_is_integer C) (qa_cons (qv 2) qa_nil))) (tw_and1 (t_cmp (o_ne (hu64 hr)) l_ne (qv 2) (qcon (.int 0) pe_int fun _ => .int _) (nomark _)))))) (qs_one (qs_ret (q_call G_lowest (hr.mono (by decide)) rfl (g_lowest C) (kp_lowest C) (bd_lowest C) (qa_cons (qv 1) (qa_cons (qv 2) qa_nil))))) qs_nil))) qs_nil)
    (qs_cons (qs_if (t_tru (q_cb call_isi (l_isi "str" (by decide)) (by rfl) (fr_isinstance C) (by decide +kernel) (qa_cons (qv 0) (qa_cons (q_ty rfl (fr_str C) (by decide +kernel)) qa_nil)))) (qs_cons qs_never
    (qs_one (qs_if (t_cmp op_notN l_notN (qv 3) (qcon .non pe_non fun _ => .non) (nomark _)) (qs_one (qs_ret (qv 3))) qs_nil))) qs_nil)
    (qs_one qs_never))))
/-! is_number -/
theorem sc_is_number : FnScope ["value", "n", "d"] ["value"] (defScope s_is_number) := ⟨rfl, rfl, rfl, by decide +kernel, rfl, by decide +kernel, by decide +kernel⟩
theorem kp_is_number {K : PySem.W.Frag} {mg : Str → Option Value} (C : Hc K mg) : PySem.W.keepIn K (.ref (He.fAd K (("is_number", none)))) = true := (f_is_number C).kp
theorem bd_is_number {K : PySem.W.Frag} {mg : Str → Option Value} (C : Hc K mg) : Binds K (fdAt K (("is_number", none))) ["value"] [] := (f_is_number C).bindsN fun _ _ _ _ _ _ us hl => match us, hl with | [_], _ => rfl
theorem dv_is_number {P : Program} {w : World} {K : PySem.W.Frag} {mg : Str → Option Value} {base : Heap} (C : Hc K mg) (G_is_integer : FnOk P w K mg base CX0 1 (He.fAd K (("is_integer", none))) (fdAt K (("is_integer", none))) ["value"] (lSp K sp_is_integer))
    (cdv : Value) (A : Around) (outer : List Env) (s : Shared) (H : Hp) (E : XK) (hr : Room 1 (A.deeper (envOfC "is_number" (defScope s_is_number) s.heap.objs.size (He.fAd K (("is_number", none))) cdv))) :
    QSs (cxOf CX0 P w K mg base ["value", "n", "d"] "is_number" (defScope s_is_number) (He.fAd K (("is_number", none))) cdv A outer s H E) (defBody s_is_number) (t_is_number K) :=
  (qs_cons (qs_if (t_tru (q_call G_is_integer (hr.mono (by decide)) rfl (g_is_integer C) (kp_is_integer C) (bd_is_integer C) (qa_cons (qv 0) qa_nil))) (qs_one (qs_ret (qcon (.bl true) pe_bl fun _ => .bl _))) qs_nil)
    (qs_cons (qs_if (tw (tw_or (t_not (t_tru (q_cb call_isi (l_isi "tuple" (by decide)) (by rfl) (fr_isinstance C) (by decide +kernel) (qa_cons (qv 0) (qa_cons (q_ty rfl (fr_tuple C) (by decide +kernel)) qa_nil))))) (tw_or1 (t_cmp (o_ne (hu64 hr)) l_ne (q_cb call_len l_len (by rfl) (fr_len C) PySem.boot_len (qa_cons (qv 0) qa_nil)) (qcon (.int 2) pe_int fun _ => .int _) (nomark _))))) (qs_one (qs_ret (qcon (.bl false) pe_bl fun _ => .bl _))) qs_nil)
    (qs_cons (qs_asg (qv 0) (g_tup rfl (g_cons (g_name (i := 1) sc_is_number.nd rfl (Or.inl rfl)) (g_cons (g_name (i := 2) sc_is_number.nd rfl (Or.inl rfl)) g_nil))))
    (qs_cons (qs_if (tw (tw_or (t_not (t_tru (q_call G_is_integer (hr.mono (by decide)) rfl (g_is_integer C) (kp_is_integer C) (bd_is_integer C) (qa_cons (qv 1) qa_nil)))) (tw_or1 (t_not (t_tru (q_call G_is_integer (hr.mono (by decide)) rfl (g_is_integer C) (kp_is_integer C) (bd_is_integer C) (qa_cons (qv 2) qa_nil))))))) (qs_one (qs_ret (qcon (.bl false) pe_bl fun _ => .bl _))) qs_nil)
    (qs_one (qs_ret (q_and (q_cmp op_gt l_gt (qv 2) (qcon (.int 0) pe_int fun _ => .int _) (nomark _)) (q_one (q_cmp (o_eq (hu64 hr)) l_eq (q_gcd (e_gcd C (ex_gcd C)) (qa_cons (qv 1) (qa_cons (qv 2) qa_nil))) (qcon (.int 1) pe_int fun _ => .int _) (nomark _))))))))))
/-! _is_corner -/
theorem sc_is_corner : FnScope ["value", "one"] ["value"] (defScope s_is_corner) := ⟨rfl, rfl, rfl, by decide +kernel, rfl, by decide +kernel, by decide +kernel⟩
theorem kp_is_corner {K : PySem.W.Frag} {mg : Str → Option Value} (C : Hc K mg) : PySem.W.keepIn K (.ref (He.fAd K (("_is_corner", none)))) = true := (f_is_corner C).kp
theorem bd_is_corner {K : PySem.W.Frag} {mg : Str → Option Value} (C : Hc K mg) : Binds K (fdAt K (("_is_corner", none))) ["value"] [] := (f_is_corner C).bindsN fun _ _ _ _ _ _ us hl => match us, hl with | [_], _ => rfl
theorem dv_is_corner {P : Program} {w : World} {K : PySem.W.Frag} {mg : Str → Option Value} {base : Heap} (C : Hc K mg) (G_is_number : FnOk P w K mg base CX0 2 (He.fAd K (("is_number", none))) (fdAt K (("is_number", none))) ["value"] (lSp K sp_is_number))
    (cdv : Value) (A : Around) (outer : List Env) (s : Shared) (H : Hp) (E : XK) (hr : Room 2 (A.deeper (envOfC "_is_corner" (defScope s_is_corner) s.heap.objs.size (He.fAd K (("_is_corner", none))) cdv))) :
    QSs (cxOf CX0 P w K mg base ["value", "one"] "_is_corner" (defScope s_is_corner) (He.fAd K (("_is_corner", none))) cdv A outer s H E) (defBody s_is_corner) (t_is_corner K) :=
  (qs_one (qs_ret (q_and (q_cb call_isi (l_isi "tuple" (by decide)) (by rfl) (fr_isinstance C) (by decide +kernel) (qa_cons (qv 0) (qa_cons (q_ty rfl (fr_tuple C) (by decide +kernel)) qa_nil))) (q_and (q_cmp (o_eq (hu64 hr)) l_eq (q_cb call_len l_len (by rfl) (fr_len C) PySem.boot_len (qa_cons (qv 0) qa_nil)) (qcon (.int 3) pe_int fun _ => .int _) (nomark _)) (q_one (q_cb (cr_all rfl) l_allF (by rfl) (fr_all C) (by decide +kernel) (qa_cons (q_lcF (own := [("one", 1)]) rfl sc_is_corner.nd (i_seq (qv 0)) (blkOk_by (own := [("one", 1)]) (by kernel_rfl)) (fun _ _ _ _ _ => (gp_name (i := 1) sc_is_corner.nd rfl (Or.inl rfl) (by decide))) (fun _ _ _ _ _ => ts_nil) (fun _ _ _ _ _ => (q_call G_is_number (hr.mono (by decide)) rfl (g_is_number C) (kp_is_number C) (bd_is_number C) (qa_cons (qv 1) qa_nil)))) qa_nil)))))))
/-! _is_index -/
theorem sc_is_index : FnScope ["value", "many"] ["value", "many"] (defScope s_is_index) := ⟨rfl, rfl, rfl, by decide +kernel, rfl, by decide +kernel, by decide +kernel⟩
theorem kp_is_index {K : PySem.W.Frag} {mg : Str → Option Value} (C : Hc K mg) : PySem.W.keepIn K (.ref (He.fAd K (("_is_index", none)))) = true := (f_is_index C).kp
theorem bd_is_index {K : PySem.W.Frag} {mg : Str → Option Value} (C : Hc K mg) : Binds K (fdAt K (("_is_index", none))) ["value", "many"] [] := (f_is_index C).bindsN fun _ _ _ _ _ _ us hl => match us, hl with | [_, _], _ => rfl
theorem dv_is_index {P : Program} {w : World} {K : PySem.W.Frag} {mg : Str → Option Value} {base : Heap} (C : Hc K mg) 
    (cdv : Value) (A : Around) (outer : List Env) (s : Shared) (H : Hp) (E : XK) (hr : Room 0 (A.deeper (envOfC "_is_index" (defScope s_is_index) s.heap.objs.size (He.fAd K (("_is_index", none))) cdv))) :
    QSs (cxOf CX0 P w K mg base ["value", "many"] "_is_index" (defScope s_is_index) (He.fAd K (("_is_index", none))) cdv A outer s H E) (defBody s_is_index) (t_is_index K) :=
  (qs_one (qs_ret (q_and (q_cb call_isi (l_isi "int" (by decide)) (by rfl) (fr_isinstance C) (by decide +kernel) (qa_cons (qv 0) (qa_cons (q_ty rfl (fr_int C) (by decide +kernel)) qa_nil))) (q_and (q_not (q_cb call_isi (l_isi "bool" (by decide)) (by rfl) (fr_isinstance C) (by decide +kernel) (qa_cons (qv 0) (qa_cons (q_ty rfl (fr_bool C) (by decide +kernel)) qa_nil)))) (q_one (q_chain op_le op_lt l_le l_lt (qcon (.int 0) pe_int fun _ => .int _) (qv 0) (qv 1)))))))
/-! _is_face -/
theorem sc_is_face : FnScope ["value", "many", "one"] ["value", "many"] (defScope s_is_face) := ⟨rfl, rfl, rfl, by decide +kernel, rfl, by decide +kernel, by decide +kernel⟩
theorem kp_is_face {K : PySem.W.Frag} {mg : Str → Option Value} (C : Hc K mg) : PySem.W.keepIn K (.ref (He.fAd K (("_is_face", none)))) = true := (f_is_face C).kp
theorem bd_is_face {K : PySem.W.Frag} {mg : Str → Option Value} (C : Hc K mg) : Binds K (fdAt K (("_is_face", none))) ["value", "many"] [] := (f_is_face C).bindsN fun _ _ _ _ _ _ us hl => match us, hl with | [_, _], _ => rfl
theorem dv_is_face {P : Program} {w : World} {K : PySem.W.Frag} {mg : Str → Option Value} {base : Heap} (C : Hc K mg) (G_is_index : FnOk P w K mg base CX0 1 (He.fAd K (("_is_index", none))) (fdAt K (("_is_index", none))) ["value", "many"] (lSp K sp_is_index))
    (cdv : Value) (A : Around) (outer : List Env) (s : Shared) (H : Hp) (E : XK) (hr : Room 1 (A.deeper (envOfC "_is_face" (defScope s_is_face) s.heap.objs.size (He.fAd K (("_is_face", none))) cdv))) :
    QSs (cxOf CX0 P w K mg base ["value", "many", "one"] "_is_face" (defScope s_is_face) (He.fAd K (("_is_face", none))) cdv A outer s H E) (defBody s_is_face) (t_is_face K) :=
  (qs_one (qs_ret (q_and (q_cb call_isi (l_isi "tuple" (by decide)) (by rfl) (fr_isinstance C) (by decide +kernel) (qa_cons (qv 0) (qa_cons (q_ty rfl (fr_tuple C) (by decide +kernel)) qa_nil))) (q_and (q_cmp (o_eq (hu64 hr)) l_eq (q_cb call_len l_len (by rfl) (fr_len C) PySem.boot_len (qa_cons (qv 0) qa_nil)) (qcon (.int 3) pe_int fun _ => .int _) (nomark _)) (q_one (q_cb (cr_all rfl) l_allF (by rfl) (fr_all C) (by decide +kernel) (qa_cons (q_lcF (own := [("one", 2)]) rfl sc_is_face.nd (i_seq (qv 0)) (blkOk_by (own := [("one", 2)]) (by kernel_rfl)) (fun _ _ _ _ _ => (gp_name (i := 2) sc_is_face.nd rfl (Or.inl rfl) (by decide))) (fun _ _ _ _ _ => ts_nil) (fun _ _ _ _ _ => (q_call G_is_index (hr.mono (by decide)) rfl (g_is_index C) (kp_is_index C) (bd_is_index C) (qa_cons (qv 2) (qa_cons (qv 1) qa_nil))))) qa_nil)))))))
/-! Net.__init__ -/
theorem sc_Net_init : FnScope ["self", "corners", "faces", "at", "corner", "face", "one"] ["self", "corners", "faces"] (defScope s_Net_init) := ⟨rfl, rfl, rfl, by decide +kernel, rfl, by decide +kernel, by decide +kernel⟩
theorem kp_Net_init {K : PySem.W.Frag} {mg : Str → Option Value} (C : Hc K mg) : PySem.W.keepIn K (.ref (He.fAd K (("Net", some "__init__")))) = true := (f_Net_init C).kp
theorem bd_Net_init {K : PySem.W.Frag} {mg : Str → Option Value} (C : Hc K mg) : Binds K (fdAt K (("Net", some "__init__"))) ["self", "corners", "faces"] [] := (f_Net_init C).bindsN fun _ _ _ _ _ _ us hl => match us, hl with | [_, _, _], _ => rfl
theorem dv_Net_init {P : Program} {w : World} {K : PySem.W.Frag} {mg : Str → Option Value} {base : Heap} (C : Hc K mg) (G_is_corner : FnOk P w K mg base CX0 3 (He.fAd K (("_is_corner", none))) (fdAt K (("_is_corner", none))) ["value"] (lSp K sp_is_corner)) (G_is_face : FnOk P w K mg base CX0 2 (He.fAd K (("_is_face", none))) (fdAt K (("_is_face", none))) ["value", "many"] (lSp K sp_is_face)) (G_exact : FnOk P w K mg base CX0 3 (He.fAd K (("exact", none))) (fdAt K (("exact", none))) ["value"] (lSp K sp_exact)) (SP : Sups P K)
    (cdv : Value) (A : Around) (outer : List Env) (s : Shared) (H : Hp) (E : XK) (E' : XK') (hr : Room 3 (A.deeper (envOfC "Net.__init__" (defScope s_Net_init) s.heap.objs.size (He.fAd K (("Net", some "__init__"))) cdv))) (hE : LinkE K H E' E) :
    QSs (cxOf (L2.CX P w) P w K mg base ["self", "corners", "faces", "at", "corner", "face", "one"] "Net.__init__" (defScope s_Net_init) (He.fAd K (("Net", some "__init__"))) cdv A outer s H E) (defBody s_Net_init) (t_Net_init K E') :=
  (qs_cons (qs_for hpX rfl (i_enumG (qv 1) (by rfl) (fr_enumerate C)) (g_tup rfl (g_cons (g_name (i := 3) sc_Net_init.nd rfl (Or.inl rfl)) (g_cons (g_name (i := 4) sc_Net_init.nd rfl (Or.inl rfl)) g_nil))) (qs_one (qs_if (t_not (t_tru (q_call G_is_corner (hr.mono (by decide)) rfl (g_is_corner C) (kp_is_corner C) (bd_is_corner C) (qa_cons (qv 4) qa_nil)))) (qs_one (qs_raise2 rfl takes_def hE (fun ta ha => mk_BadNet C SP (hr.mono (by decide)) rfl ha) (qa_cons (qcon (.str "corner") pe_str fun _ => .str _) (qa_cons (qv 3) qa_nil)))) qs_nil)))
    (qs_cons (qs_for hpX rfl (i_enumG (qv 2) (by rfl) (fr_enumerate C)) (g_tup rfl (g_cons (g_name (i := 3) sc_Net_init.nd rfl (Or.inl rfl)) (g_cons (g_name (i := 5) sc_Net_init.nd rfl (Or.inl rfl)) g_nil))) (qs_one (qs_if (t_not (t_tru (q_call G_is_face (hr.mono (by decide)) rfl (g_is_face C) (kp_is_face C) (bd_is_face C) (qa_cons (qv 5) (qa_cons (q_cb call_len l_len (by rfl) (fr_len C) PySem.boot_len (qa_cons (qv 1) qa_nil)) qa_nil))))) (qs_one (qs_raise2 rfl takes_def hE (fun ta ha => mk_BadNet C SP (hr.mono (by decide)) rfl ha) (qa_cons (qcon (.str "face") pe_str fun _ => .str _) (qa_cons (qv 3) qa_nil)))) qs_nil)))
    (qs_cons (qs_fld (qv 0) (q_cty call_tuple_of l_tuple (by rfl) (fr_tuple C) (by decide +kernel) (qa_cons (q_lcF (own := [("corner", 4)]) rfl sc_Net_init.nd (i_seq (qv 1)) (blkOk_by (own := [("corner", 4)]) (by kernel_rfl)) (fun _ _ _ _ _ => (gp_name (i := 4) sc_Net_init.nd rfl (Or.inl rfl) (by decide))) (fun _ _ _ _ _ => ts_nil) (fun _ _ _ _ _ => (q_cty call_tuple_of l_tuple (by rfl) (fr_tuple C) (by decide +kernel) (qa_cons (q_lcF (own := [("one", 6)]) rfl sc_Net_init.nd (i_seq (qv 4)) (blkOk_by (own := [("one", 6)]) (by kernel_rfl)) (fun _ _ _ _ _ => (gp_name (i := 6) sc_Net_init.nd rfl (Or.inl rfl) (by decide))) (fun _ _ _ _ _ => ts_nil) (fun _ _ _ _ _ => (q_call G_exact (hr.mono (by decide)) rfl (g_exact C) (kp_exact C) (bd_exact C) (qa_cons (qv 6) qa_nil)))) qa_nil)))) qa_nil)))
    (qs_one (qs_fld (qv 0) (q_cty call_tuple_of l_tuple (by rfl) (fr_tuple C) (by decide +kernel) (qa_cons (qv 2) qa_nil)))))))
/-! Net.__eq__ -/
theorem sc_Net_eq : FnScope ["self", "other"] ["self", "other"] (defScope s_Net_eq) := ⟨rfl, rfl, rfl, by decide +kernel, rfl, by decide +kernel, by decide +kernel⟩
theorem kp_Net_eq {K : PySem.W.Frag} {mg : Str → Option Value} (C : Hc K mg) : PySem.W.keepIn K (.ref (He.fAd K (("Net", some "__eq__")))) = true := (f_Net_eq C).kp
theorem bd_Net_eq {K : PySem.W.Frag} {mg : Str → Option Value} (C : Hc K mg) : Binds K (fdAt K (("Net", some "__eq__"))) ["self", "other"] [] := (f_Net_eq C).bindsN fun _ _ _ _ _ _ us hl => match us, hl with | [_, _], _ => rfl
theorem dv_Net_eq {P : Program} {w : World} {K : PySem.W.Frag} {mg : Str → Option Value} {base : Heap} (C : Hc K mg) 
    (cdv : Value) (A : Around) (outer : List Env) (s : Shared) (H : Hp) (E : XK) (hr : Room 0 (A.deeper (envOfC "Net.__eq__" (defScope s_Net_eq) s.heap.objs.size (He.fAd K (("Net", some "__eq__"))) cdv))) :
    QSs (cxOf CX0 P w K mg base ["self", "other"] "Net.__eq__" (defScope s_Net_eq) (He.fAd K (("Net", some "__eq__"))) cdv A outer s H E) (defBody s_Net_eq) (t_Net_eq K) :=
  (qs_one (qs_ret (q_and (q_isO (v := .ref _) (pe_glob rfl (g_Net C) rfl) (fun _ h => h) rfl (fr_isinstance C) (qv 1)) (q_and (q_cmp (o_eq (hu64 hr)) l_eq (q_fldF (qv 0)) (q_fldF (qv 1)) (nomark _)) (q_one (q_cmp (o_eq (hu64 hr)) l_eq (q_fldF (qv 0)) (q_fldF (qv 1)) (nomark _)))))))
/-! _law_bag -/
theorem sc_law_bag : FnScope ["_law_script", "_law_mixed", "_law_cell"] ["_law_script"] (defScope s_law_bag) := ⟨rfl, rfl, rfl, by decide +kernel, rfl, by decide +kernel, by decide +kernel⟩
theorem kp_law_bag {K : PySem.W.Frag} {mg : Str → Option Value} (C : Hc K mg) : PySem.W.keepIn K (.ref (He.fAd K (("_law_bag", none)))) = true := (f_law_bag C).kp
theorem bd_law_bag {K : PySem.W.Frag} {mg : Str → Option Value} (C : Hc K mg) : Binds K (fdAt K (("_law_bag", none))) ["_law_script"] [] := (f_law_bag C).bindsN fun _ _ _ _ _ _ us hl => match us, hl with | [_], _ => rfl
theorem dv_law_bag {P : Program} {w : World} {K : PySem.W.Frag} {mg : Str → Option Value} {base : Heap} (C : Hc K mg) 
    (cdv : Value) (A : Around) (outer : List Env) (s : Shared) (H : Hp) (E : XK) (hr : Room 0 (A.deeper (envOfC "_law_bag" (defScope s_law_bag) s.heap.objs.size (He.fAd K (("_law_bag", none))) cdv))) :
    QSs (cxOf CX0 P w K mg base ["_law_script", "_law_mixed", "_law_cell"] "_law_bag" (defScope s_law_bag) (He.fAd K (("_law_bag", none))) cdv A outer s H E) (defBody s_law_bag) (t_law_bag K) :=
  (qs_cons (qs_set (i := 1) sc_law_bag.nd rfl (Or.inl rfl) (qcon (.int 13963) pe_int fun _ => .int _))
    (qs_cons (qs_for hpN rfl (i_seq (q_slF (qv 0) o_none (o_some (qcon (.int 63) pe_int fun _ => .int _)))) (g_name (i := 2) sc_law_bag.nd rfl (Or.inl rfl)) (qs_one (qs_set (i := 1) sc_law_bag.nd rfl (Or.inl rfl) (q_op op_modN l_mod (q_cty call_int1 l_intc (by rfl) (fr_int C) (by decide +kernel) (qa_cons (q_op o_pow l_pow (q_opF o_addR l_addF (q_opF o_addR l_addF (qv 1) (q_op op_modN l_mod (q_cty call_int1 l_intc (by rfl) (fr_int C) (by decide +kernel) (qa_cons (qv 2) qa_nil)) (qcon (.int 18446744073709551557) pe_int fun _ => .int _))) (qcon (.int 389) pe_int fun _ => .int _)) (qcon (.int 3) pe_int fun _ => .int _)) qa_nil)) (qcon (.int 18446744073709551557) pe_int fun _ => .int _)))))
    (qs_one (qs_ret (q_lst (qa_cons (q_ctyF call_list_of l_listF (by rfl) (fr_list C) (by decide +kernel) (qa_cons (q_slF (qv 0) o_none (o_some (qcon (.int 63) pe_int fun _ => .int _))) qa_nil)) (qa_cons (qcon (.int 0) pe_int fun _ => .int _) (qa_cons (qcon (.int 0) pe_int fun _ => .int _) (qa_cons (qv 1) (qa_cons (qcon (.int 0) pe_int fun _ => .int _) qa_nil))))))))))
/-! _law_draw -/
theorem sc_law_draw : FnScope ["_law_bag_here", "_law_many_y", "_law_cell", "_law_digit"] ["_law_bag_here", "_law_many_y"] (defScope s_law_draw) := ⟨rfl, rfl, rfl, by decide +kernel, rfl, by decide +kernel, by decide +kernel⟩
theorem kp_law_draw {K : PySem.W.Frag} {mg : Str → Option Value} (C : Hc K mg) : PySem.W.keepIn K (.ref (He.fAd K (("_law_draw", none)))) = true := (f_law_draw C).kp
theorem bd_law_draw {K : PySem.W.Frag} {mg : Str → Option Value} (C : Hc K mg) : Binds K (fdAt K (("_law_draw", none))) ["_law_bag_here", "_law_many_y"] [] := (f_law_draw C).bindsN fun _ _ _ _ _ _ us hl => match us, hl with | [_, _], _ => rfl
theorem dv_law_draw {P : Program} {w : World} {K : PySem.W.Frag} {mg : Str → Option Value} {base : Heap} (C : Hc K mg) 
    (cdv : Value) (A : Around) (outer : List Env) (s : Shared) (H : Hp) (E : XK) (hr : Room 0 (A.deeper (envOfC "_law_draw" (defScope s_law_draw) s.heap.objs.size (He.fAd K (("_law_draw", none))) cdv))) :
    QSs (cxOf CX0 P w K mg base ["_law_bag_here", "_law_many_y", "_law_cell", "_law_digit"] "_law_draw" (defScope s_law_draw) (He.fAd K (("_law_draw", none))) cdv A outer s H E) (defBody s_law_draw) (t_law_draw K) :=
  (qs_cons (qs_asg (q_opF o_addR l_addF (q_ixk 4 (qv 0) pe_int) (qcon (.int 1) pe_int fun _ => .int _)) (g_sub (qv 0) (qcon (.int 4) pe_int fun _ => .int _)))
    (qs_cons (qs_if (tw (tw_and (t_cmp (o_eq (hu64 hr)) l_eq (q_ixk 2 (qv 0) pe_int) (qcon (.int 0) pe_int fun _ => .int _) (nomark _)) (tw_and1 (t_cmp op_lt l_lt (q_ixk 1 (qv 0) pe_int) (q_cb call_len l_len (by rfl) (fr_len C) PySem.boot_len (qa_cons (q_ixk 0 (qv 0) pe_int) qa_nil)) (nomark _))))) (qs_cons (qs_set (i := 2) sc_law_draw.nd rfl (Or.inl rfl) (q_cty call_int1 l_intc (by rfl) (fr_int C) (by decide +kernel) (qa_cons (q_ix (q_ixk 0 (qv 0) pe_int) (q_ixk 1 (qv 0) pe_int)) qa_nil)))
    (qs_cons (qs_asg (q_opF o_addR l_addF (q_ixk 1 (qv 0) pe_int) (qcon (.int 1) pe_int fun _ => .int _)) (g_sub (qv 0) (qcon (.int 1) pe_int fun _ => .int _)))
    (qs_one (qs_if (t_cmp op_ge l_ge (qv 2) (q_op o_pow l_pow (qcon (.int 10) pe_int fun _ => .int _) (qcon (.int 18) pe_int fun _ => .int _)) (nomark _)) (qs_one (qs_asg (qv 2) (g_sub (qv 0) (qcon (.int 2) pe_int fun _ => .int _)))) (qs_one (qs_asg (q_op op_modN l_mod (q_cty call_int1 l_intc (by rfl) (fr_int C) (by decide +kernel) (qa_cons (q_op o_pow l_pow (q_opF o_addR l_addF (q_opF o_addR l_addF (q_ixk 3 (qv 0) pe_int) (q_opF o_mulR l_mulF (q_op op_modN l_mod (q_cty call_int1 l_intc (by rfl) (fr_int C) (by decide +kernel) (qa_cons (qv 2) qa_nil)) (qcon (.int 18446744073709551557) pe_int fun _ => .int _)) (qcon (.int 11) pe_int fun _ => .int _))) (qcon (.int 41) pe_int fun _ => .int _)) (qcon (.int 3) pe_int fun _ => .int _)) qa_nil)) (qcon (.int 18446744073709551557) pe_int fun _ => .int _)) (g_sub (qv 0) (qcon (.int 3) pe_int fun _ => .int _)))))))) qs_nil)
    (qs_cons (qs_if (t_cmp op_gt l_gt (q_ixk 2 (qv 0) pe_int) (qcon (.int 0) pe_int fun _ => .int _) (nomark _)) (qs_cons (qs_set (i := 3) sc_law_draw.nd rfl (Or.inl rfl) (q_op op_modN l_mod (q_cty call_int1 l_intc (by rfl) (fr_int C) (by decide +kernel) (qa_cons (q_ixk 2 (qv 0) pe_int) qa_nil)) (qv 1)))
    (qs_cons (qs_asg (q_op op_fdivW l_fdiv (q_cty call_int1 l_intc (by rfl) (fr_int C) (by decide +kernel) (qa_cons (q_ixk 2 (qv 0) pe_int) qa_nil)) (qv 1)) (g_sub (qv 0) (qcon (.int 2) pe_int fun _ => .int _)))
    (qs_one (qs_ret (qv 3))))) qs_nil)
    (qs_cons (qs_asg (q_op op_modN l_mod (q_cty call_int1 l_intc (by rfl) (fr_int C) (by decide +kernel) (qa_cons (q_op o_pow l_pow (q_opF o_addR l_addF (q_opF o_addR l_addF (q_ixk 3 (qv 0) pe_int) (q_opF o_mulR l_mulF (q_ixk 4 (qv 0) pe_int) (qcon (.int 1000003) pe_int fun _ => .int _))) (qcon (.int 31) pe_int fun _ => .int _)) (qcon (.int 3) pe_int fun _ => .int _)) qa_nil)) (qcon (.int 18446744073709551557) pe_int fun _ => .int _)) (g_sub (qv 0) (qcon (.int 3) pe_int fun _ => .int _)))
    (qs_one (qs_ret (q_op op_modN l_mod (q_cty call_int1 l_intc (by rfl) (fr_int C) (by decide +kernel) (qa_cons (q_op op_fdivW l_fdiv (q_ixk 3 (qv 0) pe_int) (qcon (.int 1073741827) pe_int fun _ => .int _)) qa_nil)) (qv 1))))))))
/-! _law_of -/
theorem sc_law_of : FnScope ["_law_bag_here", "_law_things"] ["_law_bag_here", "_law_things"] (defScope s_law_of) := ⟨rfl, rfl, rfl, by decide +kernel, rfl, by decide +kernel, by decide +kernel⟩
theorem kp_law_of {K : PySem.W.Frag} {mg : Str → Option Value} (C : Hc K mg) : PySem.W.keepIn K (.ref (He.fAd K (("_law_of", none)))) = true := (f_law_of C).kp
theorem bd_law_of {K : PySem.W.Frag} {mg : Str → Option Value} (C : Hc K mg) : Binds K (fdAt K (("_law_of", none))) ["_law_bag_here", "_law_things"] [] := (f_law_of C).bindsN fun _ _ _ _ _ _ us hl => match us, hl with | [_, _], _ => rfl
theorem dv_law_of {P : Program} {w : World} {K : PySem.W.Frag} {mg : Str → Option Value} {base : Heap} (C : Hc K mg) (G_law_draw : FnOk P w K mg base CX0 1 (He.fAd K (("_law_draw", none))) (fdAt K (("_law_draw", none))) ["_law_bag_here", "_law_many_y"] (lSp K sp_law_draw))
    (cdv : Value) (A : Around) (outer : List Env) (s : Shared) (H : Hp) (E : XK) (hr : Room 1 (A.deeper (envOfC "_law_of" (defScope s_law_of) s.heap.objs.size (He.fAd K (("_law_of", none))) cdv))) :
    QSs (cxOf CX0 P w K mg base ["_law_bag_here", "_law_things"] "_law_of" (defScope s_law_of) (He.fAd K (("_law_of", none))) cdv A outer s H E) (defBody s_law_of) (t_law_of K) :=
  (qs_one (qs_ret (q_ix (qv 1) (q_call G_law_draw (hr.mono (by decide)) rfl (g_law_draw C) (kp_law_draw C) (bd_law_draw C) (qa_cons (qv 0) (qa_cons (q_cb call_len l_len (by rfl) (fr_len C) PySem.boot_len (qa_cons (qv 1) qa_nil)) qa_nil))))))
/-! _law_same -/
theorem sc_law_same : FnScope ["_law_found", "_law_due", "_law_part_a", "_law_part_b"] ["_law_found", "_law_due"] (defScope s_law_same) := ⟨rfl, rfl, rfl, by decide +kernel, rfl, by decide +kernel, by decide +kernel⟩
theorem kp_law_same {K : PySem.W.Frag} {mg : Str → Option Value} (C : Hc K mg) : PySem.W.keepIn K (.ref (He.fAd K (("_law_same", none)))) = true := (f_law_same C).kp
theorem bd_law_same {K : PySem.W.Frag} {mg : Str → Option Value} (C : Hc K mg) : Binds K (fdAt K (("_law_same", none))) ["_law_found", "_law_due"] [] := (f_law_same C).bindsN fun _ _ _ _ _ _ us hl => match us, hl with | [_, _], _ => rfl
theorem dv_law_same {P : Program} {w : World} {K : PySem.W.Frag} {mg : Str → Option Value} {base : Heap} (C : Hc K mg) (n : Nat) (sp_rec : Sp') (G_law_same : FnOk P w K mg base CX0 n (He.fAd K (("_law_same", none))) (fdAt K (("_law_same", none))) ["_law_found", "_law_due"] (lSp K sp_rec))
    (cdv : Value) (A : Around) (outer : List Env) (s : Shared) (H : Hp) (E : XK) (hr : Room n (A.deeper (envOfC "_law_same" (defScope s_law_same) s.heap.objs.size (He.fAd K (("_law_same", none))) cdv))) :
    QSs (cxOf CX0 P w K mg base ["_law_found", "_law_due", "_law_part_a", "_law_part_b"] "_law_same" (defScope s_law_same) (He.fAd K (("_law_same", none))) cdv A outer s H E) (defBody s_law_same) (t_law_same K sp_rec) :=
  (qs_cons (qs_if (t_tru (q_cb call_isiA l_isi2 (by rfl) (fr_isinstance C) (by decide +kernel) (qa_cons (qv 1) (qa_cons (q_tup (qa_cons (q_ty rfl (fr_list C) (by decide +kernel)) (qa_cons (q_ty rfl (fr_tuple C) (by decide +kernel)) qa_nil))) qa_nil)))) (qs_cons (qs_if (tw (tw_or (t_cmp (o_ne (hu64 hr)) l_ne (q_cb call_isi (l_isi "list" (by decide)) (by rfl) (fr_isinstance C) (by decide +kernel) (qa_cons (qv 0) (qa_cons (q_ty rfl (fr_list C) (by decide +kernel)) qa_nil))) (q_cb call_isi (l_isi "list" (by decide)) (by rfl) (fr_isinstance C) (by decide +kernel) (qa_cons (qv 1) (qa_cons (q_ty rfl (fr_list C) (by decide +kernel)) qa_nil))) (nomark _)) (tw_or1 (t_cmp (o_ne (hu64 hr)) l_ne (q_cb call_isi (l_isi "tuple" (by decide)) (by rfl) (fr_isinstance C) (by decide +kernel) (qa_cons (qv 0) (qa_cons (q_ty rfl (fr_tuple C) (by decide +kernel)) qa_nil))) (q_cb call_isi (l_isi "tuple" (by decide)) (by rfl) (fr_isinstance C) (by decide +kernel) (qa_cons (qv 1) (qa_cons (q_ty rfl (fr_tuple C) (by decide +kernel)) qa_nil))) (nomark _))))) (qs_one (qs_ret (qcon (.bl false) pe_bl fun _ => .bl _))) qs_nil)
    (qs_one (qs_ret (q_and (q_cmp (o_eq (hu64 hr)) l_eq (q_cb call_len l_len (by rfl) (fr_len C) PySem.boot_len (qa_cons (qv 0) qa_nil)) (q_cb call_len l_len (by rfl) (fr_len C) PySem.boot_len (qa_cons (qv 1) qa_nil)) (nomark _)) (q_one (q_cb (cr_all rfl) l_allF (by rfl) (fr_all C) (by decide +kernel) (qa_cons (q_lcF (own := [("_law_part_a", 2), ("_law_part_b", 3)]) rfl sc_law_same.nd (i_zip (qv 0) (qv 1) (by rfl) (fr_zip C)) (blkOk_by (own := [("_law_part_a", 2), ("_law_part_b", 3)]) (by kernel_rfl)) (fun _ _ _ _ _ => (gp_tup rfl (gp_cons (gp_name (i := 2) sc_law_same.nd rfl (Or.inl rfl) (by decide)) (gp_cons (gp_name (i := 3) sc_law_same.nd rfl (Or.inl rfl) (by decide)) gp_nil)))) (fun _ _ _ _ _ => ts_nil) (fun _ _ _ _ _ => (q_call G_law_same hr rfl (g_law_same C) (kp_law_same C) (bd_law_same C) (qa_cons (qv 2) (qa_cons (qv 3) qa_nil))))) qa_nil))))))) qs_nil)
    (qs_cons (qs_if (tw (tw_or (t_cmp op_isN l_isN (qv 1) (qcon .non pe_non fun _ => .non) (nomark _)) (tw_or1 (t_cmp op_isN l_isN (qv 0) (qcon .non pe_non fun _ => .non) (nomark _))))) (qs_one (qs_ret (q_and (q_cmp op_isN l_isN (qv 1) (qcon .non pe_non fun _ => .non) (nomark _)) (q_one (q_cmp op_isN l_isN (qv 0) (qcon .non pe_non fun _ => .non) (nomark _)))))) qs_nil)
    (qs_cons (qs_if (tw (tw_or (t_tru (q_cb call_isiA l_isi2 (by rfl) (fr_isinstance C) (by decide +kernel) (qa_cons (qv 0) (qa_cons (q_tup (qa_cons (q_ty rfl (fr_list C) (by decide +kernel)) (qa_cons (q_ty rfl (fr_tuple C) (by decide +kernel)) qa_nil))) qa_nil)))) (tw_or1 (t_cmp (o_ne (hu64 hr)) l_ne (q_cb call_isi (l_isi "bool" (by decide)) (by rfl) (fr_isinstance C) (by decide +kernel) (qa_cons (qv 0) (qa_cons (q_ty rfl (fr_bool C) (by decide +kernel)) qa_nil))) (q_cb call_isi (l_isi "bool" (by decide)) (by rfl) (fr_isinstance C) (by decide +kernel) (qa_cons (qv 1) (qa_cons (q_ty rfl (fr_bool C) (by decide +kernel)) qa_nil))) (nomark _))))) (qs_one (qs_ret (qcon (.bl false) pe_bl fun _ => .bl _))) qs_nil)
    (qs_cons (qs_if (tw (tw_or (t_cmp (o_ne (hu64 hr)) l_ne (q_cb call_isi (l_isi "str" (by decide)) (by rfl) (fr_isinstance C) (by decide +kernel) (qa_cons (qv 0) (qa_cons (q_ty rfl (fr_str C) (by decide +kernel)) qa_nil))) (q_cb call_isi (l_isi "str" (by decide)) (by rfl) (fr_isinstance C) (by decide +kernel) (qa_cons (qv 1) (qa_cons (q_ty rfl (fr_str C) (by decide +kernel)) qa_nil))) (nomark _)) (tw_or1 (t_cmp (o_ne (hu64 hr)) l_ne (q_cb call_isi (l_isi "int" (by decide)) (by rfl) (fr_isinstance C) (by decide +kernel) (qa_cons (qv 0) (qa_cons (q_ty rfl (fr_int C) (by decide +kernel)) qa_nil))) (q_cb call_isi (l_isi "int" (by decide)) (by rfl) (fr_isinstance C) (by decide +kernel) (qa_cons (qv 1) (qa_cons (q_ty rfl (fr_int C) (by decide +kernel)) qa_nil))) (nomark _))))) (qs_one (qs_ret (qcon (.bl false) pe_bl fun _ => .bl _))) qs_nil)
    (qs_one (qs_ret (q_cmp (o_eq (hu64 hr)) l_eq (qv 0) (qv 1) (nomark _))))))))
/-! _law_low -/
theorem sc_law_low : FnScope ["_law_num", "_law_den", "_law_high", "_law_rest"] ["_law_num", "_law_den"] (defScope s_law_low) := ⟨rfl, rfl, rfl, by decide +kernel, rfl, by decide +kernel, by decide +kernel⟩
theorem kp_law_low {K : PySem.W.Frag} {mg : Str → Option Value} (C : Hc K mg) : PySem.W.keepIn K (.ref (He.fAd K (("_law_low", none)))) = true := (f_law_low C).kp
theorem bd_law_low {K : PySem.W.Frag} {mg : Str → Option Value} (C : Hc K mg) : Binds K (fdAt K (("_law_low", none))) ["_law_num", "_law_den"] [] := (f_law_low C).bindsN fun _ _ _ _ _ _ us hl => match us, hl with | [_, _], _ => rfl
theorem dv_law_low {P : Program} {w : World} {K : PySem.W.Frag} {mg : Str → Option Value} {base : Heap} (C : Hc K mg) 
    (cdv : Value) (A : Around) (outer : List Env) (s : Shared) (H : Hp) (E : XK) (hr : Room 0 (A.deeper (envOfC "_law_low" (defScope s_law_low) s.heap.objs.size (He.fAd K (("_law_low", none))) cdv))) :
    QSs (cxOf CX0 P w K mg base ["_law_num", "_law_den", "_law_high", "_law_rest"] "_law_low" (defScope s_law_low) (He.fAd K (("_law_low", none))) cdv A outer s H E) (defBody s_law_low) (t_law_low K) :=
  (qs_cons (qs_if (t_cmp op_lt l_lt (qv 1) (qcon (.int 0) pe_int fun _ => .int _) (nomark _)) (qs_one (qs_par (i := 0) (j := 1) rfl sc_law_low.nd rfl rfl (by decide) rfl rfl (qa_cons (q_un un_neg l_neg (qv 0)) (qa_cons (q_un un_neg l_neg (qv 1)) qa_nil)) (by rfl))) qs_nil)
    (qs_cons (qs_par (i := 2) (j := 3) rfl sc_law_low.nd rfl rfl (by decide) rfl rfl (qa_cons (q_cb call_abs l_abs (by rfl) (fr_abs C) (by decide +kernel) (qa_cons (qv 0) qa_nil)) (qa_cons (qv 1) qa_nil)) (by rfl))
    (qs_cons (qs_while hpN (t_cmp op_gt l_gt (qv 3) (qcon (.int 0) pe_int fun _ => .int _) (nomark _)) (qs_one (qs_par (i := 2) (j := 3) rfl sc_law_low.nd rfl rfl (by decide) rfl rfl (qa_cons (qv 3) (qa_cons (q_op op_modN l_mod (q_cty call_int1 l_intc (by rfl) (fr_int C) (by decide +kernel) (qa_cons (qv 2) qa_nil)) (qv 3)) qa_nil)) (by rfl))))
    (qs_one (qs_ret (q_tup (qa_cons (q_op op_fdivW l_fdiv (qv 0) (qv 2)) (qa_cons (q_op op_fdivW l_fdiv (qv 1) (qv 2)) qa_nil))))))))
/-! _law_is_num -/
theorem sc_law_is_num : FnScope ["_law_p", "_law_part"] ["_law_p"] (defScope s_law_is_num) := ⟨rfl, rfl, rfl, by decide +kernel, rfl, by decide +kernel, by decide +kernel⟩
theorem kp_law_is_num {K : PySem.W.Frag} {mg : Str → Option Value} (C : Hc K mg) : PySem.W.keepIn K (.ref (He.fAd K (("_law_is_num", none)))) = true := (f_law_is_num C).kp
theorem bd_law_is_num {K : PySem.W.Frag} {mg : Str → Option Value} (C : Hc K mg) : Binds K (fdAt K (("_law_is_num", none))) ["_law_p"] [] := (f_law_is_num C).bindsN fun _ _ _ _ _ _ us hl => match us, hl with | [_], _ => rfl
theorem dv_law_is_num {P : Program} {w : World} {K : PySem.W.Frag} {mg : Str → Option Value} {base : Heap} (C : Hc K mg) (G_law_low : FnOk P w K mg base CX0 1 (He.fAd K (("_law_low", none))) (fdAt K (("_law_low", none))) ["_law_num", "_law_den"] (lSp K sp_law_low))
    (cdv : Value) (A : Around) (outer : List Env) (s : Shared) (H : Hp) (E : XK) (hr : Room 1 (A.deeper (envOfC "_law_is_num" (defScope s_law_is_num) s.heap.objs.size (He.fAd K (("_law_is_num", none))) cdv))) :
    QSs (cxOf CX0 P w K mg base ["_law_p", "_law_part"] "_law_is_num" (defScope s_law_is_num) (He.fAd K (("_law_is_num", none))) cdv A outer s H E) (defBody s_law_is_num) (t_law_is_num K) :=
  (qs_cons (qs_if (t_tru (q_cb call_isi (l_isi "bool" (by decide)) (by rfl) (fr_isinstance C) (by decide +kernel) (qa_cons (qv 0) (qa_cons (q_ty rfl (fr_bool C) (by decide +kernel)) qa_nil)))) (qs_one (qs_ret (qcon (.bl false) pe_bl fun _ => .bl _))) qs_nil)
    (qs_cons (qs_if (t_tru (q_cb call_isi (l_isi "int" (by decide)) (by rfl) (fr_isinstance C) (by decide +kernel) (qa_cons (qv 0) (qa_cons (q_ty rfl (fr_int C) (by decide +kernel)) qa_nil)))) (qs_one (qs_ret (qcon (.bl true) pe_bl fun _ => .bl _))) qs_nil)
    (qs_cons (qs_if (tw (tw_or (t_not (t_tru (q_cb call_isi (l_isi "tuple" (by decide)) (by rfl) (fr_isinstance C) (by decide +kernel) (qa_cons (qv 0) (qa_cons (q_ty rfl (fr_tuple C) (by decide +kernel)) qa_nil))))) (tw_or1 (t_cmp (o_ne (hu64 hr)) l_ne (q_cb call_len l_len (by rfl) (fr_len C) PySem.boot_len (qa_cons (qv 0) qa_nil)) (qcon (.int 2) pe_int fun _ => .int _) (nomark _))))) (qs_one (qs_ret (qcon (.bl false) pe_bl fun _ => .bl _))) qs_nil)
    (qs_cons (qs_if (t_not (t_tru (q_cb (cr_all rfl) l_allF (by rfl) (fr_all C) (by decide +kernel) (qa_cons (q_lcF (own := [("_law_part", 1)]) rfl sc_law_is_num.nd (i_seq (qv 0)) (blkOk_by (own := [("_law_part", 1)]) (by kernel_rfl)) (fun _ _ _ _ _ => (gp_name (i := 1) sc_law_is_num.nd rfl (Or.inl rfl) (by decide))) (fun _ _ _ _ _ => ts_nil) (fun _ _ _ _ _ => (q_and (q_cb call_isi (l_isi "int" (by decide)) (by rfl) (fr_isinstance C) (by decide +kernel) (qa_cons (qv 1) (qa_cons (q_ty rfl (fr_int C) (by decide +kernel)) qa_nil))) (q_one (q_not (q_cb call_isi (l_isi "bool" (by decide)) (by rfl) (fr_isinstance C) (by decide +kernel) (qa_cons (qv 1) (qa_cons (q_ty rfl (fr_bool C) (by decide +kernel)) qa_nil)))))))) qa_nil)))) (qs_one (qs_ret (qcon (.bl false) pe_bl fun _ => .bl _))) qs_nil)
    (qs_one (qs_ret (q_and (q_cmp op_ge l_ge (q_ixk 1 (qv 0) pe_int) (qcon (.int 1) pe_int fun _ => .int _) (nomark _)) (q_one (q_cmp (o_eq (hu64 hr)) l_eq (q_call G_law_low (hr.mono (by decide)) rfl (g_law_low C) (kp_law_low C) (bd_law_low C) (qa_cons (q_ixk 0 (qv 0) pe_int) (qa_cons (q_ixk 1 (qv 0) pe_int) qa_nil))) (qv 0) (nomark _))))))))))
/-! _law_hand -/
theorem sc_law_hand : FnScope ["_law_bag_here", "_law_p"] ["_law_bag_here", "_law_p"] (defScope s_law_hand) := ⟨rfl, rfl, rfl, by decide +kernel, rfl, by decide +kernel, by decide +kernel⟩
theorem kp_law_hand {K : PySem.W.Frag} {mg : Str → Option Value} (C : Hc K mg) : PySem.W.keepIn K (.ref (He.fAd K (("_law_hand", none)))) = true := (f_law_hand C).kp
theorem bd_law_hand {K : PySem.W.Frag} {mg : Str → Option Value} (C : Hc K mg) : Binds K (fdAt K (("_law_hand", none))) ["_law_bag_here", "_law_p"] [] := (f_law_hand C).bindsN fun _ _ _ _ _ _ us hl => match us, hl with | [_, _], _ => rfl
theorem dv_law_hand {P : Program} {w : World} {K : PySem.W.Frag} {mg : Str → Option Value} {base : Heap} (C : Hc K mg) (G_law_draw : FnOk P w K mg base CX0 1 (He.fAd K (("_law_draw", none))) (fdAt K (("_law_draw", none))) ["_law_bag_here", "_law_many_y"] (lSp K sp_law_draw))
    (cdv : Value) (A : Around) (outer : List Env) (s : Shared) (H : Hp) (E : XK) (hr : Room 1 (A.deeper (envOfC "_law_hand" (defScope s_law_hand) s.heap.objs.size (He.fAd K (("_law_hand", none))) cdv))) :
    QSs (cxOf CX0 P w K mg base ["_law_bag_here", "_law_p"] "_law_hand" (defScope s_law_hand) (He.fAd K (("_law_hand", none))) cdv A outer s H E) (defBody s_law_hand) (t_law_hand K) :=
  (qs_cons (qs_if (tw (tw_and (t_cmp (o_eq (hu64 hr)) l_eq (q_ixk 1 (qv 1) pe_int) (qcon (.int 1) pe_int fun _ => .int _) (nomark _)) (tw_and1 (t_cmp (o_eq (hu64 hr)) l_eq (q_call G_law_draw (hr.mono (by decide)) rfl (g_law_draw C) (kp_law_draw C) (bd_law_draw C) (qa_cons (qv 0) (qa_cons (qcon (.int 2) pe_int fun _ => .int _) qa_nil))) (qcon (.int 0) pe_int fun _ => .int _) (nomark _))))) (qs_one (qs_ret (q_ixk 0 (qv 1) pe_int))) qs_nil)
    (qs_one (qs_ret (qv 1))))
/-! _law_handed -/
theorem sc_law_handed : FnScope ["_law_bag_here", "_law_spots", "_law_spot", "_law_p"] ["_law_bag_here", "_law_spots"] (defScope s_law_handed) := ⟨rfl, rfl, rfl, by decide +kernel, rfl, by decide +kernel, by decide +kernel⟩
theorem kp_law_handed {K : PySem.W.Frag} {mg : Str → Option Value} (C : Hc K mg) : PySem.W.keepIn K (.ref (He.fAd K (("_law_handed", none)))) = true := (f_law_handed C).kp
theorem bd_law_handed {K : PySem.W.Frag} {mg : Str → Option Value} (C : Hc K mg) : Binds K (fdAt K (("_law_handed", none))) ["_law_bag_here", "_law_spots"] [] := (f_law_handed C).bindsN fun _ _ _ _ _ _ us hl => match us, hl with | [_, _], _ => rfl
theorem dv_law_handed {P : Program} {w : World} {K : PySem.W.Frag} {mg : Str → Option Value} {base : Heap} (C : Hc K mg) (G_law_hand : FnOk P w K mg base CX0 2 (He.fAd K (("_law_hand", none))) (fdAt K (("_law_hand", none))) ["_law_bag_here", "_law_p"] (lSp K sp_law_hand))
    (cdv : Value) (A : Around) (outer : List Env) (s : Shared) (H : Hp) (E : XK) (hr : Room 2 (A.deeper (envOfC "_law_handed" (defScope s_law_handed) s.heap.objs.size (He.fAd K (("_law_handed", none))) cdv))) :
    QSs (cxOf CX0 P w K mg base ["_law_bag_here", "_law_spots", "_law_spot", "_law_p"] "_law_handed" (defScope s_law_handed) (He.fAd K (("_law_handed", none))) cdv A outer s H E) (defBody s_law_handed) (t_law_handed K) :=
  (qs_one (qs_ret (q_lc (own := [("_law_spot", 2)]) rfl sc_law_handed.nd (i_seq (qv 1)) (blkOk_by (own := [("_law_spot", 2)]) (by kernel_rfl)) (fun _ _ _ _ _ => (gv_name (i := 2) sc_law_handed.nd rfl (Or.inl rfl) (by decide))) (fun _ _ _ _ _ => ts_nil) (fun _ _ _ _ _ => (q_cty call_tuple_of l_tuple (by rfl) (fr_tuple C) (by decide +kernel) (qa_cons (q_lcF (own := [("_law_p", 3)]) rfl sc_law_handed.nd (i_seq (qv 2)) (blkOk_by (own := [("_law_p", 3)]) (by kernel_rfl)) (fun _ _ _ _ _ => (gp_name (i := 3) sc_law_handed.nd rfl (Or.inl rfl) (by decide))) (fun _ _ _ _ _ => ts_nil) (fun _ _ _ _ _ => (q_call G_law_hand (hr.mono (by decide)) rfl (g_law_hand C) (kp_law_hand C) (bd_law_hand C) (qa_cons (qv 0) (qa_cons (qv 3) qa_nil))))) qa_nil))))))
/-! _law_number -/
theorem sc_law_number : FnScope ["_law_bag_here", "_law_way"] ["_law_bag_here"] (defScope s_law_number) := ⟨rfl, rfl, rfl, by decide +kernel, rfl, by decide +kernel, by decide +kernel⟩
theorem kp_law_number {K : PySem.W.Frag} {mg : Str → Option Value} (C : Hc K mg) : PySem.W.keepIn K (.ref (He.fAd K (("_law_number", none)))) = true := (f_law_number C).kp
theorem bd_law_number {K : PySem.W.Frag} {mg : Str → Option Value} (C : Hc K mg) : Binds K (fdAt K (("_law_number", none))) ["_law_bag_here"] [] := (f_law_number C).bindsN fun _ _ _ _ _ _ us hl => match us, hl with | [_], _ => rfl
theorem dv_law_number {P : Program} {w : World} {K : PySem.W.Frag} {mg : Str → Option Value} {base : Heap} (C : Hc K mg) (G_law_draw : FnOk P w K mg base CX0 1 (He.fAd K (("_law_draw", none))) (fdAt K (("_law_draw", none))) ["_law_bag_here", "_law_many_y"] (lSp K sp_law_draw)) (G_law_low : FnOk P w K mg base CX0 1 (He.fAd K (("_law_low", none))) (fdAt K (("_law_low", none))) ["_law_num", "_law_den"] (lSp K sp_law_low))
    (cdv : Value) (A : Around) (outer : List Env) (s : Shared) (H : Hp) (E : XK) (hr : Room 1 (A.deeper (envOfC "_law_number" (defScope s_law_number) s.heap.objs.size (He.fAd K (("_law_number", none))) cdv))) :
    QSs (cxOf CX0 P w K mg base ["_law_bag_here", "_law_way"] "_law_number" (defScope s_law_number) (He.fAd K (("_law_number", none))) cdv A outer s H E) (defBody s_law_number) (t_law_number K) :=
  (qs_cons (qs_set (i := 1) sc_law_number.nd rfl (Or.inl rfl) (q_call G_law_draw (hr.mono (by decide)) rfl (g_law_draw C) (kp_law_draw C) (bd_law_draw C) (qa_cons (qv 0) (qa_cons (qcon (.int 12) pe_int fun _ => .int _) qa_nil))))
    (qs_cons (qs_if (t_cmp (o_eq (hu64 hr)) l_eq (qv 1) (qcon (.int 11) pe_int fun _ => .int _) (nomark _)) (qs_one (qs_ret (q_tup (qa_cons (q_op op_sub l_sub (q_call G_law_draw (hr.mono (by decide)) rfl (g_law_draw C) (kp_law_draw C) (bd_law_draw C) (qa_cons (qv 0) (qa_cons (qcon (.int 2001) pe_int fun _ => .int _) qa_nil))) (qcon (.int 1000) pe_int fun _ => .int _)) (qa_cons (qcon (.int 1) pe_int fun _ => .int _) qa_nil))))) qs_nil)
    (qs_cons (qs_if (t_cmp op_gt l_gt (qv 1) (qcon (.int 7) pe_int fun _ => .int _) (nomark _)) (qs_one (qs_ret (q_call G_law_low (hr.mono (by decide)) rfl (g_law_low C) (kp_law_low C) (bd_law_low C) (qa_cons (q_op op_sub l_sub (q_call G_law_draw (hr.mono (by decide)) rfl (g_law_draw C) (kp_law_draw C) (bd_law_draw C) (qa_cons (qv 0) (qa_cons (qcon (.int 121) pe_int fun _ => .int _) qa_nil))) (qcon (.int 60) pe_int fun _ => .int _)) (qa_cons (q_opF o_addR l_addF (qcon (.int 1) pe_int fun _ => .int _) (q_call G_law_draw (hr.mono (by decide)) rfl (g_law_draw C) (kp_law_draw C) (bd_law_draw C) (qa_cons (qv 0) (qa_cons (qcon (.int 12) pe_int fun _ => .int _) qa_nil)))) qa_nil))))) qs_nil)
    (qs_one (qs_ret (q_tup (qa_cons (q_op op_sub l_sub (q_call G_law_draw (hr.mono (by decide)) rfl (g_law_draw C) (kp_law_draw C) (bd_law_draw C) (qa_cons (qv 0) (qa_cons (qcon (.int 19) pe_int fun _ => .int _) qa_nil))) (qcon (.int 9) pe_int fun _ => .int _)) (qa_cons (qcon (.int 1) pe_int fun _ => .int _) qa_nil))))))))
/-! _law_bad -/
theorem sc_law_bad : FnScope ["_law_corner_items", "_law_face_items", "_law_k", "_law_item", "_law_i", "_law_p"] ["_law_corner_items", "_law_face_items"] (defScope s_law_bad) := ⟨rfl, rfl, rfl, by decide +kernel, rfl, by decide +kernel, by decide +kernel⟩
theorem kp_law_bad {K : PySem.W.Frag} {mg : Str → Option Value} (C : Hc K mg) : PySem.W.keepIn K (.ref (He.fAd K (("_law_bad", none)))) = true := (f_law_bad C).kp
theorem bd_law_bad {K : PySem.W.Frag} {mg : Str → Option Value} (C : Hc K mg) : Binds K (fdAt K (("_law_bad", none))) ["_law_corner_items", "_law_face_items"] [] := (f_law_bad C).bindsN fun _ _ _ _ _ _ us hl => match us, hl with | [_, _], _ => rfl
theorem dv_law_bad {P : Program} {w : World} {K : PySem.W.Frag} {mg : Str → Option Value} {base : Heap} (C : Hc K mg) (G_law_is_num : FnOk P w K mg base CX0 2 (He.fAd K (("_law_is_num", none))) (fdAt K (("_law_is_num", none))) ["_law_p"] (lSp K sp_law_is_num))
    (cdv : Value) (A : Around) (outer : List Env) (s : Shared) (H : Hp) (E : XK) (hr : Room 2 (A.deeper (envOfC "_law_bad" (defScope s_law_bad) s.heap.objs.size (He.fAd K (("_law_bad", none))) cdv))) :
    QSs (cxOf CX0 P w K mg base ["_law_corner_items", "_law_face_items", "_law_k", "_law_item", "_law_i", "_law_p"] "_law_bad" (defScope s_law_bad) (He.fAd K (("_law_bad", none))) cdv A outer s H E) (defBody s_law_bad) (t_law_bad K) :=
  (qs_cons (qs_for hpN rfl (i_rng1 (q_cb call_len l_len (by rfl) (fr_len C) PySem.boot_len (qa_cons (qv 0) qa_nil)) rfl (fr_range C)) (g_name (i := 2) sc_law_bad.nd rfl (Or.inl rfl)) (qs_cons (qs_set (i := 3) sc_law_bad.nd rfl (Or.inl rfl) (q_ix (qv 0) (qv 2)))
    (qs_one (qs_if (tw (tw_or (t_not (t_tru (q_cb call_isi (l_isi "tuple" (by decide)) (by rfl) (fr_isinstance C) (by decide +kernel) (qa_cons (qv 3) (qa_cons (q_ty rfl (fr_tuple C) (by decide +kernel)) qa_nil))))) (tw_or (t_cmp (o_ne (hu64 hr)) l_ne (q_cb call_len l_len (by rfl) (fr_len C) PySem.boot_len (qa_cons (qv 3) qa_nil)) (qcon (.int 3) pe_int fun _ => .int _) (nomark _)) (tw_or1 (t_not (t_tru (q_cb (cr_all rfl) l_allF (by rfl) (fr_all C) (by decide +kernel) (qa_cons (q_lcF (own := [("_law_p", 5)]) rfl sc_law_bad.nd (i_seq (qv 3)) (blkOk_by (own := [("_law_p", 5)]) (by kernel_rfl)) (fun _ _ _ _ _ => (gp_name (i := 5) sc_law_bad.nd rfl (Or.inl rfl) (by decide))) (fun _ _ _ _ _ => ts_nil) (fun _ _ _ _ _ => (q_call G_law_is_num (hr.mono (by decide)) rfl (g_law_is_num C) (kp_law_is_num C) (bd_law_is_num C) (qa_cons (qv 5) qa_nil)))) qa_nil)))))))) (qs_one (qs_ret (q_tup (qa_cons (qcon (.str "BadNet") pe_str fun _ => .str _) (qa_cons (qcon (.str "corner") pe_str fun _ => .str _) (qa_cons (qv 2) qa_nil)))))) qs_nil))))
    (qs_cons (qs_for hpN rfl (i_rng1 (q_cb call_len l_len (by rfl) (fr_len C) PySem.boot_len (qa_cons (qv 1) qa_nil)) rfl (fr_range C)) (g_name (i := 2) sc_law_bad.nd rfl (Or.inl rfl)) (qs_cons (qs_set (i := 3) sc_law_bad.nd rfl (Or.inl rfl) (q_ix (qv 1) (qv 2)))
    (qs_cons (qs_if (tw (tw_or (t_not (t_tru (q_cb call_isi (l_isi "tuple" (by decide)) (by rfl) (fr_isinstance C) (by decide +kernel) (qa_cons (qv 3) (qa_cons (q_ty rfl (fr_tuple C) (by decide +kernel)) qa_nil))))) (tw_or1 (t_cmp (o_ne (hu64 hr)) l_ne (q_cb call_len l_len (by rfl) (fr_len C) PySem.boot_len (qa_cons (qv 3) qa_nil)) (qcon (.int 3) pe_int fun _ => .int _) (nomark _))))) (qs_one (qs_ret (q_tup (qa_cons (qcon (.str "BadNet") pe_str fun _ => .str _) (qa_cons (qcon (.str "face") pe_str fun _ => .str _) (qa_cons (qv 2) qa_nil)))))) qs_nil)
    (qs_cons (qs_if (t_not (t_tru (q_cb (cr_all rfl) l_allF (by rfl) (fr_all C) (by decide +kernel) (qa_cons (q_lcF (own := [("_law_i", 4)]) rfl sc_law_bad.nd (i_seq (qv 3)) (blkOk_by (own := [("_law_i", 4)]) (by kernel_rfl)) (fun _ _ _ _ _ => (gp_name (i := 4) sc_law_bad.nd rfl (Or.inl rfl) (by decide))) (fun _ _ _ _ _ => ts_nil) (fun _ _ _ _ _ => (q_and (q_cb call_isi (l_isi "int" (by decide)) (by rfl) (fr_isinstance C) (by decide +kernel) (qa_cons (qv 4) (qa_cons (q_ty rfl (fr_int C) (by decide +kernel)) qa_nil))) (q_one (q_not (q_cb call_isi (l_isi "bool" (by decide)) (by rfl) (fr_isinstance C) (by decide +kernel) (qa_cons (qv 4) (qa_cons (q_ty rfl (fr_bool C) (by decide +kernel)) qa_nil)))))))) qa_nil)))) (qs_one (qs_ret (q_tup (qa_cons (qcon (.str "BadNet") pe_str fun _ => .str _) (qa_cons (qcon (.str "face") pe_str fun _ => .str _) (qa_cons (qv 2) qa_nil)))))) qs_nil)
    (qs_one (qs_if (t_not (t_tru (q_cb (cr_all rfl) l_allF (by rfl) (fr_all C) (by decide +kernel) (qa_cons (q_lcF (own := [("_law_i", 4)]) rfl sc_law_bad.nd (i_seq (qv 3)) (blkOk_by (own := [("_law_i", 4)]) (by kernel_rfl)) (fun _ _ _ _ _ => (gp_name (i := 4) sc_law_bad.nd rfl (Or.inl rfl) (by decide))) (fun _ _ _ _ _ => ts_nil) (fun _ _ _ _ _ => (q_chain op_le op_lt l_le l_lt (qcon (.int 0) pe_int fun _ => .int _) (qv 4) (q_cb call_len l_len (by rfl) (fr_len C) PySem.boot_len (qa_cons (qv 0) qa_nil))))) qa_nil)))) (qs_one (qs_ret (q_tup (qa_cons (qcon (.str "BadNet") pe_str fun _ => .str _) (qa_cons (qcon (.str "face") pe_str fun _ => .str _) (qa_cons (qv 2) qa_nil)))))) qs_nil))))))
    (qs_one (qs_ret (q_tup qa_nil)))))
/-! _law_bent_corner -/
theorem sc_law_bent_corner : FnScope ["_law_bag_here", "_law_corner", "_law_at", "_law_way", "_law_odd"] ["_law_bag_here", "_law_corner"] (defScope s_law_bent_corner) := ⟨rfl, rfl, rfl, by decide +kernel, rfl, by decide +kernel, by decide +kernel⟩
theorem kp_law_bent_corner {K : PySem.W.Frag} {mg : Str → Option Value} (C : Hc K mg) : PySem.W.keepIn K (.ref (He.fAd K (("_law_bent_corner", none)))) = true := (f_law_bent_corner C).kp
theorem bd_law_bent_corner {K : PySem.W.Frag} {mg : Str → Option Value} (C : Hc K mg) : Binds K (fdAt K (("_law_bent_corner", none))) ["_law_bag_here", "_law_corner"] [] := (f_law_bent_corner C).bindsN fun _ _ _ _ _ _ us hl => match us, hl with | [_, _], _ => rfl
theorem dv_law_bent_corner {P : Program} {w : World} {K : PySem.W.Frag} {mg : Str → Option Value} {base : Heap} (C : Hc K mg) (G_law_draw : FnOk P w K mg base CX0 1 (He.fAd K (("_law_draw", none))) (fdAt K (("_law_draw", none))) ["_law_bag_here", "_law_many_y"] (lSp K sp_law_draw)) (G_law_of : FnOk P w K mg base CX0 2 (He.fAd K (("_law_of", none))) (fdAt K (("_law_of", none))) ["_law_bag_here", "_law_things"] (lSp K sp_law_of))
    (cdv : Value) (A : Around) (outer : List Env) (s : Shared) (H : Hp) (E : XK) (hr : Room 2 (A.deeper (envOfC "_law_bent_corner" (defScope s_law_bent_corner) s.heap.objs.size (He.fAd K (("_law_bent_corner", none))) cdv))) :
    QSs (cxOf CX0 P w K mg base ["_law_bag_here", "_law_corner", "_law_at", "_law_way", "_law_odd"] "_law_bent_corner" (defScope s_law_bent_corner) (He.fAd K (("_law_bent_corner", none))) cdv A outer s H E) (defBody s_law_bent_corner) (t_law_bent_corner K) :=
  (qs_cons (qs_par (i := 2) (j := 3) rfl sc_law_bent_corner.nd rfl rfl (by decide) rfl rfl (qa_cons (q_call G_law_draw (hr.mono (by decide)) rfl (g_law_draw C) (kp_law_draw C) (bd_law_draw C) (qa_cons (qv 0) (qa_cons (qcon (.int 3) pe_int fun _ => .int _) qa_nil))) (qa_cons (q_call G_law_draw (hr.mono (by decide)) rfl (g_law_draw C) (kp_law_draw C) (bd_law_draw C) (qa_cons (qv 0) (qa_cons (qcon (.int 16) pe_int fun _ => .int _) qa_nil))) qa_nil)) (by rfl))
    (qs_cons (qs_if (t_cmp op_lt l_lt (qv 3) (qcon (.int 3) pe_int fun _ => .int _) (nomark _)) (qs_one (qs_ret (q_ix (q_lstF (qa_cons (q_ctyF call_list_of l_listF (by rfl) (fr_list C) (by decide +kernel) (qa_cons (qv 1) qa_nil)) (qa_cons (q_slF (qv 1) o_none (o_some (qcon (.int 2) pe_int fun _ => .int _))) (qa_cons (q_opF o_addR l_addF (qv 1) (q_tup (qa_cons (q_tup (qa_cons (qcon (.int 1) pe_int fun _ => .int _) (qa_cons (qcon (.int 1) pe_int fun _ => .int _) qa_nil))) qa_nil))) qa_nil)))) (qv 3)))) qs_nil)
    (qs_cons (qs_set (i := 4) sc_law_bent_corner.nd rfl (Or.inl rfl) (q_call G_law_of (hr.mono (by decide)) rfl (g_law_of C) (kp_law_of C) (bd_law_of C) (qa_cons (qv 0) (qa_cons (q_lstF (qa_cons (qcon .non pe_non fun _ => .non) (qa_cons (qcon (.bl true) pe_bl fun _ => .bl _) (qa_cons (qcon (.bl false) pe_bl fun _ => .bl _) (qa_cons (qcon (.str "1") pe_str fun _ => .str _) (qa_cons (qcon (.str "") pe_str fun _ => .str _) (qa_cons (q_tup (qa_cons (qcon (.int 2) pe_int fun _ => .int _) (qa_cons (qcon (.int 4) pe_int fun _ => .int _) qa_nil))) (qa_cons (q_tup (qa_cons (qcon (.int 1) pe_int fun _ => .int _) (qa_cons (qcon (.int 0) pe_int fun _ => .int _) qa_nil))) (qa_cons (q_tup (qa_cons (qcon (.int 0) pe_int fun _ => .int _) (qa_cons (qcon (.int 2) pe_int fun _ => .int _) qa_nil))) (qa_cons (q_tup (qa_cons (qcon (.int 3) pe_int fun _ => .int _) (qa_cons (q_un un_neg l_neg (qcon (.int 1) pe_int fun _ => .int _)) qa_nil))) (qa_cons (q_tup (qa_cons (qcon (.int 1) pe_int fun _ => .int _) qa_nil)) (qa_cons (q_tup (qa_cons (qcon (.int 1) pe_int fun _ => .int _) (qa_cons (qcon (.int 2) pe_int fun _ => .int _) (qa_cons (qcon (.int 1) pe_int fun _ => .int _) qa_nil)))) (qa_cons (q_lstF (qa_cons (qcon (.int 1) pe_int fun _ => .int _) (qa_cons (qcon (.int 2) pe_int fun _ => .int _) qa_nil))) (qa_cons (q_tup (qa_cons (qcon (.bl true) pe_bl fun _ => .bl _) (qa_cons (qcon (.int 1) pe_int fun _ => .int _) qa_nil))) (qa_cons (q_tup (qa_cons (qcon (.int 1) pe_int fun _ => .int _) (qa_cons (qcon (.bl true) pe_bl fun _ => .bl _) qa_nil))) (qa_cons (q_tup (qa_cons (qcon (.str "1") pe_str fun _ => .str _) (qa_cons (qcon (.int 1) pe_int fun _ => .int _) qa_nil))) (qa_cons (q_tup (qa_cons (q_tup (qa_cons (qcon (.int 1) pe_int fun _ => .int _) (qa_cons (qcon (.int 1) pe_int fun _ => .int _) qa_nil))) (qa_cons (qcon (.int 1) pe_int fun _ => .int _) qa_nil))) (qa_cons (q_tup qa_nil) (qa_cons (q_lstF qa_nil) (qa_cons (q_tup (qa_cons (qcon (.int 0) pe_int fun _ => .int _) (qa_cons (q_un un_neg l_neg (qcon (.int 1) pe_int fun _ => .int _)) qa_nil))) (qa_cons (q_tup (qa_cons (q_un un_neg l_neg (qcon (.int 2) pe_int fun _ => .int _)) (qa_cons (qcon (.int 2) pe_int fun _ => .int _) qa_nil))) qa_nil))))))))))))))))))))) qa_nil))))
    (qs_one (qs_ret (q_opF o_addR l_addF (q_opF o_addR l_addF (q_slF (qv 1) o_none (o_some (qv 2))) (q_tup (qa_cons (qv 4) qa_nil))) (q_slF (qv 1) (o_some (q_opF o_addR l_addF (qv 2) (qcon (.int 1) pe_int fun _ => .int _))) o_none)))))))
/-! _law_bent_face -/
theorem sc_law_bent_face : FnScope ["_law_bag_here", "_law_face", "_law_many", "_law_at", "_law_way", "_law_odd"] ["_law_bag_here", "_law_face", "_law_many"] (defScope s_law_bent_face) := ⟨rfl, rfl, rfl, by decide +kernel, rfl, by decide +kernel, by decide +kernel⟩
theorem kp_law_bent_face {K : PySem.W.Frag} {mg : Str → Option Value} (C : Hc K mg) : PySem.W.keepIn K (.ref (He.fAd K (("_law_bent_face", none)))) = true := (f_law_bent_face C).kp
theorem bd_law_bent_face {K : PySem.W.Frag} {mg : Str → Option Value} (C : Hc K mg) : Binds K (fdAt K (("_law_bent_face", none))) ["_law_bag_here", "_law_face", "_law_many"] [] := (f_law_bent_face C).bindsN fun _ _ _ _ _ _ us hl => match us, hl with | [_, _, _], _ => rfl
theorem dv_law_bent_face {P : Program} {w : World} {K : PySem.W.Frag} {mg : Str → Option Value} {base : Heap} (C : Hc K mg) (G_law_draw : FnOk P w K mg base CX0 1 (He.fAd K (("_law_draw", none))) (fdAt K (("_law_draw", none))) ["_law_bag_here", "_law_many_y"] (lSp K sp_law_draw)) (G_law_of : FnOk P w K mg base CX0 2 (He.fAd K (("_law_of", none))) (fdAt K (("_law_of", none))) ["_law_bag_here", "_law_things"] (lSp K sp_law_of))
    (cdv : Value) (A : Around) (outer : List Env) (s : Shared) (H : Hp) (E : XK) (hr : Room 2 (A.deeper (envOfC "_law_bent_face" (defScope s_law_bent_face) s.heap.objs.size (He.fAd K (("_law_bent_face", none))) cdv))) :
    QSs (cxOf CX0 P w K mg base ["_law_bag_here", "_law_face", "_law_many", "_law_at", "_law_way", "_law_odd"] "_law_bent_face" (defScope s_law_bent_face) (He.fAd K (("_law_bent_face", none))) cdv A outer s H E) (defBody s_law_bent_face) (t_law_bent_face K) :=
  (qs_cons (qs_par (i := 3) (j := 4) rfl sc_law_bent_face.nd rfl rfl (by decide) rfl rfl (qa_cons (q_call G_law_draw (hr.mono (by decide)) rfl (g_law_draw C) (kp_law_draw C) (bd_law_draw C) (qa_cons (qv 0) (qa_cons (qcon (.int 3) pe_int fun _ => .int _) qa_nil))) (qa_cons (q_call G_law_draw (hr.mono (by decide)) rfl (g_law_draw C) (kp_law_draw C) (bd_law_draw C) (qa_cons (qv 0) (qa_cons (qcon (.int 12) pe_int fun _ => .int _) qa_nil))) qa_nil)) (by rfl))
    (qs_cons (qs_if (t_cmp op_lt l_lt (qv 4) (qcon (.int 3) pe_int fun _ => .int _) (nomark _)) (qs_one (qs_ret (q_ix (q_lstF (qa_cons (q_ctyF call_list_of l_listF (by rfl) (fr_list C) (by decide +kernel) (qa_cons (qv 1) qa_nil)) (qa_cons (q_slF (qv 1) o_none (o_some (qcon (.int 2) pe_int fun _ => .int _))) (qa_cons (q_opF o_addR l_addF (qv 1) (q_tup (qa_cons (qcon (.int 0) pe_int fun _ => .int _) qa_nil))) qa_nil)))) (qv 4)))) qs_nil)
    (qs_cons (qs_set (i := 5) sc_law_bent_face.nd rfl (Or.inl rfl) (q_call G_law_of (hr.mono (by decide)) rfl (g_law_of C) (kp_law_of C) (bd_law_of C) (qa_cons (qv 0) (qa_cons (q_lstF (qa_cons (qcon .non pe_non fun _ => .non) (qa_cons (qcon (.bl true) pe_bl fun _ => .bl _) (qa_cons (qcon (.bl false) pe_bl fun _ => .bl _) (qa_cons (qcon (.str "0") pe_str fun _ => .str _) (qa_cons (q_un un_neg l_neg (qcon (.int 1) pe_int fun _ => .int _)) (qa_cons (qv 2) (qa_cons (q_opF o_addR l_addF (qv 2) (qcon (.int 1) pe_int fun _ => .int _)) (qa_cons (q_un un_neg l_neg (qv 2)) (qa_cons (q_op o_pow l_pow (qcon (.int 10) pe_int fun _ => .int _) (qcon (.int 9) pe_int fun _ => .int _)) (qa_cons (q_tup (qa_cons (qcon (.int 0) pe_int fun _ => .int _) qa_nil)) (qa_cons (q_lstF (qa_cons (qcon (.int 0) pe_int fun _ => .int _) qa_nil)) (qa_cons (qcon (.str "") pe_str fun _ => .str _) (qa_cons (q_tup qa_nil) (qa_cons (q_un un_neg l_neg (q_op o_pow l_pow (qcon (.int 10) pe_int fun _ => .int _) (qcon (.int 9) pe_int fun _ => .int _))) qa_nil))))))))))))))) qa_nil))))
    (qs_one (qs_ret (q_opF o_addR l_addF (q_opF o_addR l_addF (q_slF (qv 1) o_none (o_some (qv 3))) (q_tup (qa_cons (qv 5) qa_nil))) (q_slF (qv 1) (o_some (q_opF o_addR l_addF (qv 3) (qcon (.int 1) pe_int fun _ => .int _))) o_none)))))))
/-! _law_any -/
theorem sc_law_any : FnScope ["_law_bag_here"] ["_law_bag_here"] (defScope s_law_any) := ⟨rfl, rfl, rfl, by decide +kernel, rfl, by decide +kernel, by decide +kernel⟩
theorem kp_law_any {K : PySem.W.Frag} {mg : Str → Option Value} (C : Hc K mg) : PySem.W.keepIn K (.ref (He.fAd K (("_law_any", none)))) = true := (f_law_any C).kp
theorem bd_law_any {K : PySem.W.Frag} {mg : Str → Option Value} (C : Hc K mg) : Binds K (fdAt K (("_law_any", none))) ["_law_bag_here"] [] := (f_law_any C).bindsN fun _ _ _ _ _ _ us hl => match us, hl with | [_], _ => rfl
theorem dv_law_any {P : Program} {w : World} {K : PySem.W.Frag} {mg : Str → Option Value} {base : Heap} (C : Hc K mg) (G_law_of : FnOk P w K mg base CX0 2 (He.fAd K (("_law_of", none))) (fdAt K (("_law_of", none))) ["_law_bag_here", "_law_things"] (lSp K sp_law_of))
    (cdv : Value) (A : Around) (outer : List Env) (s : Shared) (H : Hp) (E : XK) (hr : Room 2 (A.deeper (envOfC "_law_any" (defScope s_law_any) s.heap.objs.size (He.fAd K (("_law_any", none))) cdv))) :
    QSs (cxOf CX0 P w K mg base ["_law_bag_here"] "_law_any" (defScope s_law_any) (He.fAd K (("_law_any", none))) cdv A outer s H E) (defBody s_law_any) (t_law_any K) :=
  (qs_one (qs_ret (q_call G_law_of (hr.mono (by decide)) rfl (g_law_of C) (kp_law_of C) (bd_law_of C) (qa_cons (qv 0) (qa_cons (q_lstF (qa_cons (qcon .non pe_non fun _ => .non) (qa_cons (qcon (.bl true) pe_bl fun _ => .bl _) (qa_cons (qcon (.bl false) pe_bl fun _ => .bl _) (qa_cons (qcon (.int 0) pe_int fun _ => .int _) (qa_cons (qcon (.int 7) pe_int fun _ => .int _) (qa_cons (qcon (.str "") pe_str fun _ => .str _) (qa_cons (qcon (.str "corner") pe_str fun _ => .str _) (qa_cons (q_tup qa_nil) (qa_cons (q_lstF qa_nil) (qa_cons (q_tup (qa_cons (qcon (.int 0) pe_int fun _ => .int _) (qa_cons (qcon (.int 0) pe_int fun _ => .int _) qa_nil))) (qa_cons (q_tup (qa_cons (qcon (.int 0) pe_int fun _ => .int _) (qa_cons (qcon (.int 0) pe_int fun _ => .int _) (qa_cons (qcon (.int 0) pe_int fun _ => .int _) qa_nil)))) (qa_cons (q_lstF (qa_cons (qcon (.int 0) pe_int fun _ => .int _) (qa_cons (qcon (.int 0) pe_int fun _ => .int _) (qa_cons (qcon (.int 0) pe_int fun _ => .int _) qa_nil)))) (qa_cons (q_tup (qa_cons (qcon (.int 1) pe_int fun _ => .int _) (qa_cons (qcon (.int 2) pe_int fun _ => .int _) (qa_cons (qcon (.int 3) pe_int fun _ => .int _) qa_nil)))) (qa_cons (qcon (.str "abc") pe_str fun _ => .str _) (qa_cons (q_tup (qa_cons (q_tup (qa_cons (qcon (.int 1) pe_int fun _ => .int _) (qa_cons (qcon (.int 2) pe_int fun _ => .int _) qa_nil))) (qa_cons (q_tup (qa_cons (qcon (.int 1) pe_int fun _ => .int _) (qa_cons (qcon (.int 3) pe_int fun _ => .int _) qa_nil))) (qa_cons (q_tup (qa_cons (qcon (.int 1) pe_int fun _ => .int _) (qa_cons (qcon (.int 4) pe_int fun _ => .int _) qa_nil))) qa_nil)))) (qa_cons (q_tup (qa_cons (qcon (.int 0) pe_int fun _ => .int _) (qa_cons (qcon (.int 0) pe_int fun _ => .int _) (qa_cons (qcon (.int 0) pe_int fun _ => .int _) (qa_cons (qcon (.int 0) pe_int fun _ => .int _) qa_nil))))) (qa_cons (q_tup (qa_cons (q_tup (qa_cons (qcon (.int 1) pe_int fun _ => .int _) (qa_cons (qcon (.int 2) pe_int fun _ => .int _) qa_nil))) (qa_cons (q_tup (qa_cons (qcon (.int 2) pe_int fun _ => .int _) (qa_cons (qcon (.int 4) pe_int fun _ => .int _) qa_nil))) (qa_cons (qcon (.int 0) pe_int fun _ => .int _) qa_nil)))) (qa_cons (q_tup (qa_cons (qcon (.bl false) pe_bl fun _ => .bl _) (qa_cons (qcon (.int 0) pe_int fun _ => .int _) (qa_cons (qcon (.int 0) pe_int fun _ => .int _) qa_nil)))) (qa_cons (q_tup (qa_cons (qcon (.int 0) pe_int fun _ => .int _) (qa_cons (qcon (.int 0) pe_int fun _ => .int _) (qa_cons (q_un un_neg l_neg (qcon (.int 1) pe_int fun _ => .int _)) qa_nil)))) qa_nil)))))))))))))))))))) qa_nil)))))
/-! _law_bend -/
theorem sc_law_bend : FnScope ["_law_bag_here", "_law_corner_items", "_law_face_items", "_law_many", "_law_items", "_law_word", "_law_at"] ["_law_bag_here", "_law_corner_items", "_law_face_items"] (defScope s_law_bend) := ⟨rfl, rfl, rfl, by decide +kernel, rfl, by decide +kernel, by decide +kernel⟩
theorem kp_law_bend {K : PySem.W.Frag} {mg : Str → Option Value} (C : Hc K mg) : PySem.W.keepIn K (.ref (He.fAd K (("_law_bend", none)))) = true := (f_law_bend C).kp
theorem bd_law_bend {K : PySem.W.Frag} {mg : Str → Option Value} (C : Hc K mg) : Binds K (fdAt K (("_law_bend", none))) ["_law_bag_here", "_law_corner_items", "_law_face_items"] [] := (f_law_bend C).bindsN fun _ _ _ _ _ _ us hl => match us, hl with | [_, _, _], _ => rfl
theorem dv_law_bend {P : Program} {w : World} {K : PySem.W.Frag} {mg : Str → Option Value} {base : Heap} (C : Hc K mg) (G_law_draw : FnOk P w K mg base CX0 1 (He.fAd K (("_law_draw", none))) (fdAt K (("_law_draw", none))) ["_law_bag_here", "_law_many_y"] (lSp K sp_law_draw)) (G_law_any : FnOk P w K mg base CX0 3 (He.fAd K (("_law_any", none))) (fdAt K (("_law_any", none))) ["_law_bag_here"] (lSp K sp_law_any)) (G_law_bent_corner : FnOk P w K mg base CX0 3 (He.fAd K (("_law_bent_corner", none))) (fdAt K (("_law_bent_corner", none))) ["_law_bag_here", "_law_corner"] (lSp K sp_law_bent_corner)) (G_law_bent_face : FnOk P w K mg base CX0 3 (He.fAd K (("_law_bent_face", none))) (fdAt K (("_law_bent_face", none))) ["_law_bag_here", "_law_face", "_law_many"] (lSp K sp_law_bent_face))
    (cdv : Value) (A : Around) (outer : List Env) (s : Shared) (H : Hp) (E : XK) (hr : Room 3 (A.deeper (envOfC "_law_bend" (defScope s_law_bend) s.heap.objs.size (He.fAd K (("_law_bend", none))) cdv))) :
    QSs (cxOf CX0 P w K mg base ["_law_bag_here", "_law_corner_items", "_law_face_items", "_law_many", "_law_items", "_law_word", "_law_at"] "_law_bend" (defScope s_law_bend) (He.fAd K (("_law_bend", none))) cdv A outer s H E) (defBody s_law_bend) (t_law_bend K) :=
  (qs_cons (qs_set (i := 3) sc_law_bend.nd rfl (Or.inl rfl) (q_cb call_len l_len (by rfl) (fr_len C) PySem.boot_len (qa_cons (qv 1) qa_nil)))
    (qs_cons (qs_asg (q_if (t_cmp op_lt l_lt (q_call G_law_draw (hr.mono (by decide)) rfl (g_law_draw C) (kp_law_draw C) (bd_law_draw C) (qa_cons (qv 0) (qa_cons (qcon (.int 5) pe_int fun _ => .int _) qa_nil))) (qcon (.int 2) pe_int fun _ => .int _) (nomark _)) (q_tup (qa_cons (qv 1) (qa_cons (qcon (.str "corner") pe_str fun _ => .str _) qa_nil))) (q_tup (qa_cons (qv 2) (qa_cons (qcon (.str "face") pe_str fun _ => .str _) qa_nil)))) (g_tup rfl (g_cons (g_name (i := 4) sc_law_bend.nd rfl (Or.inl rfl)) (g_cons (g_name (i := 5) sc_law_bend.nd rfl (Or.inl rfl)) g_nil))))
    (qs_cons (qs_set (i := 6) sc_law_bend.nd rfl (Or.inl rfl) (q_call G_law_draw (hr.mono (by decide)) rfl (g_law_draw C) (kp_law_draw C) (bd_law_draw C) (qa_cons (qv 0) (qa_cons (q_opF o_addR l_addF (q_cb call_len l_len (by rfl) (fr_len C) PySem.boot_len (qa_cons (qv 4) qa_nil)) (qcon (.int 1) pe_int fun _ => .int _)) qa_nil))))
    (qs_one (qs_if (tw (tw_or (t_cmp (o_eq (hu64 hr)) l_eq (qv 6) (q_cb call_len l_len (by rfl) (fr_len C) PySem.boot_len (qa_cons (qv 4) qa_nil)) (nomark _)) (tw_or1 (t_cmp (o_eq (hu64 hr)) l_eq (q_call G_law_draw (hr.mono (by decide)) rfl (g_law_draw C) (kp_law_draw C) (bd_law_draw C) (qa_cons (qv 0) (qa_cons (qcon (.int 5) pe_int fun _ => .int _) qa_nil))) (qcon (.int 0) pe_int fun _ => .int _) (nomark _))))) (qs_one (qs_expr (q_bm PySem.F.plainAttrs_list PySem.F.slot_list_insert PySem.F.type_list_insert mt_insert l_insert (qv 4) (qa_cons (qv 6) (qa_cons (q_call G_law_any (hr.mono (by decide)) rfl (g_law_any C) (kp_law_any C) (bd_law_any C) (qa_cons (qv 0) qa_nil)) qa_nil))))) (qs_one (qs_if (t_not (t_tru (q_cb call_isi (l_isi "tuple" (by decide)) (by rfl) (fr_isinstance C) (by decide +kernel) (qa_cons (q_ix (qv 4) (qv 6)) (qa_cons (q_ty rfl (fr_tuple C) (by decide +kernel)) qa_nil))))) (qs_one (qs_asg (q_call G_law_any (hr.mono (by decide)) rfl (g_law_any C) (kp_law_any C) (bd_law_any C) (qa_cons (qv 0) qa_nil)) (g_sub (qv 4) (qv 6)))) (qs_one (qs_if (t_cmp (o_eq (hu64 hr)) l_eq (qv 5) (qcon (.str "corner") pe_str fun _ => .str _) (nomark _)) (qs_one (qs_asg (q_call G_law_bent_corner (hr.mono (by decide)) rfl (g_law_bent_corner C) (kp_law_bent_corner C) (bd_law_bent_corner C) (qa_cons (qv 0) (qa_cons (q_ix (qv 4) (qv 6)) qa_nil))) (g_sub (qv 4) (qv 6)))) (qs_one (qs_asg (q_call G_law_bent_face (hr.mono (by decide)) rfl (g_law_bent_face C) (kp_law_bent_face C) (bd_law_bent_face C) (qa_cons (qv 0) (qa_cons (q_ix (qv 4) (qv 6)) (qa_cons (qv 3) qa_nil)))) (g_sub (qv 4) (qv 6)))))))))))))
/-! _law_drawn -/
theorem sc_law_drawn : FnScope ["_law_bag_here", "_law_many", "_law_cs", "_law_k", "_law_fs"] ["_law_bag_here"] (defScope s_law_drawn) := ⟨rfl, rfl, rfl, by decide +kernel, rfl, by decide +kernel, by decide +kernel⟩
theorem kp_law_drawn {K : PySem.W.Frag} {mg : Str → Option Value} (C : Hc K mg) : PySem.W.keepIn K (.ref (He.fAd K (("_law_drawn", none)))) = true := (f_law_drawn C).kp
theorem bd_law_drawn {K : PySem.W.Frag} {mg : Str → Option Value} (C : Hc K mg) : Binds K (fdAt K (("_law_drawn", none))) ["_law_bag_here"] [] := (f_law_drawn C).bindsN fun _ _ _ _ _ _ us hl => match us, hl with | [_], _ => rfl
theorem dv_law_drawn {P : Program} {w : World} {K : PySem.W.Frag} {mg : Str → Option Value} {base : Heap} (C : Hc K mg) (G_law_of : FnOk P w K mg base CX0 2 (He.fAd K (("_law_of", none))) (fdAt K (("_law_of", none))) ["_law_bag_here", "_law_things"] (lSp K sp_law_of)) (G_law_number : FnOk P w K mg base CX0 2 (He.fAd K (("_law_number", none))) (fdAt K (("_law_number", none))) ["_law_bag_here"] (lSp K sp_law_number)) (G_law_draw : FnOk P w K mg base CX0 1 (He.fAd K (("_law_draw", none))) (fdAt K (("_law_draw", none))) ["_law_bag_here", "_law_many_y"] (lSp K sp_law_draw))
    (cdv : Value) (A : Around) (outer : List Env) (s : Shared) (H : Hp) (E : XK) (hr : Room 2 (A.deeper (envOfC "_law_drawn" (defScope s_law_drawn) s.heap.objs.size (He.fAd K (("_law_drawn", none))) cdv))) :
    QSs (cxOf CX0 P w K mg base ["_law_bag_here", "_law_many", "_law_cs", "_law_k", "_law_fs"] "_law_drawn" (defScope s_law_drawn) (He.fAd K (("_law_drawn", none))) cdv A outer s H E) (defBody s_law_drawn) (t_law_drawn K) :=
  (qs_cons (qs_set (i := 1) sc_law_drawn.nd rfl (Or.inl rfl) (q_call G_law_of (hr.mono (by decide)) rfl (g_law_of C) (kp_law_of C) (bd_law_of C) (qa_cons (qv 0) (qa_cons (q_lstF (qa_cons (qcon (.int 4) pe_int fun _ => .int _) (qa_cons (qcon (.int 3) pe_int fun _ => .int _) (qa_cons (qcon (.int 5) pe_int fun _ => .int _) (qa_cons (qcon (.int 6) pe_int fun _ => .int _) (qa_cons (qcon (.int 1) pe_int fun _ => .int _) (qa_cons (qcon (.int 2) pe_int fun _ => .int _) (qa_cons (qcon (.int 8) pe_int fun _ => .int _) (qa_cons (qcon (.int 0) pe_int fun _ => .int _) (qa_cons (qcon (.int 4) pe_int fun _ => .int _) (qa_cons (qcon (.int 3) pe_int fun _ => .int _) (qa_cons (qcon (.int 7) pe_int fun _ => .int _) qa_nil)))))))))))) qa_nil))))
    (qs_cons (qs_setLc (i := 2) (own := [("_law_k", 3)]) rfl sc_law_drawn.nd rfl rfl (sw_true rfl rfl rfl (by decide +kernel)) (i_rng1 (qv 1) rfl (fr_range C)) (blkOk_by (own := [("_law_k", 3)]) (by kernel_rfl)) (fun _ _ _ _ _ => (gv_name (i := 3) sc_law_drawn.nd rfl (Or.inl rfl) (by decide))) (fun _ _ _ _ _ => ts_nil) (fun _ _ _ _ _ => (q_tup (qa_cons (q_call G_law_number (hr.mono (by decide)) rfl (g_law_number C) (kp_law_number C) (bd_law_number C) (qa_cons (qv 0) qa_nil)) (qa_cons (q_call G_law_number (hr.mono (by decide)) rfl (g_law_number C) (kp_law_number C) (bd_law_number C) (qa_cons (qv 0) qa_nil)) (qa_cons (q_call G_law_number (hr.mono (by decide)) rfl (g_law_number C) (kp_law_number C) (bd_law_number C) (qa_cons (qv 0) qa_nil)) qa_nil))))))
    (qs_cons (qs_for hpN rfl (i_rng2 (qcon (.int 1) pe_int fun _ => .int _) (qv 1) rfl (fr_range C)) (g_name (i := 3) sc_law_drawn.nd rfl (Or.inl rfl)) (qs_one (qs_if (t_cmp (o_eq (hu64 hr)) l_eq (q_call G_law_draw (hr.mono (by decide)) rfl (g_law_draw C) (kp_law_draw C) (bd_law_draw C) (qa_cons (qv 0) (qa_cons (qcon (.int 8) pe_int fun _ => .int _) qa_nil))) (qcon (.int 0) pe_int fun _ => .int _) (nomark _)) (qs_one (qs_asg (q_ix (qv 2) (q_call G_law_draw (hr.mono (by decide)) rfl (g_law_draw C) (kp_law_draw C) (bd_law_draw C) (qa_cons (qv 0) (qa_cons (qv 3) qa_nil)))) (g_sub (qv 2) (qv 3)))) qs_nil)))
    (qs_cons (qs_set (i := 4) sc_law_drawn.nd rfl (Or.inl rfl) (q_lst qa_nil))
    (qs_cons (qs_for hpN rfl (i_rng1 (q_call G_law_draw (hr.mono (by decide)) rfl (g_law_draw C) (kp_law_draw C) (bd_law_draw C) (qa_cons (qv 0) (qa_cons (qcon (.int 8) pe_int fun _ => .int _) qa_nil))) rfl (fr_range C)) (g_name (i := 3) sc_law_drawn.nd rfl (Or.inl rfl)) (qs_one (qs_if (t_cmp op_gt l_gt (qv 1) (qcon (.int 0) pe_int fun _ => .int _) (nomark _)) (qs_one (qs_expr (q_bm PySem.F.plainAttrs_list PySem.F.slot_list_append PySem.F.type_list_append mt_append l_append (qv 4) (qa_cons (q_tup (qa_cons (q_call G_law_draw (hr.mono (by decide)) rfl (g_law_draw C) (kp_law_draw C) (bd_law_draw C) (qa_cons (qv 0) (qa_cons (qv 1) qa_nil))) (qa_cons (q_call G_law_draw (hr.mono (by decide)) rfl (g_law_draw C) (kp_law_draw C) (bd_law_draw C) (qa_cons (qv 0) (qa_cons (qv 1) qa_nil))) (qa_cons (q_call G_law_draw (hr.mono (by decide)) rfl (g_law_draw C) (kp_law_draw C) (bd_law_draw C) (qa_cons (qv 0) (qa_cons (qv 1) qa_nil))) qa_nil)))) qa_nil)))) qs_nil)))
    (qs_one (qs_ret (q_tup (qa_cons (q_fz (qv 2)) (qa_cons (q_fz (qv 4)) qa_nil))))))))))
/-! _law_pair -/
theorem sc_law_pair : FnScope ["_law_p"] ["_law_p"] (defScope s_law_pair) := ⟨rfl, rfl, rfl, by decide +kernel, rfl, by decide +kernel, by decide +kernel⟩
theorem kp_law_pair {K : PySem.W.Frag} {mg : Str → Option Value} (C : Hc K mg) : PySem.W.keepIn K (.ref (He.fAd K (("_law_pair", none)))) = true := (f_law_pair C).kp
theorem bd_law_pair {K : PySem.W.Frag} {mg : Str → Option Value} (C : Hc K mg) : Binds K (fdAt K (("_law_pair", none))) ["_law_p"] [] := (f_law_pair C).bindsN fun _ _ _ _ _ _ us hl => match us, hl with | [_], _ => rfl
theorem dv_law_pair {P : Program} {w : World} {K : PySem.W.Frag} {mg : Str → Option Value} {base : Heap} (C : Hc K mg) 
    (cdv : Value) (A : Around) (outer : List Env) (s : Shared) (H : Hp) (E : XK) (hr : Room 0 (A.deeper (envOfC "_law_pair" (defScope s_law_pair) s.heap.objs.size (He.fAd K (("_law_pair", none))) cdv))) :
    QSs (cxOf CX0 P w K mg base ["_law_p"] "_law_pair" (defScope s_law_pair) (He.fAd K (("_law_pair", none))) cdv A outer s H E) (defBody s_law_pair) (t_law_pair K) :=
  (qs_one (qs_ret (q_if (t_tru (q_cb call_isi (l_isi "int" (by decide)) (by rfl) (fr_isinstance C) (by decide +kernel) (qa_cons (qv 0) (qa_cons (q_ty rfl (fr_int C) (by decide +kernel)) qa_nil)))) (q_tup (qa_cons (qv 0) (qa_cons (qcon (.int 1) pe_int fun _ => .int _) qa_nil))) (qv 0))))
/-! _law_once -/
theorem sc_law_once : FnScope ["_law_bag_here", "_law_cs", "_law_fs", "_law_due", "_law_given_a", "_law_given_b", "_law_solid", "_law_twin", "_law_other_cs", "_law_other_fs", "_law_at", "_law_k", "_law_third", "_law_corner_items", "_law_face_items", "_law_found", "_law_bad_here", "_law_right", "_law_item", "_law_p"] ["_law_bag_here"] (defScope s_law_once) := ⟨rfl, rfl, rfl, by decide +kernel, rfl, by decide +kernel, by decide +kernel⟩
theorem kp_law_once {K : PySem.W.Frag} {mg : Str → Option Value} (C : Hc K mg) : PySem.W.keepIn K (.ref (He.fAd K (("_law_once", none)))) = true := (f_law_once C).kp
theorem bd_law_once {K : PySem.W.Frag} {mg : Str → Option Value} (C : Hc K mg) : Binds K (fdAt K (("_law_once", none))) ["_law_bag_here"] [] := (f_law_once C).bindsN fun _ _ _ _ _ _ us hl => match us, hl with | [_], _ => rfl
theorem dv_law_once {P : Program} {w : World} {K : PySem.W.Frag} {mg : Str → Option Value} {base : Heap} (C : Hc K mg) (G_law_drawn : FnOk P w K mg base CX0 3 (He.fAd K (("_law_drawn", none))) (fdAt K (("_law_drawn", none))) ["_law_bag_here"] (lSp K sp_law_drawn)) (G_law_handed : FnOk P w K mg base CX0 3 (He.fAd K (("_law_handed", none))) (fdAt K (("_law_handed", none))) ["_law_bag_here", "_law_spots"] (lSp K sp_law_handed)) (G_law_draw : FnOk P w K mg base CX0 1 (He.fAd K (("_law_draw", none))) (fdAt K (("_law_draw", none))) ["_law_bag_here", "_law_many_y"] (lSp K sp_law_draw)) (G_Net_init : FnOk P w K mg base (L2.CX P w) 4 (He.fAd K (("Net", some "__init__"))) (fdAt K (("Net", some "__init__"))) ["self", "corners", "faces"] (lSp K (sp_Net_init K))) (G_law_same : FnOk P w K mg base CX0 6 (He.fAd K (("_law_same", none))) (fdAt K (("_law_same", none))) ["_law_found", "_law_due"] (lSp K sp_law_same)) (G_Net_eq : FnOk P w K mg base CX0 1 (He.fAd K (("Net", some "__eq__"))) (fdAt K (("Net", some "__eq__"))) ["self", "other"] (lSp K (sp_Net_eq K))) (G_law_number : FnOk P w K mg base CX0 2 (He.fAd K (("_law_number", none))) (fdAt K (("_law_number", none))) ["_law_bag_here"] (lSp K sp_law_number)) (G_law_bend : FnOk P w K mg base CX0 4 (He.fAd K (("_law_bend", none))) (fdAt K (("_law_bend", none))) ["_law_bag_here", "_law_corner_items", "_law_face_items"] (lSp K sp_law_bend)) (G_law_bad : FnOk P w K mg base CX0 3 (He.fAd K (("_law_bad", none))) (fdAt K (("_law_bad", none))) ["_law_corner_items", "_law_face_items"] (lSp K sp_law_bad)) (G_law_pair : FnOk P w K mg base CX0 1 (He.fAd K (("_law_pair", none))) (fdAt K (("_law_pair", none))) ["_law_p"] (lSp K sp_law_pair)) (TB : LamX.TabB base mg (He.cT K (("_law_once", none))).1 (He.cT K (("_law_once", none))).2)
    (A : Around) (outer : List Env) (s : Shared) (H : Hp) (E : XK) (hr : Room 7 (A.deeper (envOfC "_law_once" (defScope s_law_once) s.heap.objs.size (He.fAd K (("_law_once", none))) (.ref (He.codeOf K (("_law_once", none))))))) :
    QSs (cxOf CX0 P w K mg base ["_law_bag_here", "_law_cs", "_law_fs", "_law_due", "_law_given_a", "_law_given_b", "_law_solid", "_law_twin", "_law_other_cs", "_law_other_fs", "_law_at", "_law_k", "_law_third", "_law_corner_items", "_law_face_items", "_law_found", "_law_bad_here", "_law_right", "_law_item", "_law_p"] "_law_once" (defScope s_law_once) (He.fAd K (("_law_once", none))) (.ref (He.codeOf K (("_law_once", none)))) A outer s H E) (defBody s_law_once) (t_law_once K) :=
  (qs_cons (qs_asg (q_call G_law_drawn (hr.mono (by decide)) rfl (g_law_drawn C) (kp_law_drawn C) (bd_law_drawn C) (qa_cons (qv 0) qa_nil)) (g_tup rfl (g_cons (g_name (i := 1) sc_law_once.nd rfl (Or.inl rfl)) (g_cons (g_name (i := 2) sc_law_once.nd rfl (Or.inl rfl)) g_nil))))
    (qs_cons (qs_set (i := 3) sc_law_once.nd rfl (Or.inl rfl) (q_lstF (qa_cons (q_cty call_tuple_of l_tuple (by rfl) (fr_tuple C) (by decide +kernel) (qa_cons (qv 1) qa_nil)) (qa_cons (q_cty call_tuple_of l_tuple (by rfl) (fr_tuple C) (by decide +kernel) (qa_cons (qv 2) qa_nil)) qa_nil))))
    (qs_cons (qs_par (i := 4) (j := 5) rfl sc_law_once.nd rfl rfl (by decide) rfl rfl (qa_cons (q_call G_law_handed (hr.mono (by decide)) rfl (g_law_handed C) (kp_law_handed C) (bd_law_handed C) (qa_cons (qv 0) (qa_cons (qv 1) qa_nil))) (qa_cons (q_cty call_list_of l_list (by rfl) (fr_list C) (by decide +kernel) (qa_cons (qv 2) qa_nil)) qa_nil)) (by rfl))
    (qs_cons (qs_set (i := 6) sc_law_once.nd rfl (Or.inl rfl) (q_if (t_cmp (o_eq (hu64 hr)) l_eq (q_call G_law_draw (hr.mono (by decide)) rfl (g_law_draw C) (kp_law_draw C) (bd_law_draw C) (qa_cons (qv 0) (qa_cons (qcon (.int 4) pe_int fun _ => .int _) qa_nil))) (qcon (.int 0) pe_int fun _ => .int _) (nomark _)) (q_fz (q_makeX0 (mk_Net C) G_Net_init (hr.mono (by decide)) rfl (g_Net C) (bd_Net_init C) (qa_cons (q_cty call_tuple_of l_tuple (by rfl) (fr_tuple C) (by decide +kernel) (qa_cons (qv 4) qa_nil)) (qa_cons (q_cty call_tuple_of l_tuple (by rfl) (fr_tuple C) (by decide +kernel) (qa_cons (qv 5) qa_nil)) qa_nil)))) (q_fz (q_makeX0 (mk_Net C) G_Net_init (hr.mono (by decide)) rfl (g_Net C) (bd_Net_init C) (qa_cons (qv 4) (qa_cons (qv 5) qa_nil))))))
    (qs_cons (qs_if (t_not (t_tru (q_call G_law_same (hr.mono (by decide)) rfl (g_law_same C) (kp_law_same C) (bd_law_same C) (qa_cons (q_lstF (qa_cons (q_fldF (qv 6)) (qa_cons (q_fldF (qv 6)) qa_nil))) (qa_cons (qv 3) qa_nil))))) (qs_one (qs_ret (qcon (.bl false) pe_bl fun _ => .bl _))) qs_nil)
    (qs_cons (qs_set (i := 7) sc_law_once.nd rfl (Or.inl rfl) (q_fz (q_makeKX0 (ks := ["faces", "corners"]) List.reverse rg_rev (mk_Net C) G_Net_init (hr.mono (by decide)) rfl (g_Net C) (kbn_of 1 (f_Net_init C) List.reverse rg_rev fun _ _ _ _ _ _ us ws h1 h2 s => match us, ws, h1, h2 with | [_], [_, _], _, _ => .of_eq rfl) (k_cons (q_ctyF call_list_of l_listF (by rfl) (fr_list C) (by decide +kernel) (qa_cons (qv 2) qa_nil)) (k_cons (q_fz (q_call G_law_handed (hr.mono (by decide)) rfl (g_law_handed C) (kp_law_handed C) (bd_law_handed C) (qa_cons (qv 0) (qa_cons (qv 1) qa_nil)))) k_nil)) rfl)))
    (qs_cons (qs_expr (q_bm PySem.F.plainAttrs_list PySem.F.slot_list_insert PySem.F.type_list_insert mt_insert l_insert (qv 4) (qa_cons (qcon (.int 0) pe_int fun _ => .int _) (qa_cons (q_tup (qa_cons (qcon (.int 5) pe_int fun _ => .int _) (qa_cons (qcon (.int 5) pe_int fun _ => .int _) (qa_cons (qcon (.int 5) pe_int fun _ => .int _) qa_nil)))) qa_nil))))
    (qs_cons (qs_expr (q_bm PySem.F.plainAttrs_list PySem.F.slot_list_append PySem.F.type_list_append mt_append l_append (qv 5) (qa_cons (q_tup (qa_cons (qcon (.int 0) pe_int fun _ => .int _) (qa_cons (qcon (.int 0) pe_int fun _ => .int _) (qa_cons (qcon (.int 0) pe_int fun _ => .int _) qa_nil)))) qa_nil)))
    (qs_cons (qs_if (t_not (t_tru (q_call G_law_same (hr.mono (by decide)) rfl (g_law_same C) (kp_law_same C) (bd_law_same C) (qa_cons (q_lstF (qa_cons (q_fldF (qv 6)) (qa_cons (q_fldF (qv 6)) (qa_cons (q_cmp (op_own G_Net_eq (hr.mono (by decide)) (eq_Net C) (fn_Net C) (bd_Net_eq C)) l_own (qv 6) (qv 7) (nomark _)) (qa_cons (q_cmp (op_own G_Net_eq (hr.mono (by decide)) (eq_Net C) (fn_Net C) (bd_Net_eq C)) l_own (qv 7) (qv 6) (nomark _)) qa_nil))))) (qa_cons (q_opF o_addR l_addF (qv 3) (q_lstF (qa_cons (qcon (.bl true) pe_bl fun _ => .bl _) (qa_cons (qcon (.bl true) pe_bl fun _ => .bl _) qa_nil)))) qa_nil))))) (qs_one (qs_ret (qcon (.bl false) pe_bl fun _ => .bl _))) qs_nil)
    (qs_cons (qs_par (i := 8) (j := 9) rfl sc_law_once.nd rfl rfl (by decide) rfl rfl (qa_cons (q_cty call_list_of l_list (by rfl) (fr_list C) (by decide +kernel) (qa_cons (qv 1) qa_nil)) (qa_cons (q_cty call_list_of l_list (by rfl) (fr_list C) (by decide +kernel) (qa_cons (qv 2) qa_nil)) qa_nil)) (by rfl))
    (qs_cons (qs_if (tw (tw_and (t_cmp op_gt l_gt (q_cb call_len l_len (by rfl) (fr_len C) PySem.boot_len (qa_cons (qv 1) qa_nil)) (qcon (.int 0) pe_int fun _ => .int _) (nomark _)) (tw_and1 (t_cmp (o_eq (hu64 hr)) l_eq (q_call G_law_draw (hr.mono (by decide)) rfl (g_law_draw C) (kp_law_draw C) (bd_law_draw C) (qa_cons (qv 0) (qa_cons (qcon (.int 2) pe_int fun _ => .int _) qa_nil))) (qcon (.int 0) pe_int fun _ => .int _) (nomark _))))) (qs_cons (qs_par (i := 10) (j := 11) rfl sc_law_once.nd rfl rfl (by decide) rfl rfl (qa_cons (q_call G_law_draw (hr.mono (by decide)) rfl (g_law_draw C) (kp_law_draw C) (bd_law_draw C) (qa_cons (qv 0) (qa_cons (q_cb call_len l_len (by rfl) (fr_len C) PySem.boot_len (qa_cons (qv 1) qa_nil)) qa_nil))) (qa_cons (q_call G_law_draw (hr.mono (by decide)) rfl (g_law_draw C) (kp_law_draw C) (bd_law_draw C) (qa_cons (qv 0) (qa_cons (qcon (.int 3) pe_int fun _ => .int _) qa_nil))) qa_nil)) (by rfl))
    (qs_one (qs_asg (q_opF o_addR l_addF (q_opF o_addR l_addF (q_slF (q_ix (qv 1) (qv 10)) o_none (o_some (qv 11))) (q_tup (qa_cons (q_call G_law_number (hr.mono (by decide)) rfl (g_law_number C) (kp_law_number C) (bd_law_number C) (qa_cons (qv 0) qa_nil)) qa_nil))) (q_slF (q_ix (qv 1) (qv 10)) (o_some (q_opF o_addR l_addF (qv 11) (qcon (.int 1) pe_int fun _ => .int _))) o_none)) (g_sub (qv 8) (qv 10))))) (qs_one (qs_if (t_cmp op_gt l_gt (q_cb call_len l_len (by rfl) (fr_len C) PySem.boot_len (qa_cons (qv 2) qa_nil)) (qcon (.int 0) pe_int fun _ => .int _) (nomark _)) (qs_cons (qs_set (i := 10) sc_law_once.nd rfl (Or.inl rfl) (q_call G_law_draw (hr.mono (by decide)) rfl (g_law_draw C) (kp_law_draw C) (bd_law_draw C) (qa_cons (qv 0) (qa_cons (q_cb call_len l_len (by rfl) (fr_len C) PySem.boot_len (qa_cons (qv 2) qa_nil)) qa_nil))))
    (qs_one (qs_asg (q_opF o_addR l_addF (q_slF (q_ix (qv 2) (qv 10)) (o_some (qcon (.int 1) pe_int fun _ => .int _)) o_none) (q_slF (q_ix (qv 2) (qv 10)) o_none (o_some (qcon (.int 1) pe_int fun _ => .int _)))) (g_sub (qv 9) (qv 10))))) qs_nil)))
    (qs_cons (qs_set (i := 12) sc_law_once.nd rfl (Or.inl rfl) (q_fz (q_makeX0 (mk_Net C) G_Net_init (hr.mono (by decide)) rfl (g_Net C) (bd_Net_init C) (qa_cons (qv 8) (qa_cons (qv 9) qa_nil)))))
    (qs_cons (qs_if (t_not (t_tru (q_call G_law_same (hr.mono (by decide)) rfl (g_law_same C) (kp_law_same C) (bd_law_same C) (qa_cons (q_cmp (op_own G_Net_eq (hr.mono (by decide)) (eq_Net C) (fn_Net C) (bd_Net_eq C)) l_own (qv 6) (qv 12) (nomark _)) (qa_cons (q_and (q_cmp (o_eq (hu64 hr)) l_eq (qv 8) (qv 1) (nomark _)) (q_one (q_cmp (o_eq (hu64 hr)) l_eq (qv 9) (qv 2) (nomark _)))) qa_nil))))) (qs_one (qs_ret (qcon (.bl false) pe_bl fun _ => .bl _))) qs_nil)
    (qs_cons (qs_asg (q_tup (qa_cons (q_cty call_list_of l_list (by rfl) (fr_list C) (by decide +kernel) (qa_cons (qv 1) qa_nil)) (qa_cons (q_cty call_list_of l_list (by rfl) (fr_list C) (by decide +kernel) (qa_cons (qv 2) qa_nil)) qa_nil))) (g_tup rfl (g_cons (g_name (i := 13) sc_law_once.nd rfl (Or.inr rfl)) (g_cons (g_name (i := 14) sc_law_once.nd rfl (Or.inr rfl)) g_nil))))
    (qs_cons (qs_for hpX rfl (i_rng1 (q_opF o_addR l_addF (qcon (.int 1) pe_int fun _ => .int _) (q_call G_law_draw (hr.mono (by decide)) rfl (g_law_draw C) (kp_law_draw C) (bd_law_draw C) (qa_cons (qv 0) (qa_cons (qcon (.int 2) pe_int fun _ => .int _) qa_nil)))) rfl (fr_range C)) (g_name (i := 11) sc_law_once.nd rfl (Or.inl rfl)) (qs_one (qs_expr (q_call G_law_bend (hr.mono (by decide)) rfl (g_law_bend C) (kp_law_bend C) (bd_law_bend C) (qa_cons (qv 0) (qa_cons (qv 13) (qa_cons (qv 14) qa_nil)))))))
    (qs_cons (qs_set (i := 15) sc_law_once.nd rfl (Or.inl rfl) (q_lamF (k := 5) rfl (g_law_try C) (f_law_try C) (bd_law_try C) sc_law_try rfl (Or.inl rfl) (fun _ => gv_law_try C _ _) TB rfl (List.mem_singleton.mpr rfl) (fun p hp _ => by cases List.mem_singleton.mp hp; rfl) (hr.mono (by decide)) (LamX.lamS_by (by kernel_rfl)) rfl (fun _ _ _ _ _ => rfl) (fun A outer s H E f c' hr2 tk => (px_make (mk_Net C) G_Net_init tk (hr2.mono (by decide)) rfl (g_Net C) (bd_Net_init C) (qa_cons (qv 13) (qa_cons (qv 14) qa_nil))))))
    (qs_cons (qs_set (i := 16) sc_law_once.nd rfl (Or.inl rfl) (q_call G_law_bad (hr.mono (by decide)) rfl (g_law_bad C) (kp_law_bad C) (bd_law_bad C) (qa_cons (qv 13) (qa_cons (qv 14) qa_nil))))
    (qs_cons (qs_if (t_cmp (o_ne (hu64 hr)) l_ne (qv 16) (q_tup qa_nil) (nomark _)) (qs_one (qs_ret (q_and (q_call G_law_same (hr.mono (by decide)) rfl (g_law_same C) (kp_law_same C) (bd_law_same C) (qa_cons (qv 15) (qa_cons (qv 16) qa_nil))) (q_and (q_call G_law_same (hr.mono (by decide)) rfl (g_law_same C) (kp_law_same C) (bd_law_same C) (qa_cons (q_fldF (q_fz (q_makeX0 (mk_Net C) G_Net_init (hr.mono (by decide)) rfl (g_Net C) (bd_Net_init C) (qa_cons (qv 1) (qa_cons (qv 2) qa_nil))))) (qa_cons (q_cty call_tuple_of l_tuple (by rfl) (fr_tuple C) (by decide +kernel) (qa_cons (qv 1) qa_nil)) qa_nil))) (q_one (q_cmp (op_own G_Net_eq (hr.mono (by decide)) (eq_Net C) (fn_Net C) (bd_Net_eq C)) l_own (qv 6) (qv 7) (nomark _))))))) qs_nil)
    (qs_cons (qs_if (t_cmp (o_ne (hu64 hr)) l_ne (q_ixk 0 (qv 15) pe_int) (qcon (.str "") pe_str fun _ => .str _) (nomark _)) (qs_one (qs_ret (qcon (.bl false) pe_bl fun _ => .bl _))) qs_nil)
    (qs_cons (qs_set (i := 17) sc_law_once.nd rfl (Or.inl rfl) (q_cty call_tuple_of l_tuple (by rfl) (fr_tuple C) (by decide +kernel) (qa_cons (q_lcF (own := [("_law_item", 18)]) rfl sc_law_once.nd (i_seq (qv 13)) (blkOk_by (own := [("_law_item", 18)]) (by kernel_rfl)) (fun _ _ _ _ _ => (gp_name (i := 18) sc_law_once.nd rfl (Or.inl rfl) (by decide))) (fun _ _ _ _ _ => ts_nil) (fun _ _ _ _ _ => (q_cty call_tuple_of l_tuple (by rfl) (fr_tuple C) (by decide +kernel) (qa_cons (q_lcF (own := [("_law_p", 19)]) rfl sc_law_once.nd (i_seq (qv 18)) (blkOk_by (own := [("_law_p", 19)]) (by kernel_rfl)) (fun _ _ _ _ _ => (gp_name (i := 19) sc_law_once.nd rfl (Or.inl rfl) (by decide))) (fun _ _ _ _ _ => ts_nil) (fun _ _ _ _ _ => (q_call G_law_pair (hr.mono (by decide)) rfl (g_law_pair C) (kp_law_pair C) (bd_law_pair C) (qa_cons (qv 19) qa_nil)))) qa_nil)))) qa_nil)))
    (qs_one (qs_ret (q_call G_law_same (hr.mono (by decide)) rfl (g_law_same C) (kp_law_same C) (bd_law_same C) (qa_cons (q_lstF (qa_cons (q_fldF (q_ixk 1 (qv 15) pe_int)) (qa_cons (q_fldF (q_ixk 1 (qv 15) pe_int)) qa_nil))) (qa_cons (q_lstF (qa_cons (qv 17) (qa_cons (q_cty call_tuple_of l_tuple (by rfl) (fr_tuple C) (by decide +kernel) (qa_cons (qv 14) qa_nil)) qa_nil))) qa_nil)))))))))))))))))))))))))
/-! law -/
theorem sc_law : FnScope ["_law_script", "_law_bag_here", "_law_turn"] ["_law_script"] (defScope s_law) := ⟨rfl, rfl, rfl, by decide +kernel, rfl, by decide +kernel, by decide +kernel⟩
theorem kp_law {K : PySem.W.Frag} {mg : Str → Option Value} (C : Hc K mg) : PySem.W.keepIn K (.ref (He.fAd K (("law", none)))) = true := (f_law C).kp
theorem bd_law {K : PySem.W.Frag} {mg : Str → Option Value} (C : Hc K mg) : Binds K (fdAt K (("law", none))) ["_law_script"] [] := (f_law C).bindsN fun _ _ _ _ _ _ us hl => match us, hl with | [_], _ => rfl
theorem dv_law {P : Program} {w : World} {K : PySem.W.Frag} {mg : Str → Option Value} {base : Heap} (C : Hc K mg) (G_law_bag : FnOk P w K mg base CX0 1 (He.fAd K (("_law_bag", none))) (fdAt K (("_law_bag", none))) ["_law_script"] (lSp K sp_law_bag)) (G_law_once : FnOk P w K mg base CX0 8 (He.fAd K (("_law_once", none))) (fdAt K (("_law_once", none))) ["_law_bag_here"] (lSp K (sp_law_once K)))
    (cdv : Value) (A : Around) (outer : List Env) (s : Shared) (H : Hp) (E : XK) (hr : Room 8 (A.deeper (envOfC "law" (defScope s_law) s.heap.objs.size (He.fAd K (("law", none))) cdv))) :
    QSs (cxOf CX0 P w K mg base ["_law_script", "_law_bag_here", "_law_turn"] "law" (defScope s_law) (He.fAd K (("law", none))) cdv A outer s H E) (defBody s_law) (t_law K) :=
  (qs_cons (qs_set (i := 1) sc_law.nd rfl (Or.inl rfl) (q_call G_law_bag (hr.mono (by decide)) rfl (g_law_bag C) (kp_law_bag C) (bd_law_bag C) (qa_cons (qv 0) qa_nil)))
    (qs_cons (qs_for hpN rfl (i_rng1 (qcon (.int 2) pe_int fun _ => .int _) rfl (fr_range C)) (g_name (i := 2) sc_law.nd rfl (Or.inl rfl)) (qs_one (qs_if (t_not (t_tru (q_call G_law_once (hr.mono (by decide)) rfl (g_law_once C) (kp_law_once C) (bd_law_once C) (qa_cons (qv 1) qa_nil)))) (qs_one (qs_ret (qcon (.bl false) pe_bl fun _ => .bl _))) qs_nil)))
    (qs_one (qs_ret (qcon (.bl true) pe_bl fun _ => .bl _)))))
end Hd

namespace Hd
open PySem PySem.Spec PyProof.Rows L2 Z
theorem ok_sameN {P : Program} {w : World} {K : PySem.W.Frag} {mg : Str → Option Value} {base : Heap} (C : Hc K mg) : ∀ n, FnOk P w K mg base CX0 n (He.fAd K (("_law_same", none))) (fdAt K (("_law_same", none))) ["_law_found", "_law_due"] (lSp K (sp_law_sameN n))
  | 0 => ⟨fun vs H Q E h => by
      obtain ⟨ds, L, Q', E', _, _, q, _⟩ := h
      unfold sp_law_sameN at q
      split at q
      · exact q.1.elim
      · exact q.elim, fun A outer s H args us vs Q E _ _ _ _ h => by
      obtain ⟨ds, L, Q', E', _, _, q, _⟩ := h
      unfold sp_law_sameN at q
      split at q
      · exact q.1.elim
      · exact q.elim⟩
  | n + 1 => okD (f_law_same C) sc_law_same (fun ds L Q E h => by unfold sp_law_sameN at h; split at h <;> first | rfl | exact h.elim) (dv_law_same C n (sp_law_sameN n) (ok_sameN C n)) (rd_law_same n)
theorem ok_law_same {P : Program} {w : World} {K : PySem.W.Frag} {mg : Str → Option Value} {base : Heap} (C : Hc K mg) : FnOk P w K mg base CX0 6 (He.fAd K (("_law_same", none))) (fdAt K (("_law_same", none))) ["_law_found", "_law_due"] (lSp K sp_law_same) := ok_sameN C 6
theorem kit_self {K : PySem.W.Frag} {a : Addr} : PySem.W.kitOne K (.ref a) (.ref a) = some true := by unfold PySem.W.kitOne; rw [if_pos (by simp)]
theorem ok_is_integer {P : Program} {w : World} {K : PySem.W.Frag} {mg : Str → Option Value} {base : Heap} (C : Hc K mg) : FnOk P w K mg base CX0 1 (He.fAd K (("is_integer", none))) (fdAt K (("is_integer", none))) ["value"] (lSp K sp_is_integer) := okD (f_is_integer C) sc_is_integer (fun ds L Q E h => by unfold sp_is_integer at h; split at h <;> first | rfl | exact h.elim) (dv_is_integer C ) rd_is_integer
theorem ok_lowest {P : Program} {w : World} {K : PySem.W.Frag} {mg : Str → Option Value} {base : Heap} (C : Hc K mg) : FnOk P w K mg base CX0 1 (He.fAd K (("lowest", none))) (fdAt K (("lowest", none))) ["n", "d"] (lSp K sp_lowest) := okD (f_lowest C) sc_lowest (fun ds L Q E h => by unfold sp_lowest at h; split at h <;> first | rfl | exact h.elim) (dv_lowest C ) rd_lowest
theorem ok_is_index {P : Program} {w : World} {K : PySem.W.Frag} {mg : Str → Option Value} {base : Heap} (C : Hc K mg) : FnOk P w K mg base CX0 1 (He.fAd K (("_is_index", none))) (fdAt K (("_is_index", none))) ["value", "many"] (lSp K sp_is_index) := okD (f_is_index C) sc_is_index (fun ds L Q E h => by unfold sp_is_index at h; split at h <;> first | rfl | exact h.elim) (dv_is_index C ) rd_is_index
theorem ok_Net_eq {P : Program} {w : World} {K : PySem.W.Frag} {mg : Str → Option Value} {base : Heap} (C : Hc K mg) : FnOk P w K mg base CX0 1 (He.fAd K (("Net", some "__eq__"))) (fdAt K (("Net", some "__eq__"))) ["self", "other"] (lSp K (sp_Net_eq K)) := okD (f_Net_eq C) sc_Net_eq (fun ds L Q E h => by unfold sp_Net_eq at h; split at h <;> first | rfl | exact h.elim) (dv_Net_eq C ) (rd_Net_eq (cl_Net C) (na_Net_corners C) (na_Net_faces C) (ic_Net C) (kit_self))
theorem ok_law_bag {P : Program} {w : World} {K : PySem.W.Frag} {mg : Str → Option Value} {base : Heap} (C : Hc K mg) : FnOk P w K mg base CX0 1 (He.fAd K (("_law_bag", none))) (fdAt K (("_law_bag", none))) ["_law_script"] (lSp K sp_law_bag) := okD (f_law_bag C) sc_law_bag (fun ds L Q E h => by unfold sp_law_bag at h; split at h <;> first | rfl | exact h.elim) (dv_law_bag C ) rd_law_bag
theorem ok_law_draw {P : Program} {w : World} {K : PySem.W.Frag} {mg : Str → Option Value} {base : Heap} (C : Hc K mg) : FnOk P w K mg base CX0 1 (He.fAd K (("_law_draw", none))) (fdAt K (("_law_draw", none))) ["_law_bag_here", "_law_many_y"] (lSp K sp_law_draw) := okD (f_law_draw C) sc_law_draw (fun ds L Q E h => by unfold sp_law_draw at h; split at h <;> first | rfl | exact h.elim) (dv_law_draw C ) rd_law_draw
theorem ok_law_low {P : Program} {w : World} {K : PySem.W.Frag} {mg : Str → Option Value} {base : Heap} (C : Hc K mg) : FnOk P w K mg base CX0 1 (He.fAd K (("_law_low", none))) (fdAt K (("_law_low", none))) ["_law_num", "_law_den"] (lSp K sp_law_low) := okD (f_law_low C) sc_law_low (fun ds L Q E h => by unfold sp_law_low at h; split at h <;> first | rfl | exact h.elim) (dv_law_low C ) rd_law_low
theorem ok_law_pair {P : Program} {w : World} {K : PySem.W.Frag} {mg : Str → Option Value} {base : Heap} (C : Hc K mg) : FnOk P w K mg base CX0 1 (He.fAd K (("_law_pair", none))) (fdAt K (("_law_pair", none))) ["_law_p"] (lSp K sp_law_pair) := okD (f_law_pair C) sc_law_pair (fun ds L Q E h => by unfold sp_law_pair at h; split at h <;> first | rfl | exact h.elim) (dv_law_pair C ) rd_law_pair
theorem ok_is_number {P : Program} {w : World} {K : PySem.W.Frag} {mg : Str → Option Value} {base : Heap} (C : Hc K mg) : FnOk P w K mg base CX0 2 (He.fAd K (("is_number", none))) (fdAt K (("is_number", none))) ["value"] (lSp K sp_is_number) := okD (f_is_number C) sc_is_number (fun ds L Q E h => by unfold sp_is_number at h; split at h <;> first | rfl | exact h.elim) (dv_is_number C (ok_is_integer C)) rd_is_number
theorem ok_is_face {P : Program} {w : World} {K : PySem.W.Frag} {mg : Str → Option Value} {base : Heap} (C : Hc K mg) : FnOk P w K mg base CX0 2 (He.fAd K (("_is_face", none))) (fdAt K (("_is_face", none))) ["value", "many"] (lSp K sp_is_face) := okD (f_is_face C) sc_is_face (fun ds L Q E h => by unfold sp_is_face at h; split at h <;> first | rfl | exact h.elim) (dv_is_face C (ok_is_index C)) rd_is_face
theorem ok_law_of {P : Program} {w : World} {K : PySem.W.Frag} {mg : Str → Option Value} {base : Heap} (C : Hc K mg) : FnOk P w K mg base CX0 2 (He.fAd K (("_law_of", none))) (fdAt K (("_law_of", none))) ["_law_bag_here", "_law_things"] (lSp K sp_law_of) := okD (f_law_of C) sc_law_of (fun ds L Q E h => by unfold sp_law_of at h; split at h <;> first | rfl | exact h.elim) (dv_law_of C (ok_law_draw C)) rd_law_of
theorem ok_law_is_num {P : Program} {w : World} {K : PySem.W.Frag} {mg : Str → Option Value} {base : Heap} (C : Hc K mg) : FnOk P w K mg base CX0 2 (He.fAd K (("_law_is_num", none))) (fdAt K (("_law_is_num", none))) ["_law_p"] (lSp K sp_law_is_num) := okD (f_law_is_num C) sc_law_is_num (fun ds L Q E h => by unfold sp_law_is_num at h; split at h <;> first | rfl | exact h.elim) (dv_law_is_num C (ok_law_low C)) rd_law_is_num
theorem ok_law_hand {P : Program} {w : World} {K : PySem.W.Frag} {mg : Str → Option Value} {base : Heap} (C : Hc K mg) : FnOk P w K mg base CX0 2 (He.fAd K (("_law_hand", none))) (fdAt K (("_law_hand", none))) ["_law_bag_here", "_law_p"] (lSp K sp_law_hand) := okD (f_law_hand C) sc_law_hand (fun ds L Q E h => by unfold sp_law_hand at h; split at h <;> first | rfl | exact h.elim) (dv_law_hand C (ok_law_draw C)) rd_law_hand
theorem ok_law_number {P : Program} {w : World} {K : PySem.W.Frag} {mg : Str → Option Value} {base : Heap} (C : Hc K mg) : FnOk P w K mg base CX0 2 (He.fAd K (("_law_number", none))) (fdAt K (("_law_number", none))) ["_law_bag_here"] (lSp K sp_law_number) := okD (f_law_number C) sc_law_number (fun ds L Q E h => by unfold sp_law_number at h; split at h <;> first | rfl | exact h.elim) (dv_law_number C (ok_law_draw C) (ok_law_low C)) rd_law_number
theorem ok_exact {P : Program} {w : World} {K : PySem.W.Frag} {mg : Str → Option Value} {base : Heap} (C : Hc K mg) : FnOk P w K mg base CX0 3 (He.fAd K (("exact", none))) (fdAt K (("exact", none))) ["value"] (lSp K sp_exact) := okD (f_exact C) sc_exact (fun ds L Q E h => by unfold sp_exact at h; split at h <;> first | rfl | exact h.elim) (dv_exact C (ok_is_integer C) (ok_lowest C)) rd_exact
theorem ok_is_corner {P : Program} {w : World} {K : PySem.W.Frag} {mg : Str → Option Value} {base : Heap} (C : Hc K mg) : FnOk P w K mg base CX0 3 (He.fAd K (("_is_corner", none))) (fdAt K (("_is_corner", none))) ["value"] (lSp K sp_is_corner) := okD (f_is_corner C) sc_is_corner (fun ds L Q E h => by unfold sp_is_corner at h; split at h <;> first | rfl | exact h.elim) (dv_is_corner C (ok_is_number C)) rd_is_corner
theorem ok_law_handed {P : Program} {w : World} {K : PySem.W.Frag} {mg : Str → Option Value} {base : Heap} (C : Hc K mg) : FnOk P w K mg base CX0 3 (He.fAd K (("_law_handed", none))) (fdAt K (("_law_handed", none))) ["_law_bag_here", "_law_spots"] (lSp K sp_law_handed) := okD (f_law_handed C) sc_law_handed (fun ds L Q E h => by unfold sp_law_handed at h; split at h <;> first | rfl | exact h.elim) (dv_law_handed C (ok_law_hand C)) rd_law_handed
theorem ok_law_bad {P : Program} {w : World} {K : PySem.W.Frag} {mg : Str → Option Value} {base : Heap} (C : Hc K mg) : FnOk P w K mg base CX0 3 (He.fAd K (("_law_bad", none))) (fdAt K (("_law_bad", none))) ["_law_corner_items", "_law_face_items"] (lSp K sp_law_bad) := okD (f_law_bad C) sc_law_bad (fun ds L Q E h => by unfold sp_law_bad at h; split at h <;> first | rfl | exact h.elim) (dv_law_bad C (ok_law_is_num C)) rd_law_bad
theorem ok_law_bent_corner {P : Program} {w : World} {K : PySem.W.Frag} {mg : Str → Option Value} {base : Heap} (C : Hc K mg) : FnOk P w K mg base CX0 3 (He.fAd K (("_law_bent_corner", none))) (fdAt K (("_law_bent_corner", none))) ["_law_bag_here", "_law_corner"] (lSp K sp_law_bent_corner) := okD (f_law_bent_corner C) sc_law_bent_corner (fun ds L Q E h => by unfold sp_law_bent_corner at h; split at h <;> first | rfl | exact h.elim) (dv_law_bent_corner C (ok_law_draw C) (ok_law_of C)) rd_law_bent_corner
theorem ok_law_bent_face {P : Program} {w : World} {K : PySem.W.Frag} {mg : Str → Option Value} {base : Heap} (C : Hc K mg) : FnOk P w K mg base CX0 3 (He.fAd K (("_law_bent_face", none))) (fdAt K (("_law_bent_face", none))) ["_law_bag_here", "_law_face", "_law_many"] (lSp K sp_law_bent_face) := okD (f_law_bent_face C) sc_law_bent_face (fun ds L Q E h => by unfold sp_law_bent_face at h; split at h <;> first | rfl | exact h.elim) (dv_law_bent_face C (ok_law_draw C) (ok_law_of C)) rd_law_bent_face
theorem ok_law_any {P : Program} {w : World} {K : PySem.W.Frag} {mg : Str → Option Value} {base : Heap} (C : Hc K mg) : FnOk P w K mg base CX0 3 (He.fAd K (("_law_any", none))) (fdAt K (("_law_any", none))) ["_law_bag_here"] (lSp K sp_law_any) := okD (f_law_any C) sc_law_any (fun ds L Q E h => by unfold sp_law_any at h; split at h <;> first | rfl | exact h.elim) (dv_law_any C (ok_law_of C)) rd_law_any
theorem ok_law_drawn {P : Program} {w : World} {K : PySem.W.Frag} {mg : Str → Option Value} {base : Heap} (C : Hc K mg) : FnOk P w K mg base CX0 3 (He.fAd K (("_law_drawn", none))) (fdAt K (("_law_drawn", none))) ["_law_bag_here"] (lSp K sp_law_drawn) := okD (f_law_drawn C) sc_law_drawn (fun ds L Q E h => by unfold sp_law_drawn at h; split at h <;> first | rfl | exact h.elim) (dv_law_drawn C (ok_law_of C) (ok_law_number C) (ok_law_draw C)) rd_law_drawn
theorem ok_Net_init {P : Program} {w : World} {K : PySem.W.Frag} {mg : Str → Option Value} {base : Heap} (C : Hc K mg) (SP : Sups P K) : FnOk P w K mg base (L2.CX P w) 4 (He.fAd K (("Net", some "__init__"))) (fdAt K (("Net", some "__init__"))) ["self", "corners", "faces"] (lSp K (sp_Net_init K)) := okDX (f_Net_init C) sc_Net_init (fun ds L Q E h => by unfold sp_Net_init at h; split at h <;> first | rfl | exact h.elim) (dv_Net_init C (ok_is_corner C) (ok_is_face C) (ok_exact C) SP) (rd_Net_init (cl_Net C) (na_Net_corners C) (na_Net_faces C))
theorem ok_law_bend {P : Program} {w : World} {K : PySem.W.Frag} {mg : Str → Option Value} {base : Heap} (C : Hc K mg) : FnOk P w K mg base CX0 4 (He.fAd K (("_law_bend", none))) (fdAt K (("_law_bend", none))) ["_law_bag_here", "_law_corner_items", "_law_face_items"] (lSp K sp_law_bend) := okD (f_law_bend C) sc_law_bend (fun ds L Q E h => by unfold sp_law_bend at h; split at h <;> first | rfl | exact h.elim) (dv_law_bend C (ok_law_draw C) (ok_law_any C) (ok_law_bent_corner C) (ok_law_bent_face C)) rd_law_bend
theorem ok_law_once {P : Program} {w : World} {K : PySem.W.Frag} {mg : Str → Option Value} {base : Heap} (C : Hc K mg) (TB : LamX.TabB base mg (He.cT K (("_law_once", none))).1 (He.cT K (("_law_once", none))).2) (SP : Sups P K) : FnOk P w K mg base CX0 8 (He.fAd K (("_law_once", none))) (fdAt K (("_law_once", none))) ["_law_bag_here"] (lSp K (sp_law_once K)) := okDL (f_law_once C) sc_law_once (fun ds L Q E h => by unfold sp_law_once at h; split at h <;> first | rfl | exact h.elim) (dv_law_once C (ok_law_drawn C) (ok_law_handed C) (ok_law_draw C) (ok_Net_init C SP) (ok_law_same C) (ok_Net_eq C) (ok_law_number C) (ok_law_bend C) (ok_law_bad C) (ok_law_pair C) TB) (rd_law_once (⟨cl_Net C, na_Net_corners C, na_Net_faces C, xm_BadNet C, ec_BadNet C, kit_self, kv_BadNet C, xf_BadNet C, no_BadNet_word C, no_BadNet_index C⟩))
theorem ok_law {P : Program} {w : World} {K : PySem.W.Frag} {mg : Str → Option Value} {base : Heap} (C : Hc K mg) (TB : LamX.TabB base mg (He.cT K (("_law_once", none))).1 (He.cT K (("_law_once", none))).2) (SP : Sups P K) : FnOk P w K mg base CX0 9 (He.fAd K (("law", none))) (fdAt K (("law", none))) ["_law_script"] (lSp K (sp_law K)) := okD (f_law C) sc_law (fun ds L Q E h => by unfold sp_law at h; split at h <;> first | rfl | exact h.elim) (dv_law C (ok_law_bag C) (ok_law_once C TB SP)) (rd_law )
theorem facts {P : Program} {w : World} {K : PySem.W.Frag} {h : Heap} {mg : Str → Option Value} {f : Addr} (X : K.In h) (G : h.Ns mainGlobals mg) (hfa : mg ("law" : Str) = some (.ref f)) (c : He.SaysD fa fn K) (ce : ex K = true) (SPf : Hc K mg → Sups P K) :
    ∃ fd : FuncData, (∀ (s : Shared) (v : Value), BindsTo s fd ⟨[v], []⟩ [("_law_script", v)]) ∧ ∀ base : Heap, K.In base → base.Ns mainGlobals mg → LamX.TabB base mg (He.cT K (("_law_once", none))).1 (He.cT K (("_law_once", none))).2 → FnOk P w K mg base CX0 9 f fd ["_law_script"] (lSp K (sp_law K)) := by
  have C : Hc K mg := ⟨⟨h, X, G, c, ce⟩⟩
  have e := hfa.symm.trans (g_law C)
  cases e
  have b := FunD.bindsA (ps := ["_law_script"]) (f_law C) fun _ _ _ _ _ _ us hl => match us, hl with | [_], _ => rfl
  exact ⟨_, fun s v => b s [v] rfl, fun base _ _ TB => ok_law C TB (SPf C)⟩
theorem tab_rep {K : PySem.W.Frag} {H : Hp} {P : Addr} {q : Str} (hT : H P = some (.tbl #[])) : RepH K H (Z.up (fun _ => none) P (.tab q)) := by
  intro b o e
  by_cases hb : b = P
  · subst hb
    rw [up_same] at e
    cases e
    exact LamX.TabS.nil hT
  · rw [up_ne hb] at e
    exact nomatch e
theorem tab_are {K : PySem.W.Frag} : ∃ P q, lamT K = [(P, q)] ∧ P = (He.cT K (("_law_once", none))).2 := ⟨_, _, rfl, rfl⟩
theorem sp_start {K : PySem.W.Frag} {H : Hp} {a : Addr} {ns : List Int} (hT : H (He.cT K (("_law_once", none))).2 = some (.tbl #[])) (hS : SqL K H a (ns.map V.int)) : lSp K (sp_law K) [.ref a] H (fun v _ => v = .bl true) fun _ _ _ => False := by
  obtain ⟨P, q, eT, eP⟩ := tab_are (K := K)
  rw [← eP] at hT
  have r0 := tab_rep (K := K) (q := q) hT
  have t0 : TabsAre (lamT K) (Z.up (fun _ => none) P (.tab q)) := by
    rw [eT]
    refine ⟨fun p hp => ?_, fun P' q' e => ?_⟩
    · cases List.mem_singleton.mp hp
      exact up_same
    · by_cases z : P' = P
      · subst z
        rw [up_same] at e
        cases e
        exact List.mem_singleton.mpr rfl
      · rw [up_ne z] at e
        exact nomatch e
  have fin : ∀ (L : Lp) (d : D), RepH K H L → TabsAre (lamT K) L → (d = .ilst (ns.map D.int) ∨ d = .scr ns ∨ ∃ a, d = .ref a ∧ L a = some (.lst (ns.map D.int))) → RelD K H d (.ref a) → lSp K (sp_law K) [.ref a] H (fun v _ => v = .bl true) fun _ _ _ => False := by
    intro L d rh hTa hd rd
    refine ⟨[d], L, (fun d _ => d = D.bl true : VK'), (fun _ _ _ => False : XK'), .cons rd .nil, rh, ?_, ?_, ?_⟩
    · exact ⟨ns, hd, hTa, fun _ => rfl⟩
    · intro d L1 v H1 q _ _ rd
      have q : d = D.bl true := q
      subst q
      cases rd
      rfl
    · intro _ _ _ _ _ z
      exact False.elim z
  rcases hS with (h | ⟨o, h⟩) | hk
  · have ne : a ≠ P := fun z => by rw [z] at h; rw [hT] at h; cases h
    refine fin (Z.up (Z.up (fun _ => none) P (.tab q)) a (.lst (ns.map D.int))) (.ref a) (fun b u e => ?_) (t0.up (fun q2 e => ?_) fun q2 e => nomatch e) (.inr (.inr ⟨a, rfl, up_same⟩)) (.ref a)
    · by_cases hb : b = a
      · subst hb
        rw [up_same] at e
        cases e
        exact ⟨_, h, RelDs.of_ints ns⟩
      · rw [up_ne hb] at e
        exact r0 b u e
    · rw [up_ne ne] at e
      exact nomatch e
  · exact fin _ _ r0 t0 (.inl rfl) (.ilst ⟨o, h⟩ (RelDs.of_ints ns))
  · exact fin _ _ r0 t0 (.inr (.inl rfl)) (.scr fun H' => .inr hk)
theorem sups_of {w : World} {h : Heap} {K : PySem.W.Frag} {mg : Str → Option Value} (c : SaysY fa fn [] tf sx ex w h K) (C : Hc K mg) : Sups (PySem.Challenge.rw_mostlaid_k18_nets_told).prog K := ⟨supB_ok (d := ⟨"BadNet", "__init__", "BadNet.__init__", defArgs s_BadNet_init, defBody s_BadNet_init, defScope s_BadNet_init⟩) (su_BadNet C) (c.sup 0 rfl) rfl, by kernel_rfl⟩
end Hd
open PySem PySem.W PySem.Calls PyProof.Rows
theorem PySem.Challenge.cw_mostlaid_k18_nets_told_holds : PySem.Challenge.rw_mostlaid_k18_nets_told.Holds := by
  w_on; o_law
  refine HandSHeadRun.head_imp (r := OpenLaw.row PySem.Challenge.rw_mostlaid_k18_nets_told) (q := view (OpenLaw.row PySem.Challenge.rw_mostlaid_k18_nets_told).prog [0, 37]) (H := Hd.hk) (ob := Hd.ob) (M := 40000) (loose := Hd.loose) (d := HandSHeadRun.topDef (OpenLaw.row PySem.Challenge.rw_mostlaid_k18_nets_told).prog 37) (kwd := []) Hd.ob_eq Hd.run (by kernel_rfl) (by kernel_rfl) (by kernel_rfl) (by rfl) (by first | assumption | decide +kernel) (by decide +kernel) ⟨rfl, rfl, rfl, rfl, rfl, by decide +kernel⟩ ?hw ?hc
  case hw => w_witness2
  case hc =>
    refine LamX.walk_ofTsE (l := PySem.Challenge.rw_mostlaid_k18_nets_told) (n := 63) (k := 9) (x := "_law_script") (CX := fun _ => L2.CX0) rfl (by decide) (by kernel_rfl) ⟨rfl, by decide, by decide⟩ ?F (fun _ _ _ _ _ z => z)
    intro w mg fa h Y G hmg0
    obtain ⟨K, KX, c⟩ := Y
    have hmg : mg ("law" : PySem.Str) = some (.ref fa) := by
      have e : (HandSHeadRun.topDef (OpenLaw.row PySem.Challenge.rw_mostlaid_k18_nets_told).prog 37).name = ("law" : PySem.Str) := by kernel_rfl
      rw [← e]
      exact hmg0
    obtain ⟨fd, hb, hF⟩ := Hd.facts (P := (PySem.Challenge.rw_mostlaid_k18_nets_told).prog) (w := w) KX G hmg c.x.t.d c.x.more (fun C => Hd.sups_of c C)
    refine ⟨K, KX, fd, [He.cT K (("_law_once", none))], Z.lSp K (Hd.sp_law K), fun p hp => ?_, fun p hp => ?_, fun p hp => ?_, hb, fun H a ns _ _ hT hS => Hd.sp_start (hT _ (List.mem_singleton.mpr rfl)) hS, fun base hb1 hb2 TB => hF base hb1 hb2 (TB _ (List.mem_singleton.mpr rfl))⟩
    · cases List.mem_singleton.mp hp
      exact c.x.empty _ (List.mem_singleton.mpr rfl)
    · cases List.mem_singleton.mp hp
      exact c.x.out _ (List.mem_singleton.mpr rfl)
    · cases List.mem_singleton.mp hp
      exact PySem.W.codeHd_of_K KX (c.x.hd _ (List.mem_singleton.mpr rfl))
