import PyProof.Rows.All
import Wide.All
import OpenK.AllK
import Wide.FinOn
import HandS.ForMost
import HandS.ForExc
import HandS.Wide
import HandS.Gcd
import HandS.Flow
import HandS.IsInst
import HandS.Zip
import HandS.TupAny
import HandS.More
import HandS.Defaults
import HandS.Lambda
import HandS.Head0
import HandS.Head1
import HandS.Head2
import HandS.Head3
import HandS.HeadEnd
import HandS.HeadHook1
import HandS.HeadHook2
import HandS.HeadHook3
import HandS.Conv
import HandS.DictTup
import HandS.SortInts
import HandS.Style
import HandS.Star
import KE.KMathG
import KE.SortData
import HandS.ExcOwn
import HandS.ExcField
import HandS.ExcIs
import HandS.Small
import HandS.HeadWalk
import HandS.HeadHook4
import PySem.Challenge.RW_mostlaid_k24_lofts_told
set_option Elab.async false
set_option linter.all false
set_option maxRecDepth 100000
set_option maxHeartbeats 0
/-! data over the hand layer: values as plain data, a heap of what may change -/
namespace Z
open PySem PySem.Spec PyProof.Rows L2

/-- a value as data: tuples by their items, what may change by its address -/
inductive D where
  | non | bl (b : Bool) | int (i : Int) | str (x : Str) | tup (ds : List D) | ilst (ds : List D) | ref (a : Addr) | ty (n : String) | obj (C : Addr) (fs : List (Str × D)) | scr (ns : List Int)
/-- an object that may change -/
inductive O where
  | lst (ds : List D) | ins (C : Addr) (fs : List (Str × D)) | dT (kvs : List (List Key × D)) | dK (kvs : List (Key × D)) | tab (q : Str) | xd (fs : List (Str × D))
abbrev Lp := Addr → Option O
def up (L : Lp) (a : Addr) (o : O) : Lp := fun b => if b = a then some o else L b
theorem up_same {L : Lp} {a : Addr} {o : O} : up L a o a = some o := if_pos rfl
theorem up_ne {L : Lp} {a b : Addr} {o : O} (h : b ≠ a) : up L a o b = L b := if_neg h
/-- less is known -/
def Le (L L' : Lp) : Prop := ∀ a o, L a = some o → L' a = some o
theorem Le.refl (L : Lp) : Le L L := fun _ _ h => h
theorem Le.trans {A B C : Lp} (h : Le A B) (k : Le B C) : Le A C := fun a o e => k a o (h a o e)
theorem Le.new {L L' : Lp} {a : Addr} {o : O} (h : Le L L') (n : L a = none) : Le L (up L' a o) := fun b u e => by
  by_cases hb : b = a
  · subst hb; rw [n] at e; cases e
  · rw [up_ne hb]; exact h b u e
theorem Le.up {L L' : Lp} {a : Addr} {o : O} (h : Le L L') : Le (up L a o) (up L' a o) := fun b u e => by
  by_cases hb : b = a
  · subst hb; rw [up_same] at e ⊢; exact e
  · rw [up_ne hb] at e ⊢; exact h b u e

/-- a list that never changes: locked -/
def SqI (K : PySem.W.Frag) (H : Hp) (a : Addr) (xs : List V) : Prop := ∃ ob, H a = some (.frz ob (.lst xs))
theorem SqI.sql {K : PySem.W.Frag} {H : Hp} {a : Addr} {xs : List V} (h : SqI K H a xs) : SqL K H a xs := by
  obtain ⟨ob, h⟩ := h
  exact .inl (.inr ⟨ob, h⟩)
section
variable (K : PySem.W.Frag) (H : Hp)
mutual
inductive RelD : D → V → Prop where
  | non : RelD .non .non
  | bl (b : Bool) : RelD (.bl b) (.bl b)
  | int (i : Int) : RelD (.int i) (.int i)
  | str (x : Str) : RelD (.str x) (.str x)
  | ref (a : Addr) : RelD (.ref a) (.ref a)
  | ty (n : String) : RelD (.ty n) (.ty n)
  | tup {a : Addr} {vs : List V} {ds : List D} : H a = some (.tup vs) → RelDs ds vs → RelD (.tup ds) (.ref a)
  | ilst {a : Addr} {vs : List V} {ds : List D} : SqI K H a vs → RelDs ds vs → RelD (.ilst ds) (.ref a)
  | scr {a : Addr} {ns : List Int} : (∀ H' : Hp, SqL K H' a (ns.map V.int)) → RelD (.scr ns) (.ref a)
  | obj {a C dx : Addr} {od : Obj} {gs : List (Str × V)} {fs : List (Str × D)} : H a = some (.frz od (.ins C dx gs)) → RelFs fs gs → RelD (.obj C fs) (.ref a)
inductive RelDs : List D → List V → Prop where
  | nil : RelDs [] []
  | cons {d : D} {v : V} {ds : List D} {vs : List V} : RelD d v → RelDs ds vs → RelDs (d :: ds) (v :: vs)
inductive RelFs : List (Str × D) → List (Str × V) → Prop where
  | nil : RelFs [] []
  | cons {f : Str} {d : D} {v : V} {ds : List (Str × D)} {vs : List (Str × V)} : RelD d v → RelFs ds vs → RelFs ((f, d) :: ds) ((f, v) :: vs)
end
end
/-- tuples stand, and locked lists -/
def Kp (H H' : Hp) : Prop := (∀ a xs, H a = some (.tup xs) → H' a = some (.tup xs)) ∧ ∀ a ob u, H a = some (.frz ob u) → H' a = some (.frz ob u)
theorem Kp.refl (H : Hp) : Kp H H := ⟨fun _ _ h => h, fun _ _ _ h => h⟩
theorem Kp.trans {A B C : Hp} (h : Kp A B) (k : Kp B C) : Kp A C := ⟨fun a xs e => k.1 a xs (h.1 a xs e), fun a ob xs e => k.2 a ob xs (h.2 a ob xs e)⟩
theorem Kp.sqt {H H' : Hp} {a : Addr} {xs : List V} (k : Kp H H') (h : H a = some (.tup xs)) : H' a = some (.tup xs) := k.1 a xs h
theorem Kp.sqi {K : PySem.W.Frag} {H H' : Hp} {a : Addr} {xs : List V} (k : Kp H H') (h : SqI K H a xs) : SqI K H' a xs := by
  obtain ⟨ob, h⟩ := h
  exact ⟨ob, k.2 a ob _ h⟩
/-- what stands for ever -/
def isFix : Option HO → Prop
  | some (.tup _) => True
  | some (.frz _ _) => True
  | some (.ext _) => True
  | _ => False
theorem Kp.upd {H : Hp} {p : Addr} {o : HO} (h : ¬ isFix (H p)) : Kp H (upd H p o) := by
  refine ⟨fun a xs e => ?_, fun a ob xs e => ?_⟩
  · have ne : a ≠ p := fun z => by
      subst z
      rw [e] at h; exact h trivial
    rw [upd_ne ne]; exact e
  · have ne : a ≠ p := fun z => by
      subst z
      rw [e] at h; exact h trivial
    rw [upd_ne ne]; exact e
theorem Kp.new {H : Hp} {p : Addr} {o : HO} (h : H p = none) : Kp H (L2.upd H p o) := Kp.upd (by rw [h]; exact id)

section
variable {K : PySem.W.Frag} {H H' : Hp}
mutual
theorem RelD.mono (k : Kp H H') : ∀ {d : D} {v : V}, RelD K H d v → RelD K H' d v
  | _, _, .non => .non
  | _, _, .bl b => .bl b
  | _, _, .int i => .int i
  | _, _, .str x => .str x
  | _, _, .ref a => .ref a
  | _, _, .ty n => .ty n
  | _, _, .tup h r => .tup (k.sqt h) (RelDs.mono k r)
  | _, _, .ilst h r => .ilst (k.sqi h) (RelDs.mono k r)
  | _, _, .obj h r => .obj (k.2 _ _ _ h) (RelFs.mono k r)
  | _, _, .scr h => .scr h
theorem RelDs.mono (k : Kp H H') : ∀ {ds : List D} {vs : List V}, RelDs K H ds vs → RelDs K H' ds vs
  | _, _, .nil => .nil
  | _, _, .cons h r => .cons (RelD.mono k h) (RelDs.mono k r)
theorem RelFs.mono (k : Kp H H') : ∀ {ds : List (Str × D)} {vs : List (Str × V)}, RelFs K H ds vs → RelFs K H' ds vs
  | _, _, .nil => .nil
  | _, _, .cons h r => .cons (RelD.mono k h) (RelFs.mono k r)
end
theorem RelDs.length : ∀ {ds : List D} {vs : List V}, RelDs K H ds vs → ds.length = vs.length
  | _, _, .nil => rfl
  | _, _, .cons _ r => by rw [List.length_cons, List.length_cons, RelDs.length r]
theorem RelDs.get : ∀ {ds : List D} {vs : List V} {i : Nat} {d : D}, RelDs K H ds vs → ds[i]? = some d → ∃ v, vs[i]? = some v ∧ RelD K H d v
  | _, _, i, _, .nil, e => by simp at e
  | _, _, 0, _, .cons h _, e => by simp at e; subst e; exact ⟨_, rfl, h⟩
  | _, _, i + 1, _, .cons (ds := ds) _ r, e => RelDs.get (i := i) r (by simpa using e)
theorem RelDs.getv : ∀ {ds : List D} {vs : List V} {i : Nat} {v : V}, RelDs K H ds vs → vs[i]? = some v → ∃ d, ds[i]? = some d ∧ RelD K H d v
  | _, _, i, _, .nil, e => by simp at e
  | _, _, 0, _, .cons h _, e => by simp at e; subst e; exact ⟨_, rfl, h⟩
  | _, _, i + 1, _, .cons (ds := ds) _ r, e => RelDs.getv (i := i) r (by simpa using e)
theorem RelDs.app : ∀ {ds es : List D} {vs us : List V}, RelDs K H ds vs → RelDs K H es us → RelDs K H (ds ++ es) (vs ++ us)
  | _, _, _, _, .nil, k => k
  | _, _, _, _, .cons h r, k => .cons h (RelDs.app r k)
theorem RelDs.set : ∀ {ds : List D} {vs : List V} {d : D} {v : V} (i : Nat), RelDs K H ds vs → RelD K H d v → RelDs K H (ds.set i d) (vs.set i v)
  | _, _, _, _, _, .nil, _ => .nil
  | _, _, _, _, 0, .cons _ r, k => .cons k r
  | _, _, _, _, i + 1, .cons h r, k => .cons h (RelDs.set i r k)
theorem RelDs.drop : ∀ {ds : List D} {vs : List V} (n : Nat), RelDs K H ds vs → RelDs K H (ds.drop n) (vs.drop n)
  | _, _, 0, h => h
  | _, _, _ + 1, .nil => .nil
  | _, _, n + 1, .cons _ r => RelDs.drop n r
theorem RelDs.take : ∀ {ds : List D} {vs : List V} (n : Nat), RelDs K H ds vs → RelDs K H (ds.take n) (vs.take n)
  | _, _, 0, _ => .nil
  | _, _, _ + 1, .nil => .nil
  | _, _, n + 1, .cons h r => .cons h (RelDs.take n r)
theorem RelDs.rev : ∀ {ds : List D} {vs : List V}, RelDs K H ds vs → RelDs K H ds.reverse vs.reverse
  | _, _, .nil => .nil
  | _, _, .cons h r => by
    rw [List.reverse_cons, List.reverse_cons]
    exact RelDs.app (RelDs.rev r) (.cons h .nil)
theorem RelDs.ints : ∀ {ns : List Int} {vs : List V}, RelDs K H (ns.map D.int) vs → vs = ns.map V.int
  | [], _, .nil => rfl
  | n :: ns, _, .cons h r => by
    cases h
    rw [List.map_cons, RelDs.ints r]
theorem RelDs.of_ints : ∀ (ns : List Int), RelDs K H (ns.map D.int) (ns.map V.int)
  | [] => .nil
  | n :: ns => .cons (.int n) (RelDs.of_ints ns)
theorem RelDs.bls : ∀ {bs : List Bool} {vs : List V}, RelDs K H (bs.map D.bl) vs → vs = bs.map V.bl
  | [], _, .nil => rfl
  | n :: ns, _, .cons h r => by
    cases h
    rw [List.map_cons, RelDs.bls r]
end
/-- fields, entries -/
def RelF (K : PySem.W.Frag) (H : Hp) : List (Str × D) → List (Str × V) → Prop := Paired fun p q => p.1 = q.1 ∧ RelD K H p.2 q.2
def RelK {κ : Type} (K : PySem.W.Frag) (H : Hp) : List (κ × D) → List (κ × V) → Prop := Paired fun p q => p.1 = q.1 ∧ RelD K H p.2 q.2
theorem RelK.mono {κ : Type} {K : PySem.W.Frag} {H H' : Hp} (k : Kp H H') : ∀ {fs : List (κ × D)} {gs : List (κ × V)}, RelK K H fs gs → RelK K H' fs gs
  | _, _, .nil => .nil
  | _, _, .cons h r => .cons ⟨h.1, h.2.mono k⟩ (RelK.mono k r)
/-- an object as it stands -/
def RepO (K : PySem.W.Frag) (H : Hp) (a : Addr) : O → Prop
  | .lst ds => ∃ vs, H a = some (.lst vs) ∧ RelDs K H ds vs
  | .ins C fs => ∃ dx gs, H a = some (.ins C dx gs) ∧ RelK K H fs gs
  | .dT kvs => ∃ ws, H a = some (.dT ws) ∧ RelK K H kvs ws
  | .dK kvs => ∃ ws, H a = some (.dK ws) ∧ RelK K H kvs ws
  | .tab q => LamX.TabS H a q
  | .xd fs => ∃ gs, H a = some (.xd gs) ∧ RelK K H fs gs
def RepH (K : PySem.W.Frag) (H : Hp) (L : Lp) : Prop := ∀ a o, L a = some o → RepO K H a o
section
variable {K : PySem.W.Frag} {H : Hp} {L : Lp}
theorem RepH.le {L' : Lp} (h : RepH K H L) (e : Le L' L) : RepH K H L' := fun a o q => h a o (e a o q)
/-- a store at p leaves what stands elsewhere -/
theorem RepO.upd {p a : Addr} {o : O} {u : HO} (h : RepO K H a o) (ne : a ≠ p) (k : Kp H (upd H p u)) (hx : ∀ φ, H p ≠ some (.ext φ)) : RepO K (upd H p u) a o := by
  cases o with
  | lst ds => obtain ⟨vs, e, r⟩ := h; exact ⟨vs, by rw [upd_ne ne]; exact e, r.mono k⟩
  | ins C fs => obtain ⟨dx, gs, e, r⟩ := h; exact ⟨dx, gs, by rw [upd_ne ne]; exact e, RelK.mono k r⟩
  | dT kvs => obtain ⟨ws, e, r⟩ := h; exact ⟨ws, by rw [upd_ne ne]; exact e, RelK.mono k r⟩
  | dK kvs => obtain ⟨ws, e, r⟩ := h; exact ⟨ws, by rw [upd_ne ne]; exact e, RelK.mono k r⟩
  | tab q =>
    obtain ⟨ps, h1, h2, h3⟩ := h
    refine ⟨ps, by rw [upd_ne ne]; exact h1, h2, fun pos cv hc => ?_⟩
    obtain ⟨c, e1, e2⟩ := h3 pos cv hc
    exact ⟨c, e1, by rw [upd_ne (fun z => hx _ (z ▸ e2))]; exact e2⟩
  | xd fs => obtain ⟨gs, e, r⟩ := h; exact ⟨gs, by rw [upd_ne ne]; exact e, RelK.mono k r⟩
/-- what is told in L is tracked -/
theorem RepO.so {p : Addr} {o : O} (q : RepO K H p o) : ∃ u, H p = some u ∧ ¬ isFix (some u) := by
  cases o with
  | lst ds => obtain ⟨vs, e, _⟩ := q; exact ⟨_, e, id⟩
  | ins C fs => obtain ⟨dx, gs, e, _⟩ := q; exact ⟨_, e, id⟩
  | dT kvs => obtain ⟨ws, e, _⟩ := q; exact ⟨_, e, id⟩
  | dK kvs => obtain ⟨ws, e, _⟩ := q; exact ⟨_, e, id⟩
  | tab q => obtain ⟨ps, e, _⟩ := q; exact ⟨_, e, id⟩
  | xd fs => obtain ⟨gs, e, _⟩ := q; exact ⟨_, e, id⟩
theorem RepH.no (h : RepH K H L) {p : Addr} (n : H p = none) : L p = none := by
  cases e : L p with
  | none => rfl
  | some o =>
    obtain ⟨u, q, _⟩ := (h p o e).so
    rw [n] at q; cases q
/-- a new object, told or not; an object written anew -/
theorem RepH.hid (h : RepH K H L) {p : Addr} {u : HO} (n : H p = none) : RepH K (upd H p u) L := fun a o e =>
  (h a o e).upd (fun z => by subst z; rw [h.no n] at e; cases e) (Kp.new n) fun φ z => by rw [n] at z; cases z
theorem RepH.put (h : RepH K H L) {p : Addr} {u : HO} {o' : O} (n : ¬ isFix (H p)) (r : RepO K (upd H p u) p o') : RepH K (upd H p u) (up L p o') := fun a o e => by
  by_cases z : a = p
  · subst z; rw [up_same] at e; cases e; exact r
  · rw [up_ne z] at e; exact (h a o e).upd z (Kp.upd n) fun φ q => n (by rw [q]; exact trivial)
theorem RepH.new (h : RepH K H L) {p : Addr} {u : HO} {o' : O} (n : H p = none) (r : RepO K (upd H p u) p o') : RepH K (upd H p u) (up L p o') := h.put (by rw [n]; exact id) r
end

/-! ### what a reading by data asks of the reading -/
abbrev S' := List (Option D)
abbrev VK' := D → Lp → Prop
abbrev TE' := S' → Lp → VK' → Prop
abbrev TT' := S' → Lp → (Bool → Lp → Prop) → Prop
abbrev TA' := S' → Lp → (List D → Lp → Prop) → Prop
structure Ends' where
  nx : S' → Lp → Prop
  rt : VK'
  bk : S' → Lp → Prop := fun _ _ => False
  ct : S' → Lp → Prop := fun _ _ => False
abbrev TS' := Ends' → S' → Lp → Prop
def RepS (K : PySem.W.Frag) (H : Hp) (τ : S') (σ : L2.St) : Prop := τ.length = σ.length ∧ ∀ (i : Nat) (d : D), τ[i]? = some (some d) → ∃ v, σ[i]? = some (some v) ∧ RelD K H d v
theorem RepS.mono {K : PySem.W.Frag} {H H' : Hp} {τ : S'} {σ : L2.St} (h : RepS K H τ σ) (k : Kp H H') : RepS K H' τ σ := ⟨h.1, fun i d e => by
  obtain ⟨v, a, b⟩ := h.2 i d e
  exact ⟨v, a, b.mono k⟩⟩
theorem RepS.set {K : PySem.W.Frag} {H : Hp} {τ : S'} {σ : L2.St} (h : RepS K H τ σ) {d : D} {v : V} (r : RelD K H d v) (i : Nat) : RepS K H (τ.set i (some d)) (σ.set i (some v)) := by
  refine ⟨by rw [List.length_set, List.length_set]; exact h.1, fun j e q => ?_⟩
  by_cases z : i = j
  · subst z
    have hlt : i < τ.length := by
      rw [List.getElem?_eq_some_iff] at q
      obtain ⟨w, _⟩ := q
      rwa [List.length_set] at w
    rw [List.getElem?_set_self hlt] at q
    cases q
    exact ⟨v, by rw [List.getElem?_set_self (by rw [← h.1]; exact hlt)], r⟩
  · rw [List.getElem?_set_ne z] at q ⊢
    exact h.2 j e q
def lE (K : PySem.W.Frag) (t : TE') : TE := fun σ H Q => ∃ τ L Q', RepS K H τ σ ∧ RepH K H L ∧ t τ L Q' ∧ ∀ d L1 v H1, Q' d L1 → Kp H H1 → RepH K H1 L1 → RelD K H1 d v → Q v H1
def lT (K : PySem.W.Frag) (t : TT') : TT := fun σ H Q => ∃ τ L Q', RepS K H τ σ ∧ RepH K H L ∧ t τ L Q' ∧ ∀ b L1 H1, Q' b L1 → Kp H H1 → RepH K H1 L1 → Q b H1
def lA (K : PySem.W.Frag) (n : Nat) (t : TA') : TA := fun σ H Q => ∃ τ L Q', RepS K H τ σ ∧ RepH K H L ∧ t τ L Q' ∧ ∀ ds L1 vs H1, Q' ds L1 → ds.length = n → Kp H H1 → RepH K H1 L1 → RelDs K H1 ds vs → Q vs H1
def lS (K : PySem.W.Frag) (t : TS') : TS := fun D σ H => ∃ τ L D', RepS K H τ σ ∧ RepH K H L ∧ t D' τ L ∧
  (∀ τ1 L1 σ1 H1, D'.nx τ1 L1 → Kp H H1 → RepH K H1 L1 → RepS K H1 τ1 σ1 → D.nx σ1 H1) ∧ (∀ d L1 v H1, D'.rt d L1 → Kp H H1 → RepH K H1 L1 → RelD K H1 d v → D.rt v H1) ∧
  (∀ τ1 L1 σ1 H1, D'.bk τ1 L1 → Kp H H1 → RepH K H1 L1 → RepS K H1 τ1 σ1 → D.bk σ1 H1) ∧ (∀ τ1 L1 σ1 H1, D'.ct τ1 L1 → Kp H H1 → RepH K H1 L1 → RepS K H1 τ1 σ1 → D.ct σ1 H1)
def QE (X : Cx) (e : Expr) (t : TE') : Prop := PE X e (lE X.K t)
def QT (X : Cx) (e : Expr) (t : TT') : Prop := PT X e (lT X.K t)
def QW (X : Cx) (e : Expr) (t : TT') : Prop := PW X e (lT X.K t)
def QA (X : Cx) (es : List Expr) (t : TA') : Prop := PA X es (lA X.K es.length t)
def QS (X : Cx) (st : Stmt) (t : TS') : Prop := PS X st (lS X.K t)
def QSs (X : Cx) (st : List Stmt) (t : TS') : Prop := PSs X st (lS X.K t)
/-- a reading may be replaced by a stronger one -/
theorem PE.str {X : Cx} {e : Expr} {t u : TE} (h : PE X e t) (k : ∀ σ H Q, u σ H Q → t σ H Q) : PE X e u := ⟨fun pins s σ H Q I q => h.run pins s σ H Q I (k σ H Q q)⟩
theorem PT.str {X : Cx} {e : Expr} {t u : TT} (h : PT X e t) (k : ∀ σ H Q, u σ H Q → t σ H Q) : PT X e u := ⟨fun pins s σ H Q I q => h.run pins s σ H Q I (k σ H Q q)⟩
theorem PW.str {X : Cx} {e : Expr} {t u : TT} (h : PW X e t) (k : ∀ σ H Q, u σ H Q → t σ H Q) : PW X e u := ⟨fun wh pins s σ H Q I q => h.run wh pins s σ H Q I (k σ H Q q)⟩
theorem PA.str {X : Cx} {e : List Expr} {t u : TA} (h : PA X e t) (k : ∀ σ H Q, u σ H Q → t σ H Q) : PA X e u := ⟨fun p pins s σ H Q I q => h.run p pins s σ H Q I (k σ H Q q)⟩
theorem PS.str {X : Cx} {e : Stmt} {t u : TS} (h : PS X e t) (k : ∀ D σ H, u D σ H → t D σ H) : PS X e u := ⟨fun pins s σ H D I q => h.run pins s σ H D I (k D σ H q)⟩
theorem PSs.str {X : Cx} {e : List Stmt} {t u : TS} (h : PSs X e t) (k : ∀ D σ H, u D σ H → t D σ H) : PSs X e u := ⟨fun pins s σ H D I q => h.run pins s σ H D I (k D σ H q)⟩
end Z

/-! expressions, tests, statements by data -/
namespace Z
open PySem PySem.Spec PyProof.Rows L2
/-! ### the readings -/
def wVar (i : Nat) : TE' := fun τ L Q => match τ[i]? with
  | some (some d) => Q d L
  | _ => False
def wC (d : D) : TE' := fun _ L Q => Q d L
def wNil : TA' := fun _ L Q => Q [] L
def wCons (ta : TE') (tr : TA') : TA' := fun τ L Q => ta τ L fun d L1 => tr τ L1 fun ds L2 => Q (d :: ds) L2
def wTup (t : TA') : TE' := fun τ L Q => t τ L fun ds L1 => Q (.tup ds) L1
def wLst (t : TA') : TE' := fun τ L Q => t τ L fun ds L1 => ∀ p, L1 p = none → Q (.ref p) (up L1 p (.lst ds))
abbrev R2' := D → D → Lp → VK' → Prop
abbrev R1' := D → Lp → VK' → Prop
def wOp (r : R2') (ta tb : TE') : TE' := fun τ L Q => ta τ L fun d L1 => tb τ L1 fun e L2 => r d e L2 Q
def wUn (r : R1') (ta : TE') : TE' := fun τ L Q => ta τ L fun d L1 => r d L1 Q
def wIf (t : TT') (ta tb : TE') : TE' := fun τ L Q => t τ L fun c L1 => if c = true then ta τ L1 Q else tb τ L1 Q
/-- a truth value, what then -/
def blK (d : D) (L : Lp) (Q : Bool → Lp → Prop) : Prop := match d with
  | .bl c => Q c L
  | _ => False
def wAndV (ta tb : TE') : TE' := fun τ L Q => ta τ L fun d L1 => blK d L1 fun c L1 => if c = true then tb τ L1 Q else Q (.bl false) L1
def wOrV (ta tb : TE') : TE' := fun τ L Q => ta τ L fun d L1 => blK d L1 fun c L1 => if c = true then Q (.bl true) L1 else tb τ L1 Q
def wNotV (ta : TE') : TE' := fun τ L Q => ta τ L fun d L1 => blK d L1 fun c L1 => Q (.bl (!c)) L1
def wB (t : TE') : TT' := fun τ L Q => t τ L fun d L1 => blK d L1 Q
def wAnd (t u : TT') : TT' := fun τ L Q => t τ L fun c L1 => if c = true then u τ L1 Q else Q false L1
def wOr (t u : TT') : TT' := fun τ L Q => t τ L fun c L1 => if c = true then Q true L1 else u τ L1 Q
def zNot (t : TT') : TT' := fun τ L Q => t τ L fun c L1 => Q (!c) L1
/-- truth of any value -/
def truD (d : D) (L : Lp) (Q : Bool → Lp → Prop) : Prop := match d with
  | .non => Q false L
  | .bl b => Q b L
  | .int i => Q (i != 0) L
  | .str x => x.length ≤ sizeLine ∧ Q ((x.length : Int) != 0) L
  | .tup ds => Q (!ds.isEmpty) L
  | .ilst ds => Q (!ds.isEmpty) L
  | .ref a => ∃ ds, L a = some (.lst ds) ∧ Q (!ds.isEmpty) L
  | _ => False
def zTru (t : TE') : TT' := fun τ L Q => t τ L fun d L1 => truD d L1 Q
def wChain (r r' : R2') (ta tb tc : TE') : TE' := fun τ L Q => ta τ L fun x L1 => tb τ L1 fun y L2 => r x y L2 fun z L3 => blK z L3 fun k L3 => if k = true then tc τ L3 fun u L4 => r' y u L4 Q else Q (.bl false) L3
abbrev TG' := D → S' → Lp → (S' → Lp → Prop) → Prop
abbrev TGs' := List D → S' → Lp → (S' → Lp → Prop) → Prop
def hName (i : Nat) : TG' := fun d τ L Q => Q (τ.set i (some d)) L
def hNil : TGs' := fun ds τ L Q => match ds with
  | [] => Q τ L
  | _ => False
def hCons (t : TG') (u : TGs') : TGs' := fun ds τ L Q => match ds with
  | d :: es => t d τ L fun τ1 L1 => u es τ1 L1 Q
  | _ => False
def tupK (d : D) (Q : List D → Prop) : Prop := match d with
  | .tup ds => Q ds
  | _ => False
def hTup (n : Nat) (t : TGs') : TG' := fun d τ L Q => tupK d fun ds => ds.length = n ∧ t ds τ L Q
def hSub (to ti : TE') (t : D → D → D → Lp → (Lp → Prop) → Prop) : TG' := fun d τ L Q => to τ L fun o L1 => ti τ L1 fun i L2 => t o i d L2 fun L3 => Q τ L3
def wNext : TS' := fun E τ L => E.nx τ L
/-- held back till it is asked -/
def hold {α : Type} (x : α) : α := x
def wSeq (t u : TS') : TS' := fun E τ L => t { E with nx := hold (u E) } τ L
def wBreak : TS' := fun E τ L => E.bk τ L
def wCont : TS' := fun E τ L => E.ct τ L
def wDrop (t : TE') : TS' := fun E τ L => t τ L fun _ L1 => E.nx τ L1
def wRet (t : TE') : TS' := fun E τ L => t τ L E.rt
def wRetN : TS' := fun E _ L => E.rt .non L
def wIfS (c : TT') (t u : TS') : TS' := fun E τ L => c τ L fun b L1 => if b = true then t E τ L1 else u E τ L1
def wNever : TS' := fun _ _ _ => False
def wAsg (t : TE') (g : TG') : TS' := fun E τ L => t τ L fun d L1 => g d τ L1 E.nx
def pairK (ds : List D) (Q : D → D → Prop) : Prop := match ds with
  | [v, w] => Q v w
  | _ => False
def wPar (i j : Nat) (ta : TA') : TS' := fun E τ L => ta τ L fun ds L1 => pairK ds fun v w => E.nx ((τ.set i (some v)).set j (some w)) L1
def lG (K : PySem.W.Frag) (g : TG') : TG := fun v σ H Q => ∃ d τ L Q', RelD K H d v ∧ RepS K H τ σ ∧ RepH K H L ∧ g d τ L Q' ∧ ∀ τ1 L1 σ1 H1, Q' τ1 L1 → Kp H H1 → RepH K H1 L1 → RepS K H1 τ1 σ1 → Q σ1 H1
def lGs (K : PySem.W.Frag) (g : TGs') : TGs := fun vs σ H Q => ∃ ds τ L Q', RelDs K H ds vs ∧ RepS K H τ σ ∧ RepH K H L ∧ g ds τ L Q' ∧ ∀ τ1 L1 σ1 H1, Q' τ1 L1 → Kp H H1 → RepH K H1 L1 → RepS K H1 τ1 σ1 → Q σ1 H1
def QG (X : Cx) (tg : Expr) (g : TG') : Prop := PG X tg (lG X.K g)
def QGs (X : Cx) (tg : List Expr) (g : TGs') : Prop := PGs X tg (lGs X.K g)
theorem PG.str {X : Cx} {e : Expr} {t u : TG} (h : PG X e t) (k : ∀ v σ H Q, u v σ H Q → t v σ H Q) : PG X e u := ⟨fun pins s σ H v w Q I r q => h.run pins s σ H v w Q I r (k v σ H Q q)⟩
theorem PGs.str {X : Cx} {e : List Expr} {t u : TGs} (h : PGs X e t) (k : ∀ v σ H Q, u v σ H Q → t v σ H Q) : PGs X e u := ⟨fun pins s σ H v w Q I r q => h.run pins s σ H v w Q I r (k v σ H Q q)⟩
/-- operators, by data -/
def LR2 (K : PySem.W.Frag) (r' : R2') (r : R2) : Prop := ∀ d e L v u H Q Q', RelD K H d v → RelD K H e u → RepH K H L → r' d e L Q' → (∀ d1 L1 v1 H1, Q' d1 L1 → Kp H H1 → RepH K H1 L1 → RelD K H1 d1 v1 → Q v1 H1) → r v u H Q
def LR1 (K : PySem.W.Frag) (r' : R1') (r : V → Hp → VK → Prop) : Prop := ∀ d L v H Q Q', RelD K H d v → RepH K H L → r' d L Q' → (∀ d1 L1 v1 H1, Q' d1 L1 → Kp H H1 → RepH K H1 L1 → RelD K H1 d1 v1 → Q v1 H1) → r v H Q
def LRA (K : PySem.W.Frag) (r' : List D → Lp → VK' → Prop) (r : List V → Hp → VK → Prop) : Prop := ∀ ds L vs H Q Q', RelDs K H ds vs → RepH K H L → r' ds L Q' → (∀ d1 L1 v1 H1, Q' d1 L1 → Kp H H1 → RepH K H1 L1 → RelD K H1 d1 v1 → Q v1 H1) → r vs H Q

theorem RelDs.empty {K : PySem.W.Frag} {H : Hp} : ∀ {ds : List D} {vs : List V}, RelDs K H ds vs → ds.isEmpty = vs.isEmpty
  | _, _, .nil => rfl
  | _, _, .cons _ _ => rfl
section
variable {X : Cx}
theorem lE_intro {K : PySem.W.Frag} {t : TE'} {σ : L2.St} {H : Hp} {Q : VK} {τ : S'} {L : Lp} {Q' : VK'} (a : RepS K H τ σ) (b : RepH K H L) (c : t τ L Q') (k : ∀ d L1 v H1, Q' d L1 → Kp H H1 → RepH K H1 L1 → RelD K H1 d v → Q v H1) : lE K t σ H Q := ⟨τ, L, Q', a, b, c, k⟩
theorem qv (i : Nat) {x : Str} {pos : Pos} (hN : X.N[i]? = some x := by rfl) (hv : Vis X.env.scope x := by first | exact Or.inl rfl | exact Or.inr (Or.inl rfl) | exact Or.inr (Or.inr rfl)) (hd : (x == ("__debug__" : Str)) = false := by decide) (hcd : (x == ("__classdict__" : Str)) = false := by decide) :
    QE X (.Name x pos) (wVar i) := PE.str (pe_var hN hv hd hcd) fun σ H Q h => by
  obtain ⟨τ, L, Q', a, b, c, k⟩ := h
  unfold wVar at c
  cases e : τ[i]? with
  | none => rw [e] at c; exact c.elim
  | some o =>
    rw [e] at c
    cases o with
    | none => exact c.elim
    | some d =>
      obtain ⟨v, e1, r⟩ := a.2 i d e
      exact ⟨v, e1, k d L v H c (Kp.refl H) b r⟩
theorem qcon {e : Expr} {v : V} (d : D) (h : PE X e (tC v)) (r : ∀ H, RelD X.K H d v) : QE X e (wC d) := PE.str h fun σ H Q h => by
  obtain ⟨τ, L, Q', a, b, c, k⟩ := h
  exact k d L v H c (Kp.refl H) b (r H)
theorem qa_nil : QA X [] wNil := PA.str pa_nil fun σ H Q h => by
  obtain ⟨τ, L, Q', a, b, c, k⟩ := h
  exact k [] L [] H c rfl (Kp.refl H) b .nil
theorem qa_cons {e : Expr} {es : List Expr} {ta : TE'} {tr : TA'} (h : QE X e ta) (r : QA X es tr) (hs : starEach (e :: es) X.env = (false, eval e X.env) :: starEach es X.env := by rfl) : QA X (e :: es) (wCons ta tr) := PA.str (pa_cons h r hs) fun σ H Q h => by
  obtain ⟨τ, L, Q', a, b, c, k⟩ := h
  refine ⟨τ, L, _, a, b, c, fun d L1 v H1 q kp rh rd => ?_⟩
  refine ⟨τ, L1, _, a.mono kp, rh, q, fun ds L2 vs H2 q2 hl kp2 rh2 rd2 => ?_⟩
  exact k (d :: ds) L2 (v :: vs) H2 q2 (by rw [List.length_cons, hl, List.length_cons]) (kp.trans kp2) rh2 (.cons (rd.mono kp2) rd2)
theorem q_tup {es : List Expr} {x1 pos} {t : TA'} (h : QA X es t) (hz : Nat.ble es.length 1000 = true := by rfl) : QE X (.Tuple es x1 pos) (wTup t) := PE.str (pe_tup h) fun σ H Q h => by
  obtain ⟨τ, L, Q', a, b, c, k⟩ := h
  refine ⟨τ, L, _, a, b, c, fun ds L1 vs H1 q hl kp rh rd => ⟨?_, fun p np => ?_⟩⟩
  · rw [← rd.length, hl]
    exact Nat.le_of_lt (small1000 (Nat.le_of_ble_eq_true hz))
  · exact k (.tup ds) L1 (.ref p) _ q (kp.trans (Kp.new np)) (rh.hid np) (.tup upd_same (rd.mono (Kp.new np)))
theorem q_lst {es : List Expr} {pos} {t : TA'} (h : QA X es t) (hz : Nat.ble es.length 1000 = true := by rfl) : QE X (.List es pos) (wLst t) := PE.str (pe_lst h) fun σ H Q h => by
  obtain ⟨τ, L, Q', a, b, c, k⟩ := h
  refine ⟨τ, L, _, a, b, c, fun ds L1 vs H1 q hl kp rh rd => ⟨?_, fun p np => ?_⟩⟩
  · rw [← rd.length, hl]
    exact Nat.le_of_lt (small1000 (Nat.le_of_ble_eq_true hz))
  · exact k (.ref p) _ (.ref p) _ (q p (rh.no np)) (kp.trans (Kp.new np)) (rh.new np ⟨vs, upd_same, rd.mono (Kp.new np)⟩) (.ref p)
/-- two parts and an operator -/
theorem tOp_l {K : PySem.W.Frag} {r' : R2'} {r : R2} {ta tb : TE'} (hr : LR2 K r' r) (σ : L2.St) (H : Hp) (Q : VK) (h : lE K (wOp r' ta tb) σ H Q) : tOp r (lE K ta) (lE K tb) σ H Q := by
  obtain ⟨τ, L, Q', a, b, c, k⟩ := h
  refine ⟨τ, L, _, a, b, c, fun d L1 v H1 q kp rh rd => ?_⟩
  refine ⟨τ, L1, _, a.mono kp, rh, q, fun e L2 u H2 q2 kp2 rh2 rd2 => ?_⟩
  exact hr d e L2 v u H2 Q Q' (rd.mono kp2) rd2 rh2 q2 fun d1 L1' v1 H1' q3 kp3 => k d1 L1' v1 H1' q3 ((kp.trans kp2).trans kp3)
theorem q_op {op : Operator} {r : R2} {r' : R2'} {a b : Expr} {pos} {ta tb : TE'} (ho : OpR X (binaryOp op) r) (hr : LR2 X.K r' r) (ha : QE X a ta) (hb : QE X b tb) : QE X (.BinOp a op b pos) (wOp r' ta tb) := PE.str (pe_op ho ha hb) (tOp_l hr)
theorem q_cmp {op : CmpOp} {r : R2} {r' : R2'} {a b : Expr} {pos} {ta tb : TE'} (ho : OpR X (compareOp op) r) (hr : LR2 X.K r' r) (ha : QE X a ta) (hb : QE X b tb) (hm : behindInMarks op b = false) : QE X (.Compare a [op] [b] pos) (wOp r' ta tb) := PE.str (pe_cmpR ho ha hb hm) (tOp_l hr)
theorem tTest_l {K : PySem.W.Frag} {t : TE'} (σ : L2.St) (H : Hp) (Q : Bool → Hp → Prop) (h : lT K (wB t) σ H Q) : tTest (lE K t) σ H Q := by
  obtain ⟨τ, L, Q', a, b, c, k⟩ := h
  refine ⟨τ, L, _, a, b, c, fun d L1 v H1 q kp rh rd => ?_⟩
  cases d with
  | bl c => cases rd; exact ⟨c, rfl, k c L1 H1 q kp rh⟩
  | _ => exact q.elim
theorem t_cmp {op : CmpOp} {r : R2} {r' : R2'} {a b : Expr} {pos} {ta tb : TE'} (ho : OpR X (compareOp op) r) (hr : LR2 X.K r' r) (ha : QE X a ta) (hb : QE X b tb) (hm : behindInMarks op b = false) : QT X (.Compare a [op] [b] pos) (wB (wOp r' ta tb)) :=
  PT.str (pt_cmpR ho ha hb hm) fun σ H Q h => by
    obtain ⟨k, e⟩ : ∃ x : Nat, x = 0 := ⟨0, rfl⟩
    have z := tTest_l (t := wOp r' ta tb) σ H Q h
    exact tOp_l hr σ H _ z
theorem tChain_l {K : PySem.W.Frag} {r1' r2' : R2'} {r1 r2 : R2} {ta tb tc : TE'} (h1 : LR2 K r1' r1) (h2 : LR2 K r2' r2) (σ : L2.St) (H : Hp) (Q : VK) (h : lE K (wChain r1' r2' ta tb tc) σ H Q) : tChain r1 r2 (lE K ta) (lE K tb) (lE K tc) σ H Q := by
  obtain ⟨τ, L, Q', a, b, c, k⟩ := h
  refine ⟨τ, L, _, a, b, c, fun d L1 v H1 q kp rh rd => ?_⟩
  refine ⟨τ, L1, _, a.mono kp, rh, q, fun e L2 u H2 q2 kp2 rh2 rd2 => ?_⟩
  refine h1 d e L2 v u H2 _ _ (rd.mono kp2) rd2 rh2 q2 fun z L3 w H3 q3 kp3 rh3 rd3 => ?_
  cases z with
  | bl k' =>
    cases rd3
    refine ⟨k', rfl, ?_⟩
    cases k' with
    | true =>
      simp only [if_true] at q3 ⊢
      refine ⟨τ, L3, _, a.mono ((kp.trans kp2).trans kp3), rh3, q3, fun f L4 x H4 q4 kp4 rh4 rd4 => ?_⟩
      exact h2 e f L4 u x H4 Q Q' (rd2.mono (kp3.trans kp4)) rd4 rh4 q4 fun d1 L1' v1 H1' q5 kp5 => k d1 L1' v1 H1' q5 ((((kp.trans kp2).trans kp3).trans kp4).trans kp5)
    | false =>
      simp only [Bool.false_eq_true, if_false] at q3 ⊢
      exact k _ L3 _ H3 q3 ((kp.trans kp2).trans kp3) rh3 (.bl false)
  | _ => exact q3.elim
theorem q_chain {op op' : CmpOp} {r1 r2 : R2} {r1' r2' : R2'} {a b c : Expr} {pos} {ta tb tc : TE'} (ho : OpR X (compareOp op) r1) (ho' : OpR X (compareOp op') r2) (h1 : LR2 X.K r1' r1) (h2 : LR2 X.K r2' r2) (ha : QE X a ta) (hb : QE X b tb) (hc : QE X c tc)
    (hm : lastMarks [op, op'] [b, c] = false := by with_unfolding_all rfl) : QE X (.Compare a [op, op'] [b, c] pos) (wChain r1' r2' ta tb tc) := PE.str (pe_chain ho ho' ha hb hc hm) (tChain_l h1 h2)
theorem t_val {e : Expr} {t : TE'} (h : QE X e t) (he : ∀ whole, isTrue e X.env whole = (do let v ← whole; standAt e.pos; holding [v] (truthy v)) := by intro _; rfl) : QT X e (wB t) := PT.str (pt_val h he) fun σ H Q h => by
  obtain ⟨τ, L, Q', a, b, c, k⟩ := h
  refine ⟨τ, L, _, a, b, c, fun d L1 v H1 q kp rh rd => ?_⟩
  cases d with
  | bl c => cases rd; exact ⟨c, rfl, k c L1 H1 q kp rh⟩
  | _ => exact q.elim
theorem t_tru {e : Expr} {t : TE'} (h : QE X e t) (he : ∀ whole, isTrue e X.env whole = (do let v ← whole; standAt e.pos; holding [v] (truthy v)) := by intro _; rfl) : QT X e (zTru t) := PT.str (pt_truth h he) fun σ H Q h => by
  obtain ⟨τ, L, Q', a, b, c, k⟩ := h
  refine ⟨τ, L, _, a, b, c, fun d L1 v H1 q kp rh rd => ?_⟩
  cases d with
  | non => cases rd; exact ⟨false, rfl, k _ L1 H1 q kp rh⟩
  | bl z => cases rd; exact ⟨z, rfl, k _ L1 H1 q kp rh⟩
  | int i => cases rd; exact ⟨_, rfl, k _ L1 H1 q kp rh⟩
  | str x => cases rd; exact ⟨_, ⟨q.1, rfl⟩, k _ L1 H1 q.2 kp rh⟩
  | tup ds =>
    cases rd with
    | tup hs rs => exact ⟨_, .inr (.inl ⟨_, .inl (.inl hs), by rw [rs.empty]⟩), k _ L1 H1 q kp rh⟩
  | ilst ds =>
    cases rd with
    | ilst hs rs => exact ⟨_, .inl ⟨_, hs.sql, by rw [rs.empty]⟩, k _ L1 H1 q kp rh⟩
  | ref p =>
    cases rd
    obtain ⟨ds, e, q⟩ := q
    obtain ⟨vs, e2, rs⟩ := rh p _ e
    exact ⟨_, .inl ⟨vs, .inl (.inl e2), by rw [rs.empty]⟩, k _ L1 H1 q kp rh⟩
  | ty n => exact q.elim
  | obj C fs => exact q.elim
  | scr ns => exact q.elim
theorem t_not {a : Expr} {pos} {t : TT'} (h : QT X a t) : QT X (.UnaryOp .Not a pos) (zNot t) := PT.str (pt_not h) fun σ H Q h => by
  obtain ⟨τ, L, Q', a, b, c, k⟩ := h
  exact ⟨τ, L, _, a, b, c, fun d L1 H1 q kp rh => k _ L1 H1 q kp rh⟩
theorem tw_and {a b : Expr} {rest : List Expr} {pos} {t u : TT'} (h : QT X a t) (k : QW X (.BoolOp .And (b :: rest) pos) u) : QW X (.BoolOp .And (a :: b :: rest) pos) (wAnd t u) := PW.str (pw_and h k) fun σ H Q h => by
  obtain ⟨τ, L, Q', a, b, c, k⟩ := h
  refine ⟨τ, L, _, a, b, c, fun d L1 H1 q kp rh => ?_⟩
  cases d with
  | true => exact ⟨τ, L1, _, a.mono kp, rh, q, fun e L2 H2 q2 kp2 rh2 => k e L2 H2 q2 (kp.trans kp2) rh2⟩
  | false => exact k _ L1 H1 q kp rh
theorem tw_and1 {a : Expr} {pos} {t : TT'} (h : QT X a t) : QW X (.BoolOp .And [a] pos) t := pw_and1 h
theorem tw_or {a b : Expr} {rest : List Expr} {pos} {t u : TT'} (h : QT X a t) (k : QW X (.BoolOp .Or (b :: rest) pos) u) : QW X (.BoolOp .Or (a :: b :: rest) pos) (wOr t u) := PW.str (pw_or h k) fun σ H Q h => by
  obtain ⟨τ, L, Q', a, b, c, k⟩ := h
  refine ⟨τ, L, _, a, b, c, fun d L1 H1 q kp rh => ?_⟩
  cases d with
  | true => exact k _ L1 H1 q kp rh
  | false => exact ⟨τ, L1, _, a.mono kp, rh, q, fun e L2 H2 q2 kp2 rh2 => k e L2 H2 q2 (kp.trans kp2) rh2⟩
theorem tw_or1 {a : Expr} {pos} {t : TT'} (h : QT X a t) : QW X (.BoolOp .Or [a] pos) t := pw_or1 h
theorem tw {e : Expr} {t : TT'} (h : QW X e t) : QT X e t := PW.pt h
theorem q_and {a b : Expr} {rest : List Expr} {pos} {t u : TE'} (h : QE X a t) (k : QE X (.BoolOp .And (b :: rest) pos) u) : QE X (.BoolOp .And (a :: b :: rest) pos) (wAndV t u) := PE.str (pe_and h k) fun σ H Q h => by
  obtain ⟨τ, L, Q', a, b, c, k⟩ := h
  refine ⟨τ, L, _, a, b, c, fun d L1 v H1 q kp rh rd => ?_⟩
  cases d with
  | bl c =>
    cases rd
    refine ⟨c, rfl, ?_⟩
    cases c with
    | true => exact ⟨τ, L1, _, a.mono kp, rh, q, fun e L2 u H2 q2 kp2 rh2 rd2 => k e L2 u H2 q2 (kp.trans kp2) rh2 rd2⟩
    | false => exact k _ L1 _ H1 q kp rh (.bl false)
  | _ => exact q.elim
theorem q_or {a b : Expr} {rest : List Expr} {pos} {t u : TE'} (h : QE X a t) (k : QE X (.BoolOp .Or (b :: rest) pos) u) : QE X (.BoolOp .Or (a :: b :: rest) pos) (wOrV t u) := PE.str (pe_or h k) fun σ H Q h => by
  obtain ⟨τ, L, Q', a, b, c, k⟩ := h
  refine ⟨τ, L, _, a, b, c, fun d L1 v H1 q kp rh rd => ?_⟩
  cases d with
  | bl c =>
    cases rd
    refine ⟨c, rfl, ?_⟩
    cases c with
    | true => exact k _ L1 _ H1 q kp rh (.bl true)
    | false => exact ⟨τ, L1, _, a.mono kp, rh, q, fun e L2 u H2 q2 kp2 rh2 rd2 => k e L2 u H2 q2 (kp.trans kp2) rh2 rd2⟩
  | _ => exact q.elim
theorem q_one {op} {a : Expr} {pos} {t : TE'} (h : QE X a t) : QE X (.BoolOp op [a] pos) t := pe_one h
theorem q_not {a : Expr} {pos} {t : TE'} (h : QE X a t) : QE X (.UnaryOp .Not a pos) (wNotV t) := PE.str (pe_not h) fun σ H Q h => by
  obtain ⟨τ, L, Q', a, b, c, k⟩ := h
  refine ⟨τ, L, _, a, b, c, fun d L1 v H1 q kp rh rd => ?_⟩
  cases d with
  | bl c => cases rd; exact ⟨c, rfl, k _ L1 _ H1 q kp rh (.bl _)⟩
  | _ => exact q.elim
theorem q_if {c a b : Expr} {pos} {t : TT'} {ta tb : TE'} (hc : QT X c t) (ha : QE X a ta) (hb : QE X b tb) : QE X (.IfExp c a b pos) (wIf t ta tb) := PE.str (pe_ifExp hc ha hb) fun σ H Q h => by
  obtain ⟨τ, L, Q', a, b, c, k⟩ := h
  refine ⟨τ, L, _, a, b, c, fun d L1 H1 q kp rh => ?_⟩
  cases d with
  | true => exact ⟨τ, L1, _, a.mono kp, rh, q, fun e L2 u H2 q2 kp2 rh2 rd2 => k e L2 u H2 q2 (kp.trans kp2) rh2 rd2⟩
  | false => exact ⟨τ, L1, _, a.mono kp, rh, q, fun e L2 u H2 q2 kp2 rh2 rd2 => k e L2 u H2 q2 (kp.trans kp2) rh2 rd2⟩
theorem q_un {op : UnaryOp} {r : V → Hp → VK → Prop} {r' : R1'} {a : Expr} {pos} {ta : TE'} (ho : UnR X (unaryOp op) r) (hr : LR1 X.K r' r) (ha : QE X a ta) : QE X (.UnaryOp op a pos) (wUn r' ta) := PE.str (pe_un ho ha) fun σ H Q h => by
  obtain ⟨τ, L, Q', a, b, c, k⟩ := h
  refine ⟨τ, L, _, a, b, c, fun d L1 v H1 q kp rh rd => ?_⟩
  exact hr d L1 v H1 Q Q' rd rh q fun d1 L1' v1 H1' q3 kp3 => k d1 L1' v1 H1' q3 (kp.trans kp3)
/-! ### targets -/
theorem g_name {i : Nat} {x : Str} {pos} (hN : X.N.Nodup) (hi : X.N[i]? = some x) (hx : Loc X.env.scope x) (hf : X.fn x = true ∨ X.env.scope.names.lookup x = some .local := by first | exact .inl rfl | exact .inr rfl | assumption) : QG X (.Name x pos) (hName i) :=
  PG.str (pg_name hN hi hx hf) fun v σ H Q h => by
    obtain ⟨d, τ, L, Q', rd, a, b, c, k⟩ := h
    exact k _ L _ H c (Kp.refl H) b (a.set rd i)
theorem g_nil : QGs X [] hNil := PGs.str pgs_nil fun v σ H Q h => by
  obtain ⟨ds, τ, L, Q', rd, a, b, c, k⟩ := h
  cases ds with
  | nil => cases rd; exact ⟨rfl, k τ L σ H c (Kp.refl H) b a⟩
  | cons d es => exact c.elim
theorem g_cons {e : Expr} {es : List Expr} {t : TG'} {u : TGs'} (h1 : QG X e t) (h2 : QGs X es u) (hs : (assignEach (e :: es) X.env).map (·.2) = assign e X.env :: (assignEach es X.env).map (·.2) := by rfl) : QGs X (e :: es) (hCons t u) := PGs.str (pgs_cons h1 h2 hs) fun v σ H Q h => by
  obtain ⟨ds, τ, L, Q', rd, a, b, c, k⟩ := h
  cases ds with
  | nil => exact c.elim
  | cons d es =>
    cases rd with
    | cons r1 r2 =>
      refine ⟨_, _, rfl, d, τ, L, _, r1, a, b, c, fun τ1 L1 σ1 H1 q kp rh rs => ?_⟩
      exact ⟨es, τ1, L1, _, r2.mono kp, rs, rh, q, fun τ2 L2 σ2 H2 q2 kp2 rh2 rs2 => k τ2 L2 σ2 H2 q2 (kp.trans kp2) rh2 rs2⟩
theorem g_tup {es : List Expr} {k : Nat} {pos} {t : TGs'} {n : Nat} (hc : X.calm = true) (h : QGs X es t) (hn : (assignEach es X.env).length = n := by rfl) (hst : (assignEach es X.env).findIdx? (·.1) = none := by rfl) : QG X (.Tuple es k pos) (hTup n t) :=
  PG.str (pg_tup hc h hn hst) fun v σ H Q h => by
    obtain ⟨d, τ, L, Q', rd, a, b, c, k⟩ := h
    cases d with
    | tup ds =>
      cases rd with
      | tup hs rs => exact ⟨_, _, rfl, .inl (.inl hs), by rw [← rs.length]; exact c.1, ds, τ, L, Q', rs, a, b, c.2, k⟩
    | _ => exact c.elim
/-! ### statements -/
theorem qs_cons {st : Stmt} {rest : List Stmt} {t u : TS'} (h : QS X st t) (k : QSs X rest u) : QSs X (st :: rest) (wSeq t u) := PSs.str (pss_cons h k) fun D σ H h => by
  obtain ⟨τ, L, D', a, b, c, k1, k2, k3, k4⟩ := h
  exact ⟨τ, L, _, a, b, c, fun τ1 L1 σ1 H1 q kp rh rs => ⟨τ1, L1, D', rs, rh, q, fun τ2 L2 σ2 H2 q2 kp2 => k1 τ2 L2 σ2 H2 q2 (kp.trans kp2), fun d L2 v H2 q2 kp2 => k2 d L2 v H2 q2 (kp.trans kp2), fun τ2 L2 σ2 H2 q2 kp2 => k3 τ2 L2 σ2 H2 q2 (kp.trans kp2), fun τ2 L2 σ2 H2 q2 kp2 => k4 τ2 L2 σ2 H2 q2 (kp.trans kp2)⟩, k2, k3, k4⟩
theorem qs_one {st : Stmt} {t : TS'} (h : QS X st t) : QSs X [st] t := pss_one h
theorem qs_nil : QSs X [] wNext := PSs.str pss_nil fun D σ H h => by
  obtain ⟨τ, L, D', a, b, c, k1, k2, k3, k4⟩ := h
  exact k1 τ L σ H c (Kp.refl H) b a
theorem qs_pass {pos} : QS X (.Pass pos) wNext := PS.str ps_pass fun D σ H h => by
  obtain ⟨τ, L, D', a, b, c, k1, k2, k3, k4⟩ := h
  exact k1 τ L σ H c (Kp.refl H) b a
theorem qs_break {pos} : QS X (.Break pos) wBreak := PS.str ps_break fun D σ H h => by
  obtain ⟨τ, L, D', a, b, c, k1, k2, k3, k4⟩ := h
  exact k3 τ L σ H c (Kp.refl H) b a
theorem qs_cont {pos} : QS X (.Continue pos) wCont := PS.str ps_continue fun D σ H h => by
  obtain ⟨τ, L, D', a, b, c, k1, k2, k3, k4⟩ := h
  exact k4 τ L σ H c (Kp.refl H) b a
theorem qs_ret {e : Expr} {pos} {t : TE'} (h : QE X e t) : QS X (.Return (some e) pos) (wRet t) := PS.str (ps_ret h) fun D σ H h => by
  obtain ⟨τ, L, D', a, b, c, k1, k2, k3, k4⟩ := h
  exact ⟨τ, L, _, a, b, c, k2⟩
theorem qs_retN {pos} : QS X (.Return none pos) wRetN := PS.str ps_retN fun D σ H h => by
  obtain ⟨τ, L, D', a, b, c, k1, k2, k3, k4⟩ := h
  exact k2 _ L _ H c (Kp.refl H) b .non
theorem qs_expr {e : Expr} {pos : Pos} {t : TE'} (h : QE X e t) (hs : swapsWith e none pos.line X.env = pure false := by rfl) : QS X (.Expr e pos) (wDrop t) := PS.str (ps_expr h hs) fun D σ H h => by
  obtain ⟨τ, L, D', a, b, c, k1, k2, k3, k4⟩ := h
  exact ⟨τ, L, _, a, b, c, fun d L1 v H1 q kp rh _ => k1 τ L1 σ H1 q kp rh (a.mono kp)⟩
theorem qs_if {c : Expr} {as bs : List Stmt} {pos} {tc : TT'} {t u : TS'} (hc : QT X c tc) (ha : QSs X as t) (hb : QSs X bs u) : QS X (.If c as bs pos) (wIfS tc t u) := PS.str (ps_if hc ha hb) fun D σ H h => by
  obtain ⟨τ, L, D', a, b, c, k1, k2, k3, k4⟩ := h
  refine ⟨τ, L, _, a, b, c, fun d L1 H1 q kp rh => ?_⟩
  have fin : ∀ w : TS', w D' τ L1 → lS X.K w D σ H1 := fun w q => ⟨τ, L1, D', a.mono kp, rh, q, fun τ2 L2 σ2 H2 q2 kp2 => k1 τ2 L2 σ2 H2 q2 (kp.trans kp2), fun d L2 v H2 q2 kp2 => k2 d L2 v H2 q2 (kp.trans kp2), fun τ2 L2 σ2 H2 q2 kp2 => k3 τ2 L2 σ2 H2 q2 (kp.trans kp2), fun τ2 L2 σ2 H2 q2 kp2 => k4 τ2 L2 σ2 H2 q2 (kp.trans kp2)⟩
  cases d with
  | true => exact fin t q
  | false => exact fin u q
theorem qs_never {st : Stmt} : QS X st wNever := PS.str ps_never fun D σ H h => by
  obtain ⟨τ, L, D', a, b, c, _⟩ := h
  exact c.elim
theorem asg_l {K : PySem.W.Frag} {t : TE'} {g : TG'} (D : Ends) (σ : L2.St) (H : Hp) (h : lS K (wAsg t g) D σ H) : tAsg (lE K t) (lG K g) D σ H := by
  obtain ⟨τ, L, D', a, b, c, k1, k2, k3, k4⟩ := h
  refine ⟨τ, L, _, a, b, c, fun d L1 v H1 q kp rh rd => ?_⟩
  exact ⟨d, τ, L1, _, rd, a.mono kp, rh, q, fun τ2 L2 σ2 H2 q2 kp2 => k1 τ2 L2 σ2 H2 q2 (kp.trans kp2)⟩
theorem qs_asg {tg e : Expr} {pos : Pos} {t : TE'} {g : TG'} (he : QE X e t) (hg : QG X tg g) (hs : swapsWithSole [tg] e pos.line X.env = pure false := by rfl) (hw : swappedStores [tg] e X.env = pure none := by rfl)
    (h1 : (assignEach [tg] X.env).map (·.2) = [assign tg X.env] := by rfl) : QS X (.Assign [tg] e pos) (wAsg t g) := PS.str (ps_asg he hg hs hw h1) asg_l
theorem qs_set {i : Nat} {x : Str} {e : Expr} {pos pos' : Pos} {t : TE'} (hN : X.N.Nodup) (hi : X.N[i]? = some x) (hx : Loc X.env.scope x) (he : QE X e t) (hs : swapsWith e (some (.Name x pos')) pos.line X.env = pure false := by rfl) (hf : X.fn x = true ∨ X.env.scope.names.lookup x = some .local := by first | exact .inl rfl | exact .inr rfl | assumption) :
    QS X (.Assign [.Name x pos'] e pos) (wAsg t (hName i)) := PS.str (ps_set hN hi hx he hs hf) fun D σ H h => by
  obtain ⟨τ, L, D', a, b, c, k1, k2, k3, k4⟩ := h
  exact ⟨τ, L, _, a, b, c, fun d L1 v H1 q kp rh rd => k1 _ L1 _ H1 q kp rh ((a.mono kp).set rd i)⟩
theorem qs_par {i j : Nat} {x y : Str} {a b : Expr} {ta : TA'} {px py pt pos : Pos} {kt k2 pt2} (hc : X.calm = true) (hN : X.N.Nodup) (hi : X.N[i]? = some x) (hj : X.N[j]? = some y) (hij : i ≠ j)
    (hx : X.env.scope.names.lookup x = some .local) (hy : X.env.scope.names.lookup y = some .local) (ha : QA X [a, b] ta)
    (hw : swappedStores [.Tuple [.Name x px, .Name y py] kt pt] (.Tuple [a, b] k2 pt2) X.env = pure (some [x, y]))
    (hs : swapsWithSole [.Tuple [.Name x px, .Name y py] kt pt] (.Tuple [a, b] k2 pt2) pos.line X.env = pure false := by rfl) :
    QS X (.Assign [.Tuple [.Name x px, .Name y py] kt pt] (.Tuple [a, b] k2 pt2) pos) (wPar i j ta) := PS.str (ps_par hc hN hi hj hij hx hy ha hw hs) fun D σ H h => by
  obtain ⟨τ, L, D', a, b, c, k1, k2, k3, k4⟩ := h
  refine ⟨τ, L, _, a, b, c, fun ds L1 vs H1 q hl kp rh rd => ?_⟩
  match ds, hl, rd with
  | [v, w], _, .cons r1 (.cons r2 .nil) => exact ⟨_, _, rfl, k1 _ L1 _ H1 q kp rh (((a.mono kp).set r1 i).set r2 j)⟩
end
end Z

/-! operators, built-ins, methods by data -/
namespace Z
open PySem PySem.Spec PyProof.Rows L2
/-! ### operators -/
def rOr (r s : R2) : R2 := fun x y H Q => r x y H Q ∨ s x y H Q
theorem OpR.or {X : Cx} {f : Value → Value → Sem Value} {r s : R2} (h : OpR X f r) (k : OpR X f s) : OpR X f (rOr r s) := fun pins t σ H x y v u Q I rx ry q => q.elim (h pins t σ H x y v u Q I rx ry) (k pins t σ H x y v u Q I rx ry)
section
variable {X : Cx}
abbrev rAddS : R2 := fun x y H Q => ∃ i j, x = .str i ∧ y = .str j ∧ i.length + j.length ≤ sizeLine ∧ Q (.str (i ++ j)) H
def rAddG (K : PySem.W.Frag) : R2 := rOr (rI0 fun i j => .int (i + j)) (rOr rAddS (rOr (rCatA K) rCat))
theorem o_add : OpR X (binaryOp .Add) (rAddG X.K) := OpR.or op_add (OpR.or op_add_str (OpR.or op_catA op_cat))
def addD : R2' := fun d e L Q => match d, e with
  | .int i, .int j => Q (.int (i + j)) L
  | .str a, .str b => a.length + b.length ≤ sizeLine ∧ Q (.str (a ++ b)) L
  | .tup as, .tup bs => as.length + bs.length ≤ sizeLine ∧ Q (.tup (as ++ bs)) L
  | .ref a, .ref b => ∃ xs ys, L a = some (.lst xs) ∧ L b = some (.lst ys) ∧ xs.length + ys.length ≤ sizeLine ∧ ∀ p, L p = none → Q (.ref p) (up L p (.lst (xs ++ ys)))
  | _, _ => False
theorem l_add {K : PySem.W.Frag} : LR2 K addD (rAddG K) := fun d e L v u H Q Q' rd re rh q k => by
  unfold addD at q
  cases d <;> cases e <;> try exact q.elim
  case int.int i j => cases rd; cases re; exact .inl ⟨i, j, rfl, rfl, k _ L _ H q (Kp.refl H) rh (.int _)⟩
  case str.str a b => cases rd; cases re; exact .inr (.inl ⟨a, b, rfl, rfl, q.1, k _ L _ H q.2 (Kp.refl H) rh (.str _)⟩)
  case tup.tup as bs =>
    cases rd with
    | tup h1 r1 =>
      cases re with
      | tup h2 r2 =>
        refine .inr (.inr (.inl ⟨_, _, _, _, rfl, rfl, .inl (.inl h1), .inl (.inl h2), by rw [← r1.length, ← r2.length]; exact q.1, fun e => ?_, fun _ e => ?_, fun _ _ p np => ?_⟩))
        · subst e
          cases r1
          exact k _ L _ H q.2 (Kp.refl H) rh (.tup h2 r2)
        · subst e
          cases r2
          have q2 := q.2
          rw [List.append_nil] at q2
          exact k _ L _ H q2 (Kp.refl H) rh (.tup h1 r1)
        · exact k _ L _ _ q.2 (Kp.new np) (rh.hid np) (.tup upd_same ((r1.app r2).mono (Kp.new np)))
  case ref.ref a b =>
    cases rd; cases re
    obtain ⟨xs, ys, e1, e2, z, q⟩ := q
    obtain ⟨vs, h1, r1⟩ := rh _ _ e1
    obtain ⟨us, h2, r2⟩ := rh _ _ e2
    refine .inr (.inr (.inr ⟨_, _, _, _, rfl, rfl, h1, h2, by rw [← r1.length, ← r2.length]; exact z, fun p np => ?_⟩))
    exact k _ _ _ _ (q p (rh.no np)) (Kp.new np) (rh.new np ⟨_, upd_same, (r1.app r2).mono (Kp.new np)⟩) (.ref p)
/-- two ints -/
def intD (C : Int → Int → Prop) (g : Int → Int → D) : R2' := fun d e L Q => match d, e with
  | .int i, .int j => C i j ∧ Q (g i j) L
  | _, _ => False
def intD0 (g : Int → Int → D) : R2' := fun d e L Q => match d, e with
  | .int i, .int j => Q (g i j) L
  | _, _ => False
theorem l_int {K : PySem.W.Frag} {C : Int → Int → Prop} {g : Int → Int → D} {f : Int → Int → V} (h : ∀ H i j, C i j → RelD K H (g i j) (f i j)) : LR2 K (intD C g) (rI C f) := fun d e L v u H Q Q' rd re rh q k => by
  unfold intD at q
  cases d <;> cases e <;> try exact q.elim
  case int.int i j => cases rd; cases re; exact ⟨i, j, rfl, rfl, q.1, k _ L _ H q.2 (Kp.refl H) rh (h H i j q.1)⟩
theorem l_int0 {K : PySem.W.Frag} {g : Int → Int → D} {f : Int → Int → V} (h : ∀ H i j, RelD K H (g i j) (f i j)) : LR2 K (intD0 g) (rI0 f) := fun d e L v u H Q Q' rd re rh q k => by
  unfold intD0 at q
  cases d <;> cases e <;> try exact q.elim
  case int.int i j => cases rd; cases re; exact ⟨i, j, rfl, rfl, k _ L _ H q (Kp.refl H) rh (h H i j)⟩
abbrev subD : R2' := intD0 fun i j => .int (i - j)
theorem l_sub {K : PySem.W.Frag} : LR2 K subD (rI0 fun i j => .int (i - j)) := l_int0 fun _ _ _ => .int _
abbrev fdivD : R2' := intD CDivW fun i j => .int (i / j)
theorem l_fdiv {K : PySem.W.Frag} : LR2 K fdivD (rI CDivW fun i j => .int (i / j)) := l_int fun _ _ _ _ => .int _
abbrev modD : R2' := intD (fun _ j => 0 < j) fun i j => .int (i % j)
theorem l_mod {K : PySem.W.Frag} : LR2 K modD (rI (fun _ j => j ≠ 0) fun i j => .int (i.fmod j)) := fun d e L v u H Q Q' rd re rh q k => by
  unfold modD intD at q
  cases d <;> cases e <;> try exact q.elim
  case int.int i j =>
    cases rd; cases re
    have h0 : 0 < j := q.1
    refine ⟨i, j, rfl, rfl, by omega, k _ L _ H q.2 (Kp.refl H) rh ?_⟩
    show RelD K H (.int (i % j)) (.int (i.fmod j))
    rw [Int.fmod_eq_emod_of_nonneg i (by omega)]
    exact .int _
/-- a power of a base of some bits -/
def CPowW (i j : Int) : Prop := 0 ≤ j ∧ (Builtin.Int.intBits i : Int) * j ≤ 2 ^ 27
theorem o_pow : OpR X (binaryOp .Pow) (rI CPowW fun i j => .int (i ^ j.toNat)) := opI fun _ _ _ _ _ _ _ hc q => pow_int hc.1 hc.2 q
theorem CPowW.of {i j : Int} (h : i.natAbs < 2 ^ 300) (h0 : 0 ≤ j) (h1 : j ≤ 1000) : CPowW i j := by
  have b : Builtin.Int.intBits i ≤ i.natAbs.log2 + 1 := by
    unfold Builtin.Int.intBits
    split <;> omega
  have c := PySem.Flt.log2_lt_of (by decide) h
  refine ⟨h0, ?_⟩
  have h3 : (Builtin.Int.intBits i : Int) * j ≤ 301 * j := Int.mul_le_mul_of_nonneg_right (by omega) h0
  omega
abbrev powD : R2' := intD CPowW fun i j => .int (i ^ j.toNat)
theorem l_pow {K : PySem.W.Frag} : LR2 K powD (rI CPowW fun i j => .int (i ^ j.toNat)) := l_int fun _ _ _ _ => .int _
/-- * -/
def rMulG : R2 := rOr (rI CMulW fun i j => .int (i * j)) rRep
theorem o_mul : OpR X (binaryOp .Mult) rMulG := OpR.or op_mulW op_rep
def mulD : R2' := fun d e L Q => match d, e with
  | .int i, .int j => CMulW i j ∧ Q (.int (i * j)) L
  | .ref a, .int k => ∃ xs, L a = some (.lst xs) ∧ -(2 ^ 63) ≤ k ∧ k < 2 ^ 63 ∧ xs.length * k.toNat ≤ sizeLine ∧ ∀ p, L p = none → Q (.ref p) (up L p (.lst (List.replicate k.toNat xs).flatten))
  | _, _ => False
theorem RelDs.rep {K : PySem.W.Frag} {H : Hp} {ds : List D} {vs : List V} (r : RelDs K H ds vs) : ∀ n, RelDs K H (List.replicate n ds).flatten (List.replicate n vs).flatten
  | 0 => .nil
  | n + 1 => by
    rw [List.replicate_succ, List.replicate_succ, List.flatten_cons, List.flatten_cons]
    exact r.app (RelDs.rep r n)
/-- comparisons -/
abbrev ltD : R2' := intD0 fun i j => .bl (decide (i < j))
abbrev leD : R2' := intD0 fun i j => .bl (decide (i ≤ j))
abbrev gtD : R2' := intD0 fun i j => .bl (decide (i > j))
abbrev geD : R2' := intD0 fun i j => .bl (decide (i ≥ j))
def isnD (neg : Bool) : R2' := fun d e L Q => match e with
  | .non => (match d with
    | .non => Q (.bl (!neg)) L
    | _ => Q (.bl neg) L)
  | _ => False
theorem l_isN {K : PySem.W.Frag} : LR2 K (isnD false) (fun x y H Q => y = .non ∧ Q (.bl (decide (x = .non))) H) := fun d e L v u H Q Q' rd re rh q k => by
  unfold isnD at q
  cases e <;> try exact q.elim
  cases re
  refine ⟨rfl, ?_⟩
  cases d <;> cases rd <;> exact k _ L _ H q (Kp.refl H) rh (by simp; exact .bl _)
theorem l_notN {K : PySem.W.Frag} : LR2 K (isnD true) (fun x y H Q => y = .non ∧ Q (.bl (!decide (x = .non))) H) := fun d e L v u H Q Q' rd re rh q k => by
  unfold isnD at q
  cases e <;> try exact q.elim
  cases re
  refine ⟨rfl, ?_⟩
  cases d <;> cases rd <;> exact k _ L _ H q (Kp.refl H) rh (by simp; exact .bl _)
/-! ### == by depth -/
section
variable (L : Lp)
mutual
inductive PyR : D → PyData → Prop where
  | non : PyR .non .none
  | bl (b : Bool) : PyR (.bl b) (.bool b)
  | int (i : Int) : PyR (.int i) (.int i)
  | str (x : Str) : PyR (.str x) (.str x)
  | tup {ds : List D} {ps : List PyData} : PyRs ds ps → PyR (.tup ds) (.tuple ps)
  | ilst {ds : List D} {ps : List PyData} : PyRs ds ps → PyR (.ilst ds) (.list ps)
  | ref {a : Addr} {ds : List D} {ps : List PyData} : L a = some (.lst ds) → PyRs ds ps → PyR (.ref a) (.list ps)
inductive PyRs : List D → List PyData → Prop where
  | nil : PyRs [] []
  | cons {d : D} {p : PyData} {ds : List D} {ps : List PyData} : PyR d p → PyRs ds ps → PyRs (d :: ds) (p :: ps)
end
end
mutual
theorem PyR.dp {K : PySem.W.Frag} {H : Hp} {L : Lp} (rh : RepH K H L) : ∀ {d : D} {p : PyData} {v : V}, PyR L d p → RelD K H d v → Dp K H v p
  | _, _, _, .non, .non => .non
  | _, _, _, .bl b, .bl _ => .bl b
  | _, _, _, .int i, .int _ => .int i
  | _, _, _, .str x, .str _ => .str x
  | _, _, _, .tup h, .tup s r => .tup (.inl (.inl s)) (PyRs.dp rh h r)
  | _, _, _, .ilst h, .ilst s r => .lst s.sql (PyRs.dp rh h r)
  | _, _, _, .ref e h, .ref _ => by
    obtain ⟨vs, e2, r⟩ := rh _ _ e
    exact .lst (.inl (.inl e2)) (PyRs.dp rh h r)
theorem PyRs.dp {K : PySem.W.Frag} {H : Hp} {L : Lp} (rh : RepH K H L) : ∀ {ds : List D} {ps : List PyData} {vs : List V}, PyRs L ds ps → RelDs K H ds vs → DpAll K H vs ps
  | _, _, _, .nil, .nil => .nil
  | _, _, _, .cons h k, .cons r s => .cons (PyR.dp rh h r) (PyRs.dp rh k s)
end
def eqDeep (neg : Bool) (d e : D) (L : Lp) (Q : VK') : Prop := ∃ pd pe, PyR L d pd ∧ PyR L e pe ∧ SeqAt.shaped pd = true ∧ SeqAt.shaped pe = true ∧ Q (.bl (if neg then !PyData.eqv pd pe else PyData.eqv pd pe)) L
def eqD (neg : Bool) : R2' := fun d e L Q => match d, e with
  | .int i, .int j => Q (.bl (if neg then !decide (i = j) else decide (i = j))) L
  | .bl i, .bl j => Q (.bl (if neg then !decide (i = j) else decide (i = j))) L
  | .str i, .str j => Q (.bl (if neg then !decide (i = j) else decide (i = j))) L
  | .non, .non => Q (.bl (!neg)) L
  | d, e => eqDeep neg d e L Q
theorem l_eq {K : PySem.W.Frag} : LR2 K (eqD false) (rOr rEq (rEqD K)) := fun d e L v u H Q Q' rd re rh q k => by
  have deep : eqDeep false d e L Q' → rEqD K v u H Q := fun ⟨pd, pe, h1, h2, s1, s2, q⟩ => ⟨pd, pe, h1.dp rh rd, h2.dp rh re, s1, s2, k _ L _ H q (Kp.refl H) rh (.bl _)⟩
  unfold eqD at q
  split at q
  · cases rd; cases re
    refine .inl ⟨rfl, k _ L _ H q (Kp.refl H) rh ?_⟩
    simp
    exact .bl _
  · cases rd; cases re
    refine .inl ⟨rfl, k _ L _ H q (Kp.refl H) rh ?_⟩
    simp
    exact .bl _
  · cases rd; cases re
    refine .inl ⟨rfl, k _ L _ H q (Kp.refl H) rh ?_⟩
    simp
    exact .bl _
  · cases rd; cases re
    refine .inl ⟨rfl, k _ L _ H q (Kp.refl H) rh ?_⟩
    simp
    exact .bl _
  · exact .inr (deep q)
theorem l_ne {K : PySem.W.Frag} : LR2 K (eqD true) (rOr rNe (rNeD K)) := fun d e L v u H Q Q' rd re rh q k => by
  have deep : eqDeep true d e L Q' → rNeD K v u H Q := fun ⟨pd, pe, h1, h2, s1, s2, q⟩ => ⟨pd, pe, h1.dp rh rd, h2.dp rh re, s1, s2, k _ L _ H q (Kp.refl H) rh (.bl _)⟩
  unfold eqD at q
  split at q
  · cases rd; cases re
    refine .inl ⟨rfl, k _ L _ H q (Kp.refl H) rh ?_⟩
    simp
    exact .bl _
  · cases rd; cases re
    refine .inl ⟨rfl, k _ L _ H q (Kp.refl H) rh ?_⟩
    simp
    exact .bl _
  · cases rd; cases re
    refine .inl ⟨rfl, k _ L _ H q (Kp.refl H) rh ?_⟩
    simp
    exact .bl _
  · cases rd; cases re
    refine .inl ⟨rfl, k _ L _ H q (Kp.refl H) rh ?_⟩
    simp
    exact .bl _
  · exact .inr (deep q)
theorem o_eq (hu : X.A.units + 64 < cLine) : OpR X (compareOp .Eq) (rOr rEq (rEqD X.K)) := OpR.or op_eq (op_eqD hu)
theorem o_ne (hu : X.A.units + 64 < cLine) : OpR X (compareOp .NotEq) (rOr rNe (rNeD X.K)) := OpR.or op_ne (op_neD hu)
def negD : R1' := fun d L Q => match d with
  | .int i => Q (.int (-i)) L
  | _ => False
theorem l_neg {K : PySem.W.Frag} : LR1 K negD (rU fun i => .int (-i)) := fun d L v H Q Q' rd rh q k => by
  cases d <;> try exact q.elim
  case int i => cases rd; exact ⟨i, rfl, k _ L _ H q (Kp.refl H) rh (.int _)⟩
/-- one sign in a text -/
def inSign (neg : Bool) : R2' := fun d e L Q => match d, e with
  | .str x, .str z => ∃ c, x = ⟨#[c]⟩ ∧ Q (.bl (if neg then !decide (c ∈ z.cps.toList) else decide (c ∈ z.cps.toList))) L
  | _, _ => False
theorem l_inSign {K : PySem.W.Frag} : LR2 K (inSign false) (fun x y H Q => ∃ (c : Nat) (z : Str), x = .str ⟨#[c]⟩ ∧ y = .str z ∧ Q (.bl (decide (c ∈ z.cps.toList))) H) := fun d e L v u H Q Q' rd re rh q k => by
  unfold inSign at q
  cases d <;> cases e <;> try exact q.elim
  case str.str x z => cases rd; cases re; obtain ⟨c, rfl, q⟩ := q; exact ⟨c, z, rfl, rfl, k _ L _ H q (Kp.refl H) rh (.bl _)⟩
theorem l_notInSign {K : PySem.W.Frag} : LR2 K (inSign true) (fun x y H Q => ∃ (c : Nat) (z : Str), x = .str ⟨#[c]⟩ ∧ y = .str z ∧ Q (.bl (!decide (c ∈ z.cps.toList))) H) := fun d e L v u H Q Q' rd re rh q k => by
  unfold inSign at q
  cases d <;> cases e <;> try exact q.elim
  case str.str x z => cases rd; cases re; obtain ⟨c, rfl, q⟩ := q; exact ⟨c, z, rfl, rfl, k _ L _ H q (Kp.refl H) rh (.bl _)⟩
/-! ### subscripts -/
/-- the items of a sequence -/
def seqD (d : D) (L : Lp) : Option (List D) := match d with
  | .tup ds => some ds
  | .ilst ds => some ds
  | .ref a => (match L a with
    | some (.lst ds) => some ds
    | _ => none)
  | _ => none
def atK (o : Option (List D)) (i : Int) (Q : D → Prop) : Prop := match o with
  | some ds => (match atI ds i with
    | some x => Q x
    | none => False)
  | none => False
def ixD : R2' := fun d e L Q => match e with
  | .int i => atK (seqD d L) i fun x => Q x L
  | _ => False
theorem ixN_len {n : Nat} {i : Int} {j : Nat} (h : ixN n i = some j) : True := trivial
theorem RelDs.atI {K : PySem.W.Frag} {H : Hp} {ds : List D} {vs : List V} {i : Int} {x : D} (r : RelDs K H ds vs) (h : L2.atI ds i = some x) : ∃ v, L2.atI vs i = some v ∧ RelD K H x v := by
  unfold L2.atI at h ⊢
  rw [r.length] at h
  cases e : ixN vs.length i with
  | none => rw [e] at h; cases h
  | some j => rw [e] at h; exact r.get h
theorem seqD_rel {K : PySem.W.Frag} {H : Hp} {L : Lp} {d : D} {v : V} {ds : List D} (rh : RepH K H L) (rd : RelD K H d v) (e : seqD d L = some ds) : ∃ a vs, v = .ref a ∧ RelDs K H ds vs ∧ (SqL K H a vs ∨ SqT K H a vs) := by
  unfold seqD at e
  split at e
  · cases e
    cases rd with
    | tup s r => exact ⟨_, _, rfl, r, .inr (.inl (.inl s))⟩
  · cases e
    cases rd with
    | ilst s r => exact ⟨_, _, rfl, r, .inl s.sql⟩
  · cases rd
    split at e
    · cases e
      rename_i q
      obtain ⟨vs, e2, r⟩ := rh _ _ q
      exact ⟨_, vs, rfl, r, .inl (.inl (.inl e2))⟩
    · cases e
  · cases e
theorem seqD_relT {K : PySem.W.Frag} {H : Hp} {L : Lp} {d : D} {v : V} {ds : List D} (rh : RepH K H L) (rd : RelD K H d v) (e : seqD d L = some ds) : ∃ a vs, v = .ref a ∧ RelDs K H ds vs ∧ (SqL K H a vs ∨ (SqT K H a vs ∧ H a = some (.tup vs))) := by
  unfold seqD at e
  split at e
  · cases e
    cases rd with
    | tup s r => exact ⟨_, _, rfl, r, .inr ⟨.inl (.inl s), s⟩⟩
  · cases e
    cases rd with
    | ilst s r => exact ⟨_, _, rfl, r, .inl s.sql⟩
  · cases rd
    split at e
    · cases e
      rename_i q
      obtain ⟨vs, e2, r⟩ := rh _ _ q
      exact ⟨_, vs, rfl, r, .inl (.inl (.inl e2))⟩
    · cases e
  · cases e
theorem l_ix {K : PySem.W.Frag} : LR2 K ixD (rIx K) := fun d e L v u H Q Q' rd re rh q k => by
  unfold ixD at q
  cases e <;> try exact q.elim
  all_goals unfold atK at q
  case int i =>
    cases re
    cases es : seqD d L with
    | none => rw [es] at q; exact q.elim
    | some ds =>
      rw [es] at q
      obtain ⟨a, vs, rfl, r, sq⟩ := seqD_rel rh rd es
      cases ea : atI ds i with
      | none => simp only [ea] at q
      | some x =>
        simp only [ea] at q
        obtain ⟨y, e2, r2⟩ := r.atI ea
        have fin : Q y H := k x L y H q (Kp.refl H) rh r2
        rcases sq with s | s
        · exact .inl ⟨a, vs, i, y, rfl, rfl, s, e2, fin⟩
        · exact .inr (.inl ⟨a, vs, i, y, rfl, rfl, s, e2, fin⟩)
theorem q_ix {a b : Expr} {pos} {ta tb : TE'} (ha : QE X a ta) (hb : QE X b tb) (hs : PlainIx b := by exact fun _ _ => rfl) : QE X (.Subscript a b pos) (wOp ixD ta tb) := PE.str (pe_ix ix_seq ha hb hs) (tOp_l l_ix)
/-- a written place -/
def ixK (o : Option (List D)) (n : Nat) (Q : D → Prop) : Prop := match o with
  | some ds => (match ds[n]? with
    | some x => Q x
    | none => False)
  | none => False
def wIxk (n : Nat) (t : TE') : TE' := fun τ L Q => t τ L fun d L1 => ixK (seqD d L1) n fun x => Q x L1
theorem q_ixk {a b : Expr} {pos} {ta : TE'} (n : Nat) (ha : QE X a ta) (hb : PE X b (tC (.int n))) (hs : PlainIx b := by exact fun _ _ => rfl) : QE X (.Subscript a b pos) (wIxk n ta) := PE.str (pe_ix ix_seq ha (qcon (.int n) hb fun _ => .int _) hs) fun σ H Q h => by
  refine tOp_l (r' := ixD) (tb := wC (.int n)) l_ix σ H Q ?_
  obtain ⟨τ, L, Q', a, b, c, k⟩ := h
  refine ⟨τ, L, Q', a, b, ?_, k⟩
  have c : ta τ L fun d L1 => match seqD d L1 with
    | some ds => (match ds[n]? with
      | some x => Q' x L1
      | none => False)
    | none => False := c
  show ta τ L fun d L1 => ixD d (.int n) L1 Q'
  have e : (fun d L1 => ixD d (.int n) L1 Q') = fun d L1 => match seqD d L1 with
    | some ds => (match ds[n]? with
      | some x => Q' x L1
      | none => False)
    | none => False := by
    funext d L1
    unfold ixD atK
    cases seqD d L1 with
    | none => rfl
    | some ds =>
      have e2 : atI ds (n : Int) = ds[n]? := by
        unfold atI ixN
        rw [if_pos (by omega)]
        by_cases hn : (n : Int) < ds.length
        · rw [if_pos hn]; rfl
        · rw [if_neg hn]
          simp
          omega
      simp only [e2]
  rw [e]
  exact c
/-! ### slices -/
def cutD (ds : List D) (lo hi : Option Int) : List D := (ds.drop (HT.sIx ds.length 0 lo)).take (HT.sIx ds.length ds.length hi - HT.sIx ds.length 0 lo)
theorem RelDs.cut {K : PySem.W.Frag} {H : Hp} {ds : List D} {vs : List V} (r : RelDs K H ds vs) (lo hi : Option Int) : RelDs K H (cutD ds lo hi) (cutV vs lo hi) := by
  unfold cutD cutV
  rw [r.length]
  exact (r.drop _).take _
abbrev TO' := S' → Lp → (Option Int → Lp → Prop) → Prop
def wNoPart : TO' := fun _ L Q => Q none L
def inK (d : D) (Q : Int → Prop) : Prop := match d with
  | .int i => Q i
  | _ => False
def wPart (t : TE') : TO' := fun τ L Q => t τ L fun d L1 => inK d fun i => Q (some i) L1
def lO (K : PySem.W.Frag) (t : TO') : TO := fun σ H Q => ∃ τ L Q', RepS K H τ σ ∧ RepH K H L ∧ t τ L Q' ∧ ∀ b L1 H1, Q' b L1 → Kp H H1 → RepH K H1 L1 → Q b H1
def QO (X : Cx) (e : Option Expr) (t : TO') : Prop := PO X e (lO X.K t)
theorem PO.str {X : Cx} {e : Option Expr} {t u : TO} (h : PO X e t) (k : ∀ σ H Q, u σ H Q → t σ H Q) : PO X e u := ⟨fun pins s σ H Q I q => h.run pins s σ H Q I (k σ H Q q)⟩
theorem o_none : QO X none wNoPart := PO.str po_none fun σ H Q h => by
  obtain ⟨τ, L, Q', a, b, c, k⟩ := h
  exact k _ L H c (Kp.refl H) b
theorem o_some {e : Expr} {t : TE'} (h : QE X e t) : QO X (some e) (wPart t) := PO.str (po_some h) fun σ H Q h => by
  obtain ⟨τ, L, Q', a, b, c, k⟩ := h
  refine ⟨τ, L, _, a, b, c, fun d L1 v H1 q kp rh rd => ?_⟩
  cases d with
  | int i => cases rd; exact ⟨i, rfl, k _ L1 H1 q kp rh⟩
  | _ => exact q.elim
def slD (d : D) (lo hi : Option Int) (L : Lp) (Q : VK') : Prop := match d with
  | .tup ds => Q (.tup (cutD ds lo hi)) L
  | .ilst ds => ∀ p, L p = none → Q (.ref p) (up L p (.lst (cutD ds lo hi)))
  | .ref a => ∃ ds, L a = some (.lst ds) ∧ ∀ p, L p = none → Q (.ref p) (up L p (.lst (cutD ds lo hi)))
  | .str z => z.length ≤ sizeLine ∧ Q (.str (cutS z lo hi)) L
  | _ => False
def wSl (te : TE') (tl th : TO') : TE' := fun τ L Q => te τ L fun d L1 => tl τ L1 fun l L2 => th τ L2 fun u L3 => slD d l u L3 Q
def rSlG (K : PySem.W.Frag) : V → Option Int → Option Int → Hp → VK → Prop := fun x lo hi H Q => rSlA K x lo hi H Q ∨ rSlL K x lo hi H Q ∨ rSlS x lo hi H Q
theorem sl_G : SlR X (rSlG X.K) := fun pins s σ H x v vl vu lo hi sl Q I rx hs pl pu h => by
  rcases h with h | h | h
  · exact sl_tupA pins s σ H x v vl vu lo hi sl Q I rx hs pl pu h
  · exact sl_list pins s σ H x v vl vu lo hi sl Q I rx hs pl pu h
  · exact sl_str pins s σ H x v vl vu lo hi sl Q I rx hs pl pu h
theorem q_sl {e : Expr} {lo hi : Option Expr} {p2 pos} {te : TE'} {tl th : TO'} (he : QE X e te) (hl : QO X lo tl) (hu : QO X hi th) : QE X (.Subscript e (.Slice lo hi none p2) pos) (wSl te tl th) := PE.str (pe_slice sl_G he hl hu) fun σ H Q h => by
  obtain ⟨τ, L, Q', a, b, c, k⟩ := h
  refine ⟨τ, L, _, a, b, c, fun d L1 v H1 q kp rh rd => ?_⟩
  refine ⟨τ, L1, _, a.mono kp, rh, q, fun l L2 H2 q2 kp2 rh2 => ?_⟩
  refine ⟨τ, L2, _, a.mono (kp.trans kp2), rh2, q2, fun u L3 H3 q3 kp3 rh3 => ?_⟩
  have rd3 := rd.mono (kp2.trans kp3)
  have kp4 := (kp.trans kp2).trans kp3
  unfold slD at q3
  cases d <;> try exact q3.elim
  case tup ds =>
    cases rd3 with
    | tup s r =>
      refine .inl ⟨_, _, rfl, .inl (.inl s), fun e => ?_, fun _ p np => ?_⟩
      · have e1 : cutD ds l u = ds := by
          unfold cutD
          rw [r.length, e.1, e.2, ← r.length]
          simp
        have q3 : Q' (.tup (cutD ds l u)) L3 := q3
        rw [e1] at q3
        exact k _ L3 _ H3 q3 kp4 rh3 (.tup s r)
      · exact k _ L3 _ _ q3 (kp4.trans (Kp.new np)) (rh3.hid np) (.tup upd_same ((r.cut l u).mono (Kp.new np)))
  case ilst ds =>
    cases rd3 with
    | ilst s r => exact .inr (.inl ⟨_, _, rfl, s.sql, fun p np => k _ _ _ _ (q3 p (rh3.no np)) (kp4.trans (Kp.new np)) (rh3.new np ⟨_, upd_same, (r.cut l u).mono (Kp.new np)⟩) (.ref p)⟩)
  case ref p =>
    cases rd3
    obtain ⟨ds, e, q3⟩ := q3
    obtain ⟨vs, e2, r⟩ := rh3 _ _ e
    exact .inr (.inl ⟨_, _, rfl, .inl (.inl e2), fun p np => k _ _ _ _ (q3 p (rh3.no np)) (kp4.trans (Kp.new np)) (rh3.new np ⟨_, upd_same, (r.cut l u).mono (Kp.new np)⟩) (.ref p)⟩)
  case str z =>
    cases rd3
    exact .inr (.inr ⟨z, rfl, q3.1, k _ L3 _ H3 q3.2 kp4 rh3 (.str _)⟩)
end
end Z

/-! calls, loops, comprehensions, defs by data -/
namespace Z
open PySem PySem.Spec PyProof.Rows L2
abbrev RA' := List D → Lp → VK' → Prop
def wCB (r : RA') (t : TA') : TE' := fun τ L Q => t τ L fun ds L1 => r ds L1 Q
theorem tCB_l {K : PySem.W.Frag} {r' : RA'} {r : List V → Hp → VK → Prop} {n : Nat} {t : TA'} (hr : LRA K r' r) (σ : L2.St) (H : Hp) (Q : VK) (h : lE K (wCB r' t) σ H Q) : tCB r (lA K n t) σ H Q := by
  obtain ⟨τ, L, Q', a, b, c, k⟩ := h
  refine ⟨τ, L, _, a, b, c, fun ds L1 vs H1 q hl kp rh rd => ?_⟩
  exact hr ds L1 vs H1 Q Q' rd rh q fun d1 L1' v1 H1' q3 kp3 => k d1 L1' v1 H1' q3 (kp.trans kp3)
section
variable {X : Cx}
theorem q_cb {id : String} {x : Str} {e : Expr} {es : List Expr} {p pos : Pos} {t : TA'} {r : List V → Hp → VK → Prop} {r' : RA'} (hc : CallR X (.builtin id) r) (hr : LRA X.K r' r) (hg : Gl X x) (hm : X.mg x = none) (hv : bootBuiltins x = some (.builtin id)) (ha : QA X (e :: es) t)
    (hn : x ≠ "__name__" := by decide) (hdb : (x == ("__debug__" : Str)) = false := by decide)
    (he : starEach (e :: es) X.env = (false, eval e X.env) :: starEach es X.env := by rfl) (hpl : (backTo pos (starEach es X.env)).any (·.1) = false := by rfl) : QE X (.Call (.Name x p) (e :: es) [] pos) (wCB r' t) :=
  PE.str (pe_callB hc hg hm hv ha hn hdb he hpl) (tCB_l hr)
theorem q_cty {T : String} {x : Str} {e : Expr} {es : List Expr} {p pos : Pos} {t : TA'} {r : List V → Hp → VK → Prop} {r' : RA'} (hc : CallR X (.type T) r) (hr : LRA X.K r' r) (hg : Gl X x) (hm : X.mg x = none) (hv : bootBuiltins x = some (.type T)) (ha : QA X (e :: es) t)
    (hn : x ≠ "__name__" := by decide) (hdb : (x == ("__debug__" : Str)) = false := by decide)
    (he : starEach (e :: es) X.env = (false, eval e X.env) :: starEach es X.env := by rfl) (hpl : (backTo pos (starEach es X.env)).any (·.1) = false := by rfl) : QE X (.Call (.Name x p) (e :: es) [] pos) (wCB r' t) :=
  PE.str (pe_callTy hc hg hm hv ha hn hdb he hpl) (tCB_l hr)
/-! ### built-ins -/
/-- a sequence's items, what then -/
def sqK (o : Option (List D)) (Q : List D → Prop) : Prop := match o with
  | some xs => Q xs
  | none => False
def lenD : RA' := fun ds L Q => match ds with
  | [.str x] => x.length ≤ sizeLine ∧ Q (.int x.length) L
  | [d] => sqK (seqD d L) fun xs => Q (.int xs.length) L
  | _ => False
theorem l_len {K : PySem.W.Frag} : LRA K lenD (fun xs H Q => ∃ x n, xs = [x] ∧ LenV K x H n ∧ Q (.int n) H) := fun ds L vs H Q Q' rd rh q k => by
  unfold lenD at q
  split at q
  · cases rd with
    | cons r1 r2 => cases r1; cases r2; exact ⟨_, _, rfl, ⟨q.1, rfl⟩, k _ L _ H q.2 (Kp.refl H) rh (.int _)⟩
  · rename_i d _
    cases rd with
    | cons r1 r2 =>
      cases r2
      cases es : seqD d L with
      | none => rw [es] at q; exact q.elim
      | some xs =>
        simp only [es, sqK] at q
        obtain ⟨a, ws, rfl, r, s⟩ := seqD_rel rh r1 es
        refine ⟨_, ws.length, rfl, ?_, k _ L _ H q (Kp.refl H) rh (by rw [r.length]; exact .int _)⟩
        rcases s with s | s
        · exact .inl ⟨_, s, rfl⟩
        · exact .inr ⟨_, s, rfl⟩
  · exact q.elim
def intcD : RA' := fun ds L Q => match ds with
  | [.int i] => Q (.int i) L
  | [.bl b] => Q (.int (if b then 1 else 0)) L
  | _ => False
theorem l_intc {K : PySem.W.Frag} : LRA K intcD (fun xs H Q => (∃ i, xs = [.int i] ∧ Q (.int i) H) ∨ ∃ k, xs = [.bl k] ∧ Q (.int (if k then 1 else 0)) H) := fun ds L vs H Q Q' rd rh q k => by
  unfold intcD at q
  split at q
  · cases rd with
    | cons r1 r2 => cases r1; cases r2; exact .inl ⟨_, rfl, k _ L _ H q (Kp.refl H) rh (.int _)⟩
  · cases rd with
    | cons r1 r2 => cases r1; cases r2; exact .inr ⟨_, rfl, k _ L _ H q (Kp.refl H) rh (.int _)⟩
  · exact q.elim
def absD : RA' := fun ds L Q => match ds with
  | [.int i] => Q (.int (if i < 0 then -i else i)) L
  | _ => False
theorem l_abs {K : PySem.W.Frag} : LRA K absD (fun xs H Q => ∃ i, xs = [.int i] ∧ Q (.int (if i < 0 then -i else i)) H) := fun ds L vs H Q Q' rd rh q k => by
  unfold absD at q
  split at q
  · cases rd with
    | cons r1 r2 => cases r1; cases r2; exact ⟨_, rfl, k _ L _ H q (Kp.refl H) rh (.int _)⟩
  · exact q.elim
def listD : RA' := fun ds L Q => match ds with
  | [d] => sqK (seqD d L) fun xs => ∀ p, L p = none → Q (.ref p) (up L p (.lst xs))
  | _ => False
theorem l_list {K : PySem.W.Frag} : LRA K listD (fun xs H Q => ∃ p ys, xs = [.ref p] ∧ (SqL K H p ys ∨ SqT K H p ys) ∧ ∀ l, H l = none → Q (.ref l) (upd H l (.lst ys))) := fun ds L vs H Q Q' rd rh q k => by
  unfold listD at q
  split at q
  · rename_i d
    cases rd with
    | cons r1 r2 =>
      cases r2
      cases es : seqD d L with
      | none => rw [es] at q; exact q.elim
      | some xs =>
        simp only [es, sqK] at q
        obtain ⟨a, ws, rfl, r, s⟩ := seqD_rel rh r1 es
        exact ⟨a, ws, rfl, s, fun p np => k _ _ _ _ (q p (rh.no np)) (Kp.new np) (rh.new np ⟨_, upd_same, r.mono (Kp.new np)⟩) (.ref p)⟩
  · exact q.elim
def tupleD : RA' := fun ds L Q => match ds with
  | [d] => sqK (seqD d L) fun xs => Q (.tup xs) L
  | _ => False
theorem l_tuple {K : PySem.W.Frag} : LRA K tupleD (fun xs H Q => ∃ p ys, xs = [.ref p] ∧ ((SqL K H p ys ∧ ∀ l, H l = none → Q (.ref l) (upd H l (.tup ys))) ∨ (SqT K H p ys ∧ Q (.ref p) H))) := fun ds L vs H Q Q' rd rh q k => by
  unfold tupleD at q
  split at q
  · rename_i d
    cases rd with
    | cons r1 r2 =>
      cases r2
      cases es : seqD d L with
      | none => rw [es] at q; exact q.elim
      | some xs =>
        simp only [es, sqK] at q
        obtain ⟨a, ws, rfl, r, s⟩ := seqD_relT rh r1 es
        refine ⟨a, ws, rfl, ?_⟩
        rcases s with s | s
        · exact .inl ⟨s, fun p np => k _ L _ _ q (Kp.new np) (rh.hid np) (.tup upd_same (r.mono (Kp.new np)))⟩
        · exact .inr ⟨s.1, k _ L _ H q (Kp.refl H) rh (.tup s.2 r)⟩
  · exact q.elim
/-- all, any over a list of truth values -/
def allD (f : List Bool → Bool) : RA' := fun ds L Q => match ds with
  | [.ref a] => ∃ bs : List Bool, L a = some (.lst (bs.map D.bl)) ∧ Q (.bl (f bs)) L
  | _ => False
theorem l_all {K : PySem.W.Frag} : LRA K (allD fun bs => bs.all id) (rAll K) := fun ds L vs H Q Q' rd rh q k => by
  unfold allD at q
  split at q
  · cases rd with
    | cons r1 r2 =>
      cases r1; cases r2
      obtain ⟨bs, e, q⟩ := q
      obtain ⟨ws, e2, r⟩ := rh _ _ e
      have e3 := r.bls
      subst e3
      exact ⟨_, bs, rfl, .inl (.inl e2), k _ L _ H q (Kp.refl H) rh (.bl _)⟩
  · exact q.elim
theorem l_any {K : PySem.W.Frag} : LRA K (allD fun bs => bs.any id) (rAny K) := fun ds L vs H Q Q' rd rh q k => by
  unfold allD at q
  split at q
  · cases rd with
    | cons r1 r2 =>
      cases r1; cases r2
      obtain ⟨bs, e, q⟩ := q
      obtain ⟨ws, e2, r⟩ := rh _ _ e
      have e3 := r.bls
      subst e3
      exact ⟨_, bs, rfl, .inl (.inl e2), k _ L _ H q (Kp.refl H) rh (.bl _)⟩
  · exact q.elim
def sumD : RA' := fun ds L Q => match ds with
  | [.ref a] => ∃ ns : List Int, L a = some (.lst (ns.map D.int)) ∧ Q (.int ns.sum) L
  | _ => False
theorem l_sum {K : PySem.W.Frag} : LRA K sumD (rSum K) := fun ds L vs H Q Q' rd rh q k => by
  unfold sumD at q
  split at q
  · cases rd with
    | cons r1 r2 =>
      cases r1; cases r2
      obtain ⟨bs, e, q⟩ := q
      obtain ⟨ws, e2, r⟩ := rh _ _ e
      have e3 := r.ints
      subst e3
      exact ⟨_, bs, rfl, .inl (.inl e2), k _ L _ H q (Kp.refl H) rh (.int _)⟩
  · exact q.elim
/-- the type's name -/
def tyD (d : D) (L : Lp) : Option String := match d with
  | .non => some "NoneType"
  | .bl _ => some "bool"
  | .int _ => some "int"
  | .str _ => some "str"
  | .tup _ => some "tuple"
  | .ilst _ => some "list"
  | .ref a => (match L a with
    | some (.lst _) => some "list"
    | some (.dK _) => some "dict"
    | some (.dT _) => some "dict"
    | _ => none)
  | .ty _ => none
  | .obj _ _ => none
  | .scr _ => none
theorem tyD_rel {K : PySem.W.Frag} {H : Hp} {L : Lp} {d : D} {v : V} {n : String} (rh : RepH K H L) (rd : RelD K H d v) (e : tyD d L = some n) : TyX K H v (.type n) := by
  unfold tyD at e
  split at e
  · cases e; cases rd; exact .base .non
  · cases e; cases rd; exact .base (.bl _)
  · cases e; cases rd; exact .base (.int _)
  · cases e; cases rd; exact .base (.str _)
  · cases e
    cases rd with
    | tup s r =>
      exact .base (.tup s)
  · cases e
    cases rd with
    | ilst s r =>
      obtain ⟨ob, s⟩ := s
      exact .base (.frz s)
  · cases rd
    split at e
    · cases e
      rename_i q
      obtain ⟨vs, e2, r⟩ := rh _ _ q
      exact .base (.lst e2)
    · cases e
      rename_i q
      obtain ⟨vs, e2, r⟩ := rh _ _ q
      exact .base (.dK e2)
    · cases e
      rename_i q
      obtain ⟨vs, e2, r⟩ := rh _ _ q
      exact .base (.dT e2)
    · cases e
  · cases e
  · cases e
  · cases e
/-- isinstance(x, T), T a built-in class -/
def isiB (n T : String) : Bool := if (Value.type n == Value.type T) = true then true else match PySem.fastBuiltinMro n with
  | some m => m.contains (Value.type T)
  | none => false
def tyK (o : Option String) (Q : String → Prop) : Prop := match o with
  | some n => Q n
  | none => False
def isiD (T : String) : RA' := fun ds L Q => match ds with
  | [d, .ty _] => tyK (tyD d L) fun n => Q (.bl (n == T || (n == "bool" && T == "int"))) L
  | _ => False
theorem isi_tab (n T : String) (hn : n ∈ ["NoneType", "bool", "int", "str", "tuple", "list", "dict"]) (hT : T ∈ ["bool", "int", "str", "tuple", "list", "dict"]) : kitB n T = some (n == T || (n == "bool" && T == "int")) := by
  have h : ∀ n ∈ ["NoneType", "bool", "int", "str", "tuple", "list", "dict"], ∀ T ∈ ["bool", "int", "str", "tuple", "list", "dict"], kitB n T = some (n == T || (n == "bool" && T == "int")) := by decide +kernel
  exact h n hn T hT
theorem tyD_mem {d : D} {L : Lp} {n : String} (e : tyD d L = some n) : n ∈ ["NoneType", "bool", "int", "str", "tuple", "list", "dict"] := by
  unfold tyD at e
  split at e <;> first | (cases e; decide) | (split at e <;> first | (cases e; decide) | cases e) | cases e
theorem l_isi {K : PySem.W.Frag} (T : String) (hT : T ∈ ["bool", "int", "str", "tuple", "list", "dict"]) : LRA K (fun ds L Q => match ds with
  | [d, .ty T'] => T' = T ∧ isiD T [d, .ty T'] L Q
  | _ => False) (rIsi K) := fun ds L vs H Q Q' rd rh q k => by
  match ds, rd, q with
  | [d, .ty T'], .cons r1 (.cons r2 .nil), ⟨e, q⟩ =>
    subst e
    cases r2
    unfold isiD at q
    simp only at q
    cases et : tyD d L with
    | none => rw [et] at q; exact q.elim
    | some n =>
      simp only [et, tyK] at q
      exact ⟨_, _, _, _, _, rfl, .ty _, tyD_rel rh r1 et, kit_ty (isi_tab n _ (tyD_mem et) hT), k _ L _ H q (Kp.refl H) rh (.bl _)⟩
/-- a builtin's name as a value -/
theorem q_ty {x : Str} {n : String} {pos : Pos} (hg : Gl X x) (hm : X.mg x = none) (hv : bootBuiltins x = some (.type n)) (hn : x ≠ "__name__" := by decide) (hd : (x == ("__debug__" : Str)) = false := by decide) : QE X (.Name x pos) (wC (.ty n)) :=
  qcon (.ty n) (pe_bltn (v := .ty n) hg hm hv rfl hn hd) fun _ => .ty n
/-! ### methods -/
abbrev RM' := D → List D → Lp → VK' → Prop
def LRM (K : PySem.W.Frag) (T : String) (r' : RM') (r : V → List V → Hp → VK → Prop) : Prop := ∀ d ds L v vs H Q Q', RelD K H d v → RelDs K H ds vs → RepH K H L → r' d ds L Q' → (∀ d1 L1 v1 H1, Q' d1 L1 → Kp H H1 → RepH K H1 L1 → RelD K H1 d1 v1 → Q v1 H1) → r v vs H Q
/-- the receiver's kind -/
def kindD (T : String) (d : D) (L : Lp) : Prop := match d with
  | .str _ => T = "str"
  | .ref a => (T = "list" ∧ ∃ ds, L a = some (.lst ds)) ∨ (T = "dict" ∧ ((∃ ws, L a = some (.dK ws)) ∨ ∃ ws, L a = some (.dT ws)))
  | .ilst _ => T = "list"
  | _ => False
theorem kind_tyV {K : PySem.W.Frag} {H : Hp} {L : Lp} {T : String} {d : D} {v : V} (rh : RepH K H L) (rd : RelD K H d v) (h : kindD T d L) : tyV K T v H := by
  unfold kindD at h
  split at h
  · cases rd; exact h
  · cases rd
    rcases h with ⟨e, ds, q⟩ | ⟨e, ⟨ws, q⟩ | ⟨ws, q⟩⟩
    · obtain ⟨vs, e2, _⟩ := rh _ _ q
      exact .inl ⟨e, vs, .inl (.inl e2)⟩
    · obtain ⟨vs, e2, _⟩ := rh _ _ q
      exact .inr (.inr (.inl ⟨e, .inl ⟨vs, e2⟩⟩))
    · obtain ⟨vs, e2, _⟩ := rh _ _ q
      exact .inr (.inr (.inl ⟨e, .inr ⟨vs, e2⟩⟩))
  · cases rd with
    | ilst s r => exact .inl ⟨h, _, s.sql⟩
  · exact h.elim
def wBM (T : String) (r : RM') (to : TE') (t : TA') : TE' := fun τ L Q => to τ L fun d L1 => kindD T d L1 ∧ t τ L1 fun ds L2 => r d ds L2 Q
def wBM0 (T : String) (r : RM') (to : TE') : TE' := fun τ L Q => to τ L fun d L1 => kindD T d L1 ∧ r d [] L1 Q
theorem q_bm {o e : Expr} {es : List Expr} {to : TE'} {t : TA'} {name : Str} {apos cpos : Pos} {T id : String} {r : V → List V → Hp → VK → Prop} {r' : RM'} (pa : PlainAttrs T) (slot : Slot T name id) (hty : typeOf (.builtin id) = pure (.type "method_descriptor")) (hm : MtR X id r) (hr : LRM X.K T r' r) (ho : QE X o to) (ha : QA X (e :: es) t)
    (hbase : attributeBase o name X.env (eval o X.env) = eval o X.env := by rfl)
    (hfew : ((backTo cpos (starEach (e :: es) X.env)).all (fun x => !x.1) && (backToKw cpos (keywordEach [] X.env)).all (fun x => x.1.isSome)
      && decide ((e :: es).length + ([] : List Keyword).length + (if ([] : List Keyword).isEmpty then 0 else 1) < 30)) = true := by rfl)
    (hline : (apos.endLine == cpos.line) = true := by rfl) (hs : starEach (e :: es) X.env = (false, eval e X.env) :: starEach es X.env := by rfl) (hplain : (backTo cpos (starEach es X.env)).any (·.1) = false := by rfl) :
    QE X (.Call (.Attribute o name apos) (e :: es) [] cpos) (wBM T r' to t) := PE.str (pe_bm pa slot hty hm ho ha hbase hfew hline hs hplain) fun σ H Q h => by
  obtain ⟨τ, L, Q', a, b, c, k⟩ := h
  refine ⟨τ, L, _, a, b, c, fun d L1 v H1 q kp rh rd => ⟨kind_tyV rh rd q.1, ?_⟩⟩
  refine ⟨τ, L1, _, a.mono kp, rh, q.2, fun ds L2 vs H2 q2 hl kp2 rh2 rd2 => ?_⟩
  exact hr d ds L2 v vs H2 Q Q' (rd.mono kp2) rd2 rh2 q2 fun d1 L1' v1 H1' q3 kp3 => k d1 L1' v1 H1' q3 ((kp.trans kp2).trans kp3)
theorem q_bm0 {o : Expr} {to : TE'} {name : Str} {apos cpos : Pos} {T id : String} {r : V → List V → Hp → VK → Prop} {r' : RM'} (pa : PlainAttrs T) (slot : Slot T name id) (hty : typeOf (.builtin id) = pure (.type "method_descriptor")) (hm : MtR X id r) (hr : LRM X.K T r' r) (ho : QE X o to)
    (hbase : attributeBase o name X.env (eval o X.env) = eval o X.env := by rfl) (hline : (apos.endLine == cpos.line) = true := by rfl) : QE X (.Call (.Attribute o name apos) [] [] cpos) (wBM0 T r' to) := PE.str (pe_bm0 pa slot hty hm ho hbase hline) fun σ H Q h => by
  obtain ⟨τ, L, Q', a, b, c, k⟩ := h
  refine ⟨τ, L, _, a, b, c, fun d L1 v H1 q kp rh rd => ⟨kind_tyV rh rd q.1, ?_⟩⟩
  exact hr d [] L1 v [] H1 Q Q' rd .nil rh q.2 fun d1 L1' v1 H1' q3 kp3 => k d1 L1' v1 H1' q3 (kp.trans kp3)
/-- a list's place is written anew -/
theorem put_lst {K : PySem.W.Frag} {H : Hp} {L : Lp} {a : Addr} {vs ws : List V} {es : List D} (rh : RepH K H L) (e2 : H a = some (.lst vs)) (r : RelDs K H es ws) : Kp H (upd H a (.lst ws)) ∧ RepH K (upd H a (.lst ws)) (up L a (.lst es)) := by
  have nf : ¬ isFix (H a) := by rw [e2]; exact id
  exact ⟨Kp.upd nf, rh.put nf ⟨ws, upd_same, r.mono (Kp.upd nf)⟩⟩
def appendD : RM' := fun d ds L Q => match d, ds with
  | .ref a, [e] => ∃ xs, L a = some (.lst xs) ∧ xs.length < sizeLine ∧ Q .non (up L a (.lst (xs ++ [e])))
  | _, _ => False
theorem l_append {K : PySem.W.Frag} : LRM K "list" appendD rAppend := fun d ds L v vs H Q Q' rd rds rh q k => by
  unfold appendD at q
  split at q
  · rename_i a e
    obtain ⟨xs, e1, z, q⟩ := q
    obtain ⟨ws, e2, r⟩ := rh _ _ e1
    cases rd
    cases rds with
    | cons r1 r2 =>
      cases r2
      obtain ⟨kp, rh2⟩ := put_lst rh e2 (r.app (.cons r1 .nil))
      exact ⟨a, ws, _, rfl, rfl, e2, by rw [← r.length]; exact z, k _ _ _ _ q kp rh2 .non⟩
  · exact q.elim
def insertD : RM' := fun d ds L Q => match d, ds with
  | .ref a, [.int i, e] => ∃ xs, L a = some (.lst xs) ∧ xs.length < sizeLine ∧ 0 ≤ i ∧ i < 2 ^ 63 ∧ Q .non (up L a (.lst (xs.take (min i.toNat xs.length) ++ e :: xs.drop (min i.toNat xs.length))))
  | _, _ => False
def reverseD : RM' := fun d ds L Q => match d, ds with
  | .ref a, [] => ∃ xs, L a = some (.lst xs) ∧ Q .non (up L a (.lst xs.reverse))
  | _, _ => False
theorem l_reverse {K : PySem.W.Frag} : LRM K "list" reverseD rReverse := fun d ds L v vs H Q Q' rd rds rh q k => by
  unfold reverseD at q
  split at q
  · rename_i a
    obtain ⟨xs, e1, q⟩ := q
    obtain ⟨ws, e2, r⟩ := rh _ _ e1
    cases rd
    cases rds
    obtain ⟨kp, rh2⟩ := put_lst rh e2 r.rev
    exact ⟨a, ws, rfl, rfl, e2, k _ _ _ _ q kp rh2 .non⟩
  · exact q.elim
def clearD : RM' := fun d ds L Q => match d, ds with
  | .ref a, [] => ∃ xs, L a = some (.lst xs) ∧ Q .non (up L a (.lst []))
  | _, _ => False
theorem l_clear {K : PySem.W.Frag} : LRM K "list" clearD rClear := fun d ds L v vs H Q Q' rd rds rh q k => by
  unfold clearD at q
  split at q
  · rename_i a
    obtain ⟨xs, e1, q⟩ := q
    obtain ⟨ws, e2, r⟩ := rh _ _ e1
    cases rd
    cases rds
    obtain ⟨kp, rh2⟩ := put_lst rh e2 .nil
    exact ⟨a, ws, rfl, rfl, e2, k _ _ _ _ q kp rh2 .non⟩
  · exact q.elim
def extendD : RM' := fun d ds L Q => match d, ds with
  | .ref a, [.ref b] => ∃ xs ys, L a = some (.lst xs) ∧ L b = some (.lst ys) ∧ xs.length + ys.length ≤ sizeLine ∧ Q .non (up L a (.lst (xs ++ ys)))
  | _, _ => False
theorem l_extend {K : PySem.W.Frag} : LRM K "list" extendD rExtend := fun d ds L v vs H Q Q' rd rds rh q k => by
  unfold extendD at q
  split at q
  · rename_i a b
    obtain ⟨xs, ys, e1, f1, z, q⟩ := q
    obtain ⟨ws, e2, r⟩ := rh _ _ e1
    obtain ⟨us, f2, s⟩ := rh _ _ f1
    cases rd
    cases rds with
    | cons r1 r2 =>
      cases r1; cases r2
      obtain ⟨kp, rh2⟩ := put_lst rh e2 (r.app s)
      exact ⟨a, b, ws, us, rfl, rfl, e2, f2, by rw [← r.length, ← s.length]; exact z, k _ _ _ _ q kp rh2 .non⟩
  · exact q.elim
/-! ### o[i] = v -/
abbrev RS' := D → D → D → Lp → (Lp → Prop) → Prop
def setD : RS' := fun o i d L Q => match o, i with
  | .ref a, .int k => ∃ xs j, L a = some (.lst xs) ∧ ixN xs.length k = some j ∧ Q (up L a (.lst (xs.set j d)))
  | _, _ => False
theorem g_sub {o i : Expr} {pos : Pos} {to ti : TE'} (ho : QE X o to) (hi : QE X i ti) (ha : ∀ v, assign (.Subscript o i pos) X.env v = (do
      let ov ← holding [v] (eval o X.env)
      let iv ← holding [v, ov] (eval i X.env)
      standAt pos
      holding [v, ov, iv] (setItem ov iv v)
      release [v, ov, iv] []) := by intro _; rfl) : QG X (.Subscript o i pos) (hSub to ti setD) := PG.str (pg_sub ho hi set_list ha) fun v σ H Q h => by
  obtain ⟨d, τ, L, Q', rd, a, b, c, k⟩ := h
  refine ⟨τ, L, _, a, b, c, fun x L1 v1 H1 q kp rh rx => ?_⟩
  refine ⟨τ, L1, _, a.mono kp, rh, q, fun y L2 v2 H2 q2 kp2 rh2 ry => ?_⟩
  unfold setD at q2
  split at q2
  · obtain ⟨xs, j, e1, ej, q2⟩ := q2
    obtain ⟨ws, e2, r⟩ := rh2 _ _ e1
    cases rx; cases ry
    obtain ⟨kp3, rh3⟩ := put_lst rh2 e2 (r.set j (rd.mono (kp.trans kp2)))
    exact ⟨_, ws, _, j, rfl, rfl, e2, by rw [← r.length]; exact ej, k _ _ _ _ q2 ((kp.trans kp2).trans kp3) rh3 (a.mono ((kp.trans kp2).trans kp3))⟩
  · exact q2.elim
end
end Z

/-! what is walked, loops, comprehensions, calls, defs by data -/
namespace Z
open PySem PySem.Spec PyProof.Rows L2 RZ
/-! ### forgetting -/
def LeS (τ τ' : S') : Prop := τ.length = τ'.length ∧ ∀ (i : Nat) (d : D), τ[i]? = some (some d) → τ'[i]? = some (some d)
theorem LeS.refl (τ : S') : LeS τ τ := ⟨rfl, fun _ _ h => h⟩
theorem RepS.le {K : PySem.W.Frag} {H : Hp} {τ τ' : S'} {σ : L2.St} (h : RepS K H τ σ) (e : LeS τ' τ) : RepS K H τ' σ := ⟨e.1.trans h.1, fun i d q => h.2 i d (e.2 i d q)⟩
/-- on slots that are written out -/
def leS : S' → S' → Prop
  | [], [] => True
  | none :: a, _ :: b => leS a b
  | some d :: a, e :: b => e = some d ∧ leS a b
  | _, _ => False
theorem LeS.of : ∀ {a b : S'}, leS a b → LeS a b
  | [], [], _ => ⟨rfl, fun _ _ h => h⟩
  | none :: a, e :: b, h => by
    have z := LeS.of (show leS a b from h)
    refine ⟨by rw [List.length_cons, List.length_cons, z.1], fun i d q => ?_⟩
    cases i with
    | zero => simp at q
    | succ i => exact z.2 i d (by simpa using q)
  | some d :: a, e :: b, h => by
    obtain ⟨rfl, h⟩ : e = some d ∧ leS a b := h
    have z := LeS.of h
    refine ⟨by rw [List.length_cons, List.length_cons, z.1], fun i d q => ?_⟩
    cases i with
    | zero => simpa using q
    | succ i => exact z.2 i d (by simpa using q)
  | [], _ :: _, h => h.elim
  | none :: _, [], h => h.elim
  | some _ :: _, [], h => h.elim
/-- for fewer facts -/
def Dn (P : Lp → Prop) (L : Lp) : Prop := ∃ L1, Le L1 L ∧ P L1
def DnS (P : S' → Lp → Prop) (τ : S') (L : Lp) : Prop := ∃ τ1 L1, LeS τ1 τ ∧ Le L1 L ∧ P τ1 L1
theorem Dn.mk {P : Lp → Prop} {L : Lp} (h : P L) : Dn P L := ⟨L, Le.refl L, h⟩
theorem DnS.mk {P : S' → Lp → Prop} {τ : S'} {L : Lp} (h : P τ L) : DnS P τ L := ⟨τ, L, LeS.refl τ, Le.refl L, h⟩
/-! ### what is walked -/
abbrev TI' := S' → Lp → (List D → (Lp → Prop) → Lp → Prop) → Prop
/-- the turns of J bring xs while st stands, from H1 on -/
structure ItOk (K : PySem.W.Frag) (H1 : Hp) (J : It) (xs : List D) (st : Lp → Prop) : Prop where
  stop : ∀ i H L, Kp H1 H → RepH K H L → st L → xs.length ≤ i → J.stop i H
  go : ∀ i H L, Kp H1 H → RepH K H L → st L → i < xs.length → J.go i H
  yld : ∀ i H L x H', Kp H1 H → RepH K H L → st L → i < xs.length → J.yld i H x H' → ∃ d, xs[i]? = some d ∧ RelD K H' d x ∧ Kp H H' ∧ RepH K H' L
def lI (K : PySem.W.Frag) (wi : TI') : TI := fun σ H R => ∃ τ L R', RepS K H τ σ ∧ RepH K H L ∧ wi τ L R' ∧ ∀ xs st L1 J H1, R' xs st L1 → Kp H H1 → RepH K H1 L1 → ItOk K H1 J xs st → R J H1
def QI (X : Cx) (tg iter : Expr) (wi : TI') : Prop := PI X tg iter (lI X.K wi)
theorem PI.str {X : Cx} {tg e : Expr} {t u : TI} (h : PI X tg e t) (k : ∀ σ H Q, u σ H Q → t σ H Q) : PI X tg e u := ⟨fun pins s σ H R I q => h.run pins s σ H R I (k σ H R q)⟩
/-- a list, a tuple -/
def walkK (d : D) (L1 : Lp) (R : List D → (Lp → Prop) → Lp → Prop) : Prop := match d with
  | .tup ds => R ds (fun _ => True) L1
  | .ilst ds => R ds (fun _ => True) L1
  | .ref a => ∃ ds, L1 a = some (.lst ds) ∧ R ds (fun L => L a = some (.lst ds)) L1
  | _ => False
def vSeq (t : TE') : TI' := fun τ L R => t τ L fun d L1 => walkK d L1 R
theorem SqL.uniq {K : PySem.W.Frag} {H : Hp} {a : Addr} {xs ys : List V} (h : H a = some (.lst xs)) (k : SqL K H a ys) (hk : K.lookup a = none) : ys = xs := by
  rcases k with (k | ⟨ob, k⟩) | ⟨o, _, _, e, _⟩
  · rw [h] at k; cases k; rfl
  · rw [h] at k; cases k
  · rw [hk] at e; cases e
theorem get_lt {α : Type} {xs : List α} {i : Nat} (h : i < xs.length) : ∃ x, xs[i]? = some x := ⟨xs[i], List.getElem?_eq_getElem h⟩
theorem itOk_l {K : PySem.W.Frag} {H1 : Hp} {a : Addr} {ds : List D} (st : Lp → Prop) (h : ∀ H L, Kp H1 H → RepH K H L → st L → ∃ vs, SqL K H a vs ∧ RelDs K H ds vs) : ItOk K H1 (Itl K a) ds st where
  stop := fun i H L k r s hi => by
    obtain ⟨vs, q, rd⟩ := h H L k r s
    exact ⟨vs, q, by rw [← rd.length]; exact hi⟩
  go := fun i H L k r s hi => by
    obtain ⟨vs, q, rd⟩ := h H L k r s
    rw [rd.length] at hi
    obtain ⟨x, e⟩ := get_lt hi
    exact ⟨vs, x, q, e⟩
  yld := fun i H L x H' k r s hi y => by
    obtain ⟨rfl, y⟩ := y
    obtain ⟨vs, q, rd⟩ := h H' L k r s
    obtain ⟨d, e, rr⟩ := rd.getv (y vs q)
    exact ⟨d, e, rr, Kp.refl H', r⟩
theorem itOk_t {K : PySem.W.Frag} {H1 : Hp} {a : Addr} {ds : List D} (st : Lp → Prop) (h : ∀ H L, Kp H1 H → RepH K H L → st L → ∃ vs, SqT K H a vs ∧ RelDs K H ds vs) : ItOk K H1 (Itt K a) ds st where
  stop := fun i H L k r s hi => by
    obtain ⟨vs, q, rd⟩ := h H L k r s
    exact ⟨vs, q, by rw [← rd.length]; exact hi⟩
  go := fun i H L k r s hi => by
    obtain ⟨vs, q, rd⟩ := h H L k r s
    rw [rd.length] at hi
    obtain ⟨x, e⟩ := get_lt hi
    exact ⟨vs, x, q, e⟩
  yld := fun i H L x H' k r s hi y => by
    obtain ⟨rfl, y⟩ := y
    obtain ⟨vs, q, rd⟩ := h H' L k r s
    obtain ⟨d, e, rr⟩ := rd.getv (y vs q)
    exact ⟨d, e, rr, Kp.refl H', r⟩
/-- a list or a tuple, whichever comes -/
def iSeq (K : PySem.W.Frag) (tl : TE) : TI := fun σ H R => tl σ H fun x H1 => ∃ a, x = .ref a ∧ (((∃ xs, SqL K H1 a xs) ∧ R (Itl K a) H1) ∨ ((∃ xs, SqT K H1 a xs) ∧ R (Itt K a) H1))
section
variable {X : Cx} {tg : Expr}
theorem pi_seq {l : Expr} {tl : TE} (hl : PE X l tl) : PI X tg l (iSeq X.K tl) := by
  refine ⟨fun pins s σ H R I h => ?_⟩
  refine thn (hl.run pins s σ H _ I h) fun v s1 ⟨x, H1, I1, r1, q1⟩ => ?_
  obtain ⟨a, e, q1⟩ := q1
  subst e
  cases r1
  have fin : ∀ b ∈ [s1.heap.objs.size], FpOk X pins H1 b := fun b hb => by
    have e : b = s1.heap.objs.size := by simpa using hb
    subst e
    exact I1.fpOk (Nat.le_refl _) (I1.hok.fresh (Nat.le_refl _))
  rcases q1 with ⟨⟨xs, hq⟩, q⟩ | ⟨⟨xs, hq⟩, q⟩
  · obtain ⟨its, rv, p, hz⟩ := I1.list hq
    refine wpAny_pyIter_list p.isList ?_
    exact ⟨s1.heap.objs.size, [s1.heap.objs.size], _, _, H1, rfl, I1.kept (t' := s1.toks) fun b o e => Heap.get?_push_of_some _ e, turn_list a _, ⟨_, Heap.get?_push_size _ rfl, rfl, rfl⟩, fin, q⟩
  · obtain ⟨its, rv, p, hz⟩ := I1.tuple hq
    refine wpAny_pyIter_tuple (show s1.heap.IsTuple a its.toArray from p) ?_
    exact ⟨s1.heap.objs.size, [s1.heap.objs.size], _, _, H1, rfl, I1.kept (t' := s1.toks) fun b o e => Heap.get?_push_of_some _ e, turn_tuple a _, ⟨_, Heap.get?_push_size _ rfl, rfl, rfl⟩, fin, q⟩
theorem i_seq {l : Expr} {t : TE'} (hl : QE X l t) : QI X tg l (vSeq t) := PI.str (pi_seq hl) fun σ H R h => by
  obtain ⟨τ, L, R', a, b, c, k⟩ := h
  refine ⟨τ, L, _, a, b, c, fun d L1 v H1 q kp rh rd => ?_⟩
  cases d <;> try exact q.elim
  case tup ds =>
    cases rd with
    | tup s r => exact ⟨_, rfl, .inr ⟨⟨_, .inl (.inl s)⟩, k ds _ L1 _ H1 q kp rh (itOk_t _ fun H L k2 _ _ => ⟨_, .inl (.inl (k2.sqt s)), r.mono k2⟩)⟩⟩
  case ilst ds =>
    cases rd with
    | ilst s r => exact ⟨_, rfl, .inl ⟨⟨_, s.sql⟩, k ds _ L1 _ H1 q kp rh (itOk_l _ fun H L k2 _ _ => ⟨_, (k2.sqi s).sql, r.mono k2⟩)⟩⟩
  case ref p =>
    cases rd
    obtain ⟨ds, e, q⟩ := q
    obtain ⟨vs, e2, r⟩ := rh _ _ e
    exact ⟨_, rfl, .inl ⟨⟨_, .inl (.inl e2)⟩, k ds _ L1 _ H1 q kp rh (itOk_l _ fun H L k2 rh2 e3 => by
      obtain ⟨ws, e4, r4⟩ := rh2 _ _ e3
      exact ⟨ws, .inl (.inl e4), r4⟩)⟩⟩
/-! ranges -/
def rgD (lo : Int) (n : Nat) : List D := (List.range n).map fun i : Nat => .int (lo + (i : Int))
theorem rgD_len (lo : Int) (n : Nat) : (rgD lo n).length = n := by simp [rgD]
theorem rgD_get {lo : Int} {n i : Nat} (h : i < n) : (rgD lo n)[i]? = some (.int (lo + (i : Int))) := by simp [rgD, h]
theorem itOk_r {K : PySem.W.Frag} {H1 : Hp} {lo : Int} {n : Nat} : ItOk K H1 (Itr lo n) (rgD lo n) (fun _ => True) where
  stop := fun i H L k r s hi => by rw [rgD_len] at hi; exact hi
  go := fun i H L k r s hi => by rw [rgD_len] at hi; exact hi
  yld := fun i H L x H' k r s hi y => by
    obtain ⟨rfl, rfl⟩ := y
    rw [rgD_len] at hi
    exact ⟨_, rgD_get hi, .int _, Kp.refl H', r⟩
def vRng1 (t : TE') : TI' := fun τ L R => t τ L fun d L1 => inK d fun j => -(2 ^ 62) ≤ j ∧ j < 2 ^ 62 ∧ R (rgD 0 j.toNat) (fun _ => True) L1
def vRng2 (t u : TE') : TI' := fun τ L R => t τ L fun d L1 => u τ L1 fun e L2 => inK d fun i => inK e fun j => (-(2 ^ 62) ≤ i ∧ i < 2 ^ 62 ∧ -(2 ^ 62) ≤ j ∧ j < 2 ^ 62) ∧ R (rgD i (j - i).toNat) (fun _ => True) L2
theorem i_rng1 {a : Expr} {t : TE'} {p pos : Pos} (ha : QE X a t) (hg : Gl X "range") (hm : X.mg "range" = none) (hs : starEach [a] X.env = [(false, eval a X.env)] := by rfl) : QI X tg (.Call (.Name "range" p) [a] [] pos) (vRng1 t) := PI.str (pi_range1 hg hm (pa_cons ha pa_nil hs) hs) fun σ H R h => by
  obtain ⟨τ, L, R', a, b, c, k⟩ := h
  refine ⟨τ, L, _, a, b, c, fun d L1 v H1 q kp rh rd => ?_⟩
  cases d <;> try exact q.elim
  case int j =>
    cases rd
    exact ⟨j, rfl, q.1, q.2.1, k _ _ L1 _ H1 q.2.2 kp rh itOk_r⟩
theorem i_rng2 {a a2 : Expr} {t u : TE'} {p pos : Pos} (ha : QE X a t) (hb : QE X a2 u) (hg : Gl X "range") (hm : X.mg "range" = none) (hs : starEach [a, a2] X.env = [(false, eval a X.env), (false, eval a2 X.env)] := by rfl) (hs2 : starEach [a2] X.env = [(false, eval a2 X.env)] := by rfl) :
    QI X tg (.Call (.Name "range" p) [a, a2] [] pos) (vRng2 t u) := PI.str (pi_range2 hg hm (pa_cons ha (pa_cons hb pa_nil hs2) (by rw [hs, hs2])) hs hs2) fun σ H R h => by
  obtain ⟨τ, L, R', a, b, c, k⟩ := h
  refine ⟨τ, L, _, a, b, c, fun d L1 v H1 q kp rh rd => ?_⟩
  refine ⟨τ, L1, _, a.mono kp, rh, q, fun e L2 u H2 q2 kp2 rh2 rd2 => ?_⟩
  cases d <;> cases e <;> try exact q2.elim
  case int.int i j =>
    cases rd
    cases rd2
    exact ⟨i, j, rfl, q2.1, k _ _ L2 _ H2 q2.2 (kp.trans kp2) rh2 itOk_r⟩
/-! pairs -/
def enD (n : Nat) : List D → List D
  | [] => []
  | d :: ds => .tup [.int n, d] :: enD (n + 1) ds
theorem enD_len : ∀ (n : Nat) (ds : List D), (enD n ds).length = ds.length
  | _, [] => rfl
  | n, d :: ds => by rw [enD, List.length_cons, List.length_cons, enD_len]
theorem enD_get : ∀ (n : Nat) (ds : List D) (i : Nat) (d : D), ds[i]? = some d → (enD n ds)[i]? = some (.tup [.int ((n + i : Nat) : Int), d])
  | n, [], i, d, h => by simp at h
  | n, e :: ds, 0, d, h => by
    simp at h
    subst h
    rfl
  | n, e :: ds, i + 1, d, h => by
    have z := enD_get (n + 1) ds i d (by simpa using h)
    rw [enD, List.getElem?_cons_succ, z]
    have e : n + 1 + i = n + (i + 1) := by omega
    rw [e]
theorem itOk_e {K : PySem.W.Frag} {H1 : Hp} {a : Addr} {ds : List D} (st : Lp → Prop) (h : ∀ H L, Kp H1 H → RepH K H L → st L → ∃ vs, SqL K H a vs ∧ RelDs K H ds vs) : ItOk K H1 (Ite K a) (enD 0 ds) st where
  stop := fun i H L k r s hi => by
    obtain ⟨vs, q, rd⟩ := h H L k r s
    rw [enD_len] at hi
    exact ⟨vs, q, by rw [← rd.length]; exact hi⟩
  go := fun i H L k r s hi => by
    obtain ⟨vs, q, rd⟩ := h H L k r s
    rw [enD_len, rd.length] at hi
    obtain ⟨x, e⟩ := get_lt hi
    exact ⟨vs, x, q, e⟩
  yld := fun i H L x H' k r s hi y => by
    obtain ⟨T, y, rfl, hT, rfl, g⟩ := y
    obtain ⟨vs, q, rd⟩ := h H L k r s
    obtain ⟨d, e, rr⟩ := rd.getv (g vs q)
    refine ⟨_, enD_get 0 ds i d e, ?_, Kp.new hT, r.hid hT⟩
    rw [Nat.zero_add]
    exact .tup upd_same (.cons (.int _) (.cons (rr.mono (Kp.new hT)) .nil))
def enK (d : D) (L1 : Lp) (R : List D → (Lp → Prop) → Lp → Prop) : Prop := match d with
  | .ref a => ∃ ds, L1 a = some (.lst ds) ∧ R (enD 0 ds) (fun L => L a = some (.lst ds)) L1
  | _ => False
def vEnum (t : TE') : TI' := fun τ L R => t τ L fun d L1 => enK d L1 R
theorem i_enum {e : Expr} {t : TE'} {p pos tpos : Pos} {elts : List Expr} {kk : Nat} (ha : QE X e t) (hg : Gl X "enumerate") (hm : X.mg "enumerate" = none) (hs : starEach [e] X.env = [(false, eval e X.env)] := by rfl) :
    QI X (.Tuple elts kk tpos) (.Call (.Name "enumerate" p) [e] [] pos) (vEnum t) := PI.str (pi_enum hg hm (pa_cons ha pa_nil hs) hs) fun σ H R h => by
  obtain ⟨τ, L, R', a, b, c, k⟩ := h
  refine ⟨τ, L, _, a, b, c, fun d L1 v H1 q kp rh rd => ?_⟩
  cases d <;> try exact q.elim
  case ref p =>
    cases rd
    obtain ⟨ds, e, q⟩ := q
    obtain ⟨vs, e2, r⟩ := rh _ _ e
    exact ⟨_, vs, rfl, .inl (.inl e2), k _ _ L1 _ H1 q kp rh (itOk_e _ fun H L k2 rh2 e3 => by
      obtain ⟨ws, e4, r4⟩ := rh2 _ _ e3
      exact ⟨ws, .inl (.inl e4), r4⟩)⟩
def zpD (ds es : List D) : List D := List.zipWith (fun d e => .tup [d, e]) ds es
theorem zpD_len (ds es : List D) : (zpD ds es).length = min ds.length es.length := by simp [zpD]
theorem zpD_get {ds es : List D} {i : Nat} {d e : D} (h : ds[i]? = some d) (k : es[i]? = some e) : (zpD ds es)[i]? = some (.tup [d, e]) := by simp [zpD, List.getElem?_zipWith, h, k]
theorem itOk_z {K : PySem.W.Frag} {H1 : Hp} {a b : Addr} {ds es : List D} (st : Lp → Prop) (h : ∀ H L, Kp H1 H → RepH K H L → st L → ∃ vs us, SqL K H a vs ∧ SqL K H b us ∧ RelDs K H ds vs ∧ RelDs K H es us) : ItOk K H1 (Itz K a b) (zpD ds es) st where
  stop := fun i H L k r s hi => by
    obtain ⟨vs, us, q1, q2, r1, r2⟩ := h H L k r s
    rw [zpD_len, r1.length, r2.length] at hi
    exact ⟨vs, us, q1, q2, by omega⟩
  go := fun i H L k r s hi => by
    obtain ⟨vs, us, q1, q2, r1, r2⟩ := h H L k r s
    rw [zpD_len, r1.length, r2.length] at hi
    obtain ⟨x, e⟩ := get_lt (show i < vs.length by omega)
    obtain ⟨y, f⟩ := get_lt (show i < us.length by omega)
    exact ⟨vs, us, x, y, q1, q2, e, f⟩
  yld := fun i H L x H' k r s hi y => by
    obtain ⟨T, x, y, rfl, hT, rfl, g1, g2⟩ := y
    obtain ⟨vs, us, q1, q2, r1, r2⟩ := h H L k r s
    obtain ⟨d, e, rr⟩ := r1.getv (g1 vs q1)
    obtain ⟨d2, e2, rr2⟩ := r2.getv (g2 us q2)
    exact ⟨_, zpD_get e e2, .tup upd_same (.cons (rr.mono (Kp.new hT)) (.cons (rr2.mono (Kp.new hT)) .nil)), Kp.new hT, r.hid hT⟩
theorem itOk_zT {K : PySem.W.Frag} {H1 : Hp} {a b : Addr} {ds es : List D} (st : Lp → Prop) (h : ∀ H L, Kp H1 H → RepH K H L → st L → ∃ vs us, SqT K H a vs ∧ SqT K H b us ∧ RelDs K H ds vs ∧ RelDs K H es us) : ItOk K H1 (ItzT K a b) (zpD ds es) st where
  stop := fun i H L k r s hi => by
    obtain ⟨vs, us, q1, q2, r1, r2⟩ := h H L k r s
    rw [zpD_len, r1.length, r2.length] at hi
    exact ⟨vs, us, q1, q2, by omega⟩
  go := fun i H L k r s hi => by
    obtain ⟨vs, us, q1, q2, r1, r2⟩ := h H L k r s
    rw [zpD_len, r1.length, r2.length] at hi
    obtain ⟨x, e⟩ := get_lt (show i < vs.length by omega)
    obtain ⟨y, f⟩ := get_lt (show i < us.length by omega)
    exact ⟨vs, us, x, y, q1, q2, e, f⟩
  yld := fun i H L x H' k r s hi y => by
    obtain ⟨T, x, y, rfl, hT, rfl, g1, g2⟩ := y
    obtain ⟨vs, us, q1, q2, r1, r2⟩ := h H L k r s
    obtain ⟨d, e, rr⟩ := r1.getv (g1 vs q1)
    obtain ⟨d2, e2, rr2⟩ := r2.getv (g2 us q2)
    exact ⟨_, zpD_get e e2, .tup upd_same (.cons (rr.mono (Kp.new hT)) (.cons (rr2.mono (Kp.new hT)) .nil)), Kp.new hT, r.hid hT⟩
/-- what a list or tuple has, and that it stays -/
def stD (d : D) (ds : List D) : Lp → Prop := fun L => seqD d L = some ds
def isLst : D → Bool
  | .tup _ => false
  | _ => true
def vZip (t u : TE') : TI' := fun τ L R => t τ L fun d L1 => u τ L1 fun e L2 => match seqD d L2, seqD e L2 with
  | some ds, some es => isLst d = isLst e ∧ R (zpD ds es) (fun L => stD d ds L ∧ stD e es L) L2
  | _, _ => False
theorem seqD_l {K : PySem.W.Frag} {H : Hp} {L : Lp} {d : D} {v : V} {ds : List D} (rh : RepH K H L) (rd : RelD K H d v) (e : seqD d L = some ds) : ∃ a vs, v = .ref a ∧ RelDs K H ds vs ∧ (isLst d = true → SqL K H a vs) ∧ (isLst d = false → SqT K H a vs) := by
  unfold seqD at e
  split at e
  · cases e
    cases rd with
    | tup s r => exact ⟨_, _, rfl, r, fun z => (nomatch z), fun _ => .inl (.inl s)⟩
  · cases e
    cases rd with
    | ilst s r => exact ⟨_, _, rfl, r, fun _ => s.sql, fun z => (nomatch z)⟩
  · cases rd
    split at e
    · cases e
      rename_i q
      obtain ⟨vs, e2, r⟩ := rh _ _ q
      exact ⟨_, vs, rfl, r, fun _ => .inl (.inl e2), fun z => (nomatch z)⟩
    · cases e
  · cases e
theorem i_zip {e e2 : Expr} {t u : TE'} {p pos tpos : Pos} {elts : List Expr} {kk : Nat} (ha : QE X e t) (hb : QE X e2 u) (hg : Gl X "zip") (hm : X.mg "zip" = none)
    (hs : starEach [e, e2] X.env = (false, eval e X.env) :: starEach [e2] X.env := by rfl) (hs2 : starEach [e2] X.env = (false, eval e2 X.env) :: starEach [] X.env := by rfl) (hpl : (backTo pos (starEach [e2] X.env)).any (·.1) = false := by rfl) :
    QI X (.Tuple elts kk tpos) (.Call (.Name "zip" p) [e, e2] [] pos) (vZip t u) := PI.str (pi_zipA hg hm (pa_cons ha (pa_cons hb pa_nil hs2) hs) hs hpl) fun σ H R h => by
  obtain ⟨τ, L, R', a, b, c, k⟩ := h
  refine ⟨τ, L, _, a, b, c, fun d L1 v H1 q kp rh rd => ?_⟩
  refine ⟨τ, L1, _, a.mono kp, rh, q, fun e L2 u H2 q2 kp2 rh2 rd2 => ?_⟩
  cases e1 : seqD d L2 with
  | none => rw [e1] at q2; exact q2.elim
  | some ds =>
    cases e3 : seqD e L2 with
    | none => rw [e1, e3] at q2; exact q2.elim
    | some es =>
      rw [e1, e3] at q2
      obtain ⟨eq, q2⟩ := q2
      have rd1 := rd.mono kp2
      obtain ⟨a1, vs1, rfl, r1, l1, t1⟩ := seqD_l rh2 rd1 e1
      obtain ⟨a2, vs2, rfl, r2, l2, t2⟩ := seqD_l rh2 rd2 e3
      refine ⟨a1, a2, vs1, vs2, rfl, ?_⟩
      cases hl : isLst d with
      | true =>
        have hl2 : isLst e = true := by rw [← eq, hl]
        refine .inl ⟨l1 hl, l2 hl2, k _ _ L2 _ H2 q2 (kp.trans kp2) rh2 (itOk_z _ fun H L k2 rh3 st => ?_)⟩
        obtain ⟨a3, ws1, f1, s1, m1, _⟩ := seqD_l rh3 (rd1.mono k2) st.1
        obtain ⟨a4, ws2, f2, s2, m2, _⟩ := seqD_l rh3 (rd2.mono k2) st.2
        cases f1; cases f2
        exact ⟨ws1, ws2, m1 hl, m2 hl2, s1, s2⟩
      | false =>
        have hl2 : isLst e = false := by rw [← eq, hl]
        refine .inr ⟨t1 hl, t2 hl2, k _ _ L2 _ H2 q2 (kp.trans kp2) rh2 (itOk_zT _ fun H L k2 rh3 st => ?_)⟩
        obtain ⟨a3, ws1, f1, s1, _, m1⟩ := seqD_l rh3 (rd1.mono k2) st.1
        obtain ⟨a4, ws2, f2, s2, _, m2⟩ := seqD_l rh3 (rd2.mono k2) st.2
        cases f1; cases f2
        exact ⟨ws1, ws2, m1 hl, m2 hl2, s1, s2⟩
end
/-! ### for -/
def wFor (wi : TI') (g : TG') (tb : TS') : TS' := fun E τ L => wi τ L fun xs st L1 => ∃ Pv : Nat → S' → Lp → Prop, Pv 0 τ L1 ∧ (∀ i τ L, i ≤ xs.length → Pv i τ L → st L) ∧
  (∀ i x τ L, xs[i]? = some x → Pv i τ L → g x τ L fun τ2 L2 => tb { E with nx := DnS (Pv (i + 1)), ct := DnS (Pv (i + 1)), bk := E.nx } τ2 L2) ∧ ∀ τ L, Pv xs.length τ L → E.nx τ L
section
variable {X : Cx}
theorem qs_for {tg iter : Expr} {body : List Stmt} {wi : TI'} {g : TG'} {tb : TS'} {pos : Pos} (hp : PassesOwn (model X.prog X.w) X.A X.env X.xe) (hc : X.calm = true) (hi : QI X tg iter wi) (hg : QG X tg g) (hb : QSs X body tb)
    (hs : ∀ x, foldedSetIterable iter X.env x = pure x := by intro _; rfl) : QS X (.For tg iter body [] pos) (wFor wi g tb) := PS.str (ps_for hp hc hi hg hb hs) fun E σ H h => by
  obtain ⟨τ, L, E', a, b, c, k1, k2, k3, k4⟩ := h
  refine ⟨τ, L, _, a, b, c, fun xs st L1 J H1 q kp rh ok => ?_⟩
  obtain ⟨Pv, p0, ps, pt, pd⟩ := q
  refine ⟨fun i m σ H => m = xs.length - i ∧ i ≤ xs.length ∧ ∃ τ L, Kp H1 H ∧ RepS X.K H τ σ ∧ RepH X.K H L ∧ Pv i τ L, ⟨xs.length, by simp, Nat.zero_le _, τ, L1, Kp.refl H1, a.mono kp, rh, p0⟩, ?_⟩
  rintro i m σ2 H2 ⟨rfl, hi2, τ2, L2, kp2, rs2, rh2, p2⟩
  have s2 := ps i τ2 L2 hi2 p2
  by_cases hlt : i < xs.length
  · refine .inr ⟨ok.go i H2 L2 kp2 rh2 s2 hlt, fun σ' H' => ∃ τ L, Kp H1 H' ∧ RepS X.K H' τ σ' ∧ RepH X.K H' L ∧ Pv (i + 1) τ L, fun σ' H' p' => ⟨xs.length - (i + 1), by omega, rfl, hlt, p'⟩, fun x H' y => ?_⟩
    obtain ⟨d, ed, rd, kp3, rh3⟩ := ok.yld i H2 L2 x H' kp2 rh2 s2 hlt y
    refine ⟨d, τ2, L2, _, rd, rs2.mono kp3, rh3, pt i d τ2 L2 ed p2, fun τ4 L4 σ4 H4 q4 kp4 rh4 rs4 => ?_⟩
    have kp5 := (kp2.trans kp3).trans kp4
    have again : ∀ τ5 L5 σ5 H5, DnS (Pv (i + 1)) τ5 L5 → Kp H4 H5 → RepH X.K H5 L5 → RepS X.K H5 τ5 σ5 → ∃ τ L, Kp H1 H5 ∧ RepS X.K H5 τ σ5 ∧ RepH X.K H5 L ∧ Pv (i + 1) τ L := fun τ5 L5 σ5 H5 ⟨τ6, L6, l1, l2, q⟩ kp6 rh6 rs6 => ⟨τ6, L6, kp5.trans kp6, rs6.le l1, rh6.le l2, q⟩
    exact ⟨τ4, L4, _, rs4, rh4, q4, again, fun d L5 v H5 q5 kp6 => k2 d L5 v H5 q5 ((kp.trans kp5).trans kp6), fun τ5 L5 σ5 H5 q5 kp6 => k1 τ5 L5 σ5 H5 q5 ((kp.trans kp5).trans kp6), again⟩
  · have e : i = xs.length := by omega
    subst e
    exact .inl ⟨ok.stop _ H2 L2 kp2 rh2 s2 (Nat.le_refl _), k1 τ2 L2 σ2 H2 (pd τ2 L2 p2) (kp.trans kp2) rh2 rs2⟩
/-! ### while -/
def wWhile (c : TT') (tb : TS') : TS' := fun E τ L => ∃ Pv : Nat → S' → Lp → Prop, (∃ m, Pv m τ L) ∧ ∀ m τ L, Pv m τ L → c τ L fun b L1 => if b = true then tb { E with nx := DnS fun τ' L' => ∃ m', m' < m ∧ Pv m' τ' L', ct := DnS fun τ' L' => ∃ m', m' < m ∧ Pv m' τ' L', bk := E.nx } τ L1 else E.nx τ L1
theorem qs_while {c : Expr} {body : List Stmt} {tc : TT'} {tb : TS'} {pos : Pos} (hp : PassesOwn (model X.prog X.w) X.A X.env X.xe) (hc : QT X c tc) (hb : QSs X body tb) : QS X (.While c body [] pos) (wWhile tc tb) := PS.str (ps_while hp hc hb) fun E σ H h => by
  obtain ⟨τ, L, E', a, b, ⟨Pv, ⟨m0, p0⟩, c⟩, k1, k2, k3, k4⟩ := h
  refine ⟨fun m σ2 H2 => ∃ τ L, Kp H H2 ∧ RepS X.K H2 τ σ2 ∧ RepH X.K H2 L ∧ Pv m τ L, ⟨m0, τ, L, Kp.refl H, a, b, p0⟩, ?_⟩
  rintro m σ2 H2 ⟨τ2, L2, kp2, rs2, rh2, p2⟩
  refine ⟨τ2, L2, _, rs2, rh2, c m τ2 L2 p2, fun bb L3 H3 q3 kp3 rh3 => ?_⟩
  have kp4 := kp2.trans kp3
  cases bb with
  | true =>
    have q3 := q3
    simp only [if_true] at q3
    refine ⟨fun σ' H' => ∃ m', m' < m ∧ ∃ τ L, Kp H H' ∧ RepS X.K H' τ σ' ∧ RepH X.K H' L ∧ Pv m' τ L, fun σ' H' ⟨m', hm, q⟩ => ⟨m', hm, q⟩, ?_⟩
    have again : ∀ τ5 L5 σ5 H5, DnS (fun τ' L' => ∃ m', m' < m ∧ Pv m' τ' L') τ5 L5 → Kp H3 H5 → RepH X.K H5 L5 → RepS X.K H5 τ5 σ5 → ∃ m', m' < m ∧ ∃ τ L, Kp H H5 ∧ RepS X.K H5 τ σ5 ∧ RepH X.K H5 L ∧ Pv m' τ L := fun τ5 L5 σ5 H5 ⟨τ6, L6, l1, l2, m', hm, q⟩ kp6 rh6 rs6 => ⟨m', hm, τ6, L6, kp4.trans kp6, rs6.le l1, rh6.le l2, q⟩
    exact ⟨τ2, L3, _, rs2.mono kp3, rh3, q3, again, fun d L5 v H5 q5 kp6 => k2 d L5 v H5 q5 (kp4.trans kp6), fun τ5 L5 σ5 H5 q5 kp6 => k1 τ5 L5 σ5 H5 q5 (kp4.trans kp6), again⟩
  | false =>
    have q3 := q3
    simp only [Bool.false_eq_true, if_false] at q3
    exact k1 τ2 L3 σ2 H3 q3 kp4 rh3 (rs2.mono kp3)
end
end Z

/-! comprehensions, calls, defs by data -/
namespace Z
open PySem PySem.Spec PyProof.Rows L2 RZ
/-! ### comprehensions -/
/-- a target that stores in the slots vs alone -/
def lGv (K : PySem.W.Frag) (vs : List Nat) (g : TG') : TG := fun v σ H Q => ∃ d τ L Q', RelD K H d v ∧ RepS K H τ σ ∧ RepH K H L ∧ g d τ L Q' ∧ ∀ τ1 L1 σ1 H1, Q' τ1 L1 → Kp H H1 → RepH K H1 L1 → RepS K H1 τ1 σ1 → wipe σ1 vs = wipe σ vs → Q σ1 H1
def lGvs (K : PySem.W.Frag) (vs : List Nat) (g : TGs') : TGs := fun ws σ H Q => ∃ ds τ L Q', RelDs K H ds ws ∧ RepS K H τ σ ∧ RepH K H L ∧ g ds τ L Q' ∧ ∀ τ1 L1 σ1 H1, Q' τ1 L1 → Kp H H1 → RepH K H1 L1 → RepS K H1 τ1 σ1 → wipe σ1 vs = wipe σ vs → Q σ1 H1
def QGv (X : Cx) (vs : List Nat) (tg : Expr) (g : TG') : Prop := PG X tg (lGv X.K vs g)
def QGvs (X : Cx) (vs : List Nat) (tg : List Expr) (g : TGs') : Prop := PGs X tg (lGvs X.K vs g)
theorem wipe_set {v : Option V} : ∀ {vs : List Nat} {σ : L2.St} {i : Nat}, i ∈ vs → wipe (σ.set i v) vs = wipe σ vs
  | [], _, _, h => by simp at h
  | j :: vs, σ, i, h => by
    show (wipe (σ.set i v) vs).set j none = (wipe σ vs).set j none
    by_cases hi : i ∈ vs
    · rw [wipe_set hi]
    · have e : i = j := by
        rcases List.mem_cons.mp h with e | e
        · exact e
        · exact absurd e hi
      subst e
      have z : ∀ (us : List Nat), i ∉ us → ∀ σ : L2.St, wipe (σ.set i v) us = (wipe σ us).set i v := fun us => by
        induction us with
        | nil => intro _ σ; rfl
        | cons k us ih =>
          intro hn σ
          have hk : k ≠ i := fun z => hn (by rw [z]; exact List.mem_cons_self)
          show (wipe (σ.set i v) us).set k none = ((wipe σ us).set k none).set i v
          rw [ih (fun z => hn (List.mem_cons_of_mem _ z)) σ, List.set_comm _ _ (Ne.symm hk)]
      rw [z vs hi σ, List.set_set]
theorem wipe_sub (us : List Nat) : ∀ ws : List Nat, (∀ j ∈ ws, j ∈ us) → ∀ ρ : L2.St, wipe (wipe ρ ws) us = wipe ρ us
  | [], _, _ => rfl
  | j :: ws, hj, ρ => by
    show wipe ((wipe ρ ws).set j none) us = _
    rw [wipe_set (hj j List.mem_cons_self)]
    exact wipe_sub us ws (fun z hz => hj z (List.mem_cons_of_mem _ hz)) ρ
theorem wipe_idem (us : List Nat) (ρ : L2.St) : wipe (wipe ρ us) us = wipe ρ us := wipe_sub us us (fun _ h => h) ρ
section
variable {X : Cx} {vs : List Nat}
theorem gv_name {i : Nat} {x : Str} {pos} (hN : X.N.Nodup) (hi : X.N[i]? = some x) (hx : Loc X.env.scope x) (hv : i ∈ vs) (hf : X.fn x = true ∨ X.env.scope.names.lookup x = some .local := by first | exact .inl rfl | exact .inr rfl | assumption) : QGv X vs (.Name x pos) (hName i) :=
  PG.str (pg_name hN hi hx hf) fun v σ H Q h => by
    obtain ⟨d, τ, L, Q', rd, a, b, c, k⟩ := h
    exact k _ L _ H c (Kp.refl H) b (a.set rd i) (wipe_set hv)
theorem gv_nil : QGvs X vs [] hNil := PGs.str pgs_nil fun v σ H Q h => by
  obtain ⟨ds, τ, L, Q', rd, a, b, c, k⟩ := h
  cases ds with
  | nil => cases rd; exact ⟨rfl, k τ L σ H c (Kp.refl H) b a rfl⟩
  | cons d es => exact c.elim
theorem gv_cons {e : Expr} {es : List Expr} {t : TG'} {u : TGs'} (h1 : QGv X vs e t) (h2 : QGvs X vs es u) (hs : (assignEach (e :: es) X.env).map (·.2) = assign e X.env :: (assignEach es X.env).map (·.2) := by rfl) : QGvs X vs (e :: es) (hCons t u) := PGs.str (pgs_cons h1 h2 hs) fun v σ H Q h => by
  obtain ⟨ds, τ, L, Q', rd, a, b, c, k⟩ := h
  cases ds with
  | nil => exact c.elim
  | cons d es =>
    cases rd with
    | cons r1 r2 =>
      refine ⟨_, _, rfl, d, τ, L, _, r1, a, b, c, fun τ1 L1 σ1 H1 q kp rh rs w1 => ?_⟩
      exact ⟨es, τ1, L1, _, r2.mono kp, rs, rh, q, fun τ2 L2 σ2 H2 q2 kp2 rh2 rs2 w2 => k τ2 L2 σ2 H2 q2 (kp.trans kp2) rh2 rs2 (w2.trans w1)⟩
theorem gv_tup {es : List Expr} {k : Nat} {pos} {t : TGs'} {n : Nat} (hc : X.calm = true) (h : QGvs X vs es t) (hn : (assignEach es X.env).length = n := by rfl) (hst : (assignEach es X.env).findIdx? (·.1) = none := by rfl) : QGv X vs (.Tuple es k pos) (hTup n t) :=
  PG.str (pg_tup hc h hn hst) fun v σ H Q h => by
    obtain ⟨d, τ, L, Q', rd, a, b, c, k⟩ := h
    cases d with
    | tup ds =>
      cases rd with
      | tup hs rs => exact ⟨_, _, rfl, .inl (.inl hs), by rw [← rs.length]; exact c.1, ds, τ, L, Q', rs, a, b, c.2, k⟩
    | _ => exact c.elim
end
def wipeD (τ : S') : List Nat → S'
  | [] => τ
  | v :: vs => (wipeD τ vs).set v none
theorem RepS.none {K : PySem.W.Frag} {H : Hp} {τ : S'} {σ : L2.St} (h : RepS K H τ σ) (i : Nat) : RepS K H (τ.set i none) (σ.set i none) := by
  refine ⟨by rw [List.length_set, List.length_set]; exact h.1, fun j e q => ?_⟩
  by_cases z : i = j
  · subst z
    rw [List.getElem?_set] at q
    split at q
    · split at q <;> cases q
    · rename_i n; exact absurd rfl n
  · rw [List.getElem?_set_ne z] at q ⊢
    exact h.2 j e q
theorem RepS.wipe {K : PySem.W.Frag} {H : Hp} {τ : S'} {σ : L2.St} (h : RepS K H τ σ) : ∀ vs : List Nat, RepS K H (wipeD τ vs) (L2.wipe σ vs)
  | [] => h
  | _ :: vs => (RepS.wipe h vs).none _
def wYes : TT' := fun _ L Q => Q true L
def QTs (X : Cx) (ifs : List Expr) (t : TT') : Prop := PTs X ifs (lT X.K t)
theorem PTs.str {X : Cx} {e : List Expr} {t u : TT} (h : PTs X e t) (k : ∀ σ H Q, u σ H Q → t σ H Q) : PTs X e u := ⟨fun pins s σ H Q I q => h.run pins s σ H Q I (k σ H Q q)⟩
theorem ts_nil {X : Cx} : QTs X [] wYes := PTs.str pts_nil fun σ H Q h => by
  obtain ⟨τ, L, Q', a, b, c, k⟩ := h
  exact k _ L H c (Kp.refl H) b
theorem ts_one {X : Cx} {c : Expr} {t : TT'} (h : QT X c t) : QTs X [c] t := pts_one h
/-- [elt for g in wi if tt]: the list at p -/
def wLc (wi : TI') (g : TG') (tt : TT') (te : TE') (vs : List Nat) : TE' := fun τ L Q => wi τ L fun xs st L1 => ∀ p, L1 p = none → ∃ Pv : Nat → Lp → Prop, Pv 0 (up L1 p (.lst [])) ∧ (∀ i L, i ≤ xs.length → Pv i L → st L) ∧
  (∀ i x L, xs[i]? = some x → Pv i L → g x (wipeD τ vs) L fun τ2 L2 => tt τ2 L2 fun b L3 => if b = true then te τ2 L3 fun y L4 => ∃ acc, L4 p = some (.lst acc) ∧ acc.length < sizeLine ∧ Dn (Pv (i + 1)) (up L4 p (.lst (acc ++ [y]))) else Dn (Pv (i + 1)) L3) ∧ ∀ L, Pv xs.length L → Q (.ref p) L
section
variable {X : Cx}
theorem tLc_l {K : PySem.W.Frag} {wi : TI'} {g : TG'} {tt : TT'} {te : TE'} {vs : List Nat} (σ : L2.St) (H : Hp) (Q : VK) (h : lE K (wLc wi g tt te vs) σ H Q) : tLc (lI K wi) (lGv K vs g) (lT K tt) (lE K te) vs σ H Q := by
  obtain ⟨τ, L, Q', a, b, c, k⟩ := h
  refine ⟨τ, L, _, a, b, c, fun xs st L1 J H1 q kp rh ok => ?_⟩
  intro p np
  obtain ⟨Pv, p0, ps, pt, pd⟩ := q p (rh.no np)
  have kn : Kp H1 (upd H1 p (.lst [])) := Kp.new np
  refine ⟨fun i m H => m = xs.length - i ∧ i ≤ xs.length ∧ ∃ L, Kp H1 H ∧ RepH K H L ∧ Pv i L, ⟨xs.length, by simp, Nat.zero_le _, Z.up L1 p (.lst []), kn, rh.new np (o' := .lst []) ⟨[], upd_same, .nil⟩, p0⟩, ?_⟩
  rintro i m H2 ⟨rfl, hi2, L2, kp2, rh2, p2⟩
  have s2 := ps i L2 hi2 p2
  by_cases hlt : i < xs.length
  · refine .inr ⟨ok.go i H2 L2 kp2 rh2 s2 hlt, fun H' => ∃ L, Kp H1 H' ∧ RepH K H' L ∧ Pv (i + 1) L, fun H' p' => ⟨xs.length - (i + 1), by omega, rfl, hlt, p'⟩, fun x H' y => ?_⟩
    obtain ⟨d, ed, rd, kp3, rh3⟩ := ok.yld i H2 L2 x H' kp2 rh2 s2 hlt y
    have rs3 : RepS K H' (wipeD τ vs) (wipe σ vs) := (a.wipe vs).mono (kp.trans (kp2.trans kp3))
    refine ⟨d, wipeD τ vs, L2, _, rd, rs3, rh3, pt i d L2 ed p2, fun τ4 L4 σ4 H4 q4 kp4 rh4 rs4 w4 => ⟨?_, ?_⟩⟩
    · rw [w4]
      exact wipe_idem vs σ
    · refine ⟨τ4, L4, _, rs4, rh4, q4, fun bb L5 H5 q5 kp5 rh5 => ?_⟩
      have kp6 := ((kp2.trans kp3).trans kp4).trans kp5
      cases bb with
      | true =>
        simp only [if_true] at q5 ⊢
        refine ⟨τ4, L5, _, rs4.mono kp5, rh5, q5, fun y L6 v H6 q6 kp7 rh6 ry => ?_⟩
        obtain ⟨acc, ea, za, L7, l7, q7⟩ := q6
        obtain ⟨ws, e2, r⟩ := rh6 _ _ ea
        obtain ⟨kp8, rh8⟩ := put_lst rh6 e2 (r.app (.cons ry .nil))
        exact ⟨ws, e2, by rw [← r.length]; exact za, L7, (kp6.trans kp7).trans kp8, rh8.le l7, q7⟩
      | false =>
        simp only [Bool.false_eq_true, if_false] at q5 ⊢
        obtain ⟨L7, l7, q7⟩ := q5
        exact ⟨L7, kp6, rh5.le l7, q7⟩
  · have e : i = xs.length := by omega
    subst e
    exact .inl ⟨ok.stop _ H2 L2 kp2 rh2 s2 (Nat.le_refl _), k _ L2 _ H2 (pd L2 p2) (kp.trans kp2) rh2 (.ref p)⟩
theorem q_lc {elt tg iter : Expr} {ifs : List Expr} {scope : Scope} (own : List (Str × Nat)) {pos : Pos} {wi : TI'} {g : TG'} {tt : TT'} {te : TE'} (hc : X.calm = true) (hN : X.N.Nodup) (hi : QI X tg iter wi) (ok : BlkOk X.N X.env.scope scope own)
    (hg : ∀ (s : Shared) (H : Hp) (C : Addr) (cl : List (Str × Addr)) (fp : List Addr), QGv (X.blk s H scope (compEnvC scope cl C X.env) fp) (own.map (·.2)) tg g) (ht : ∀ (s : Shared) (H : Hp) (C : Addr) (cl : List (Str × Addr)) (fp : List Addr), QTs (X.blk s H scope (compEnvC scope cl C X.env) fp) ifs tt)
    (he : ∀ (s : Shared) (H : Hp) (C : Addr) (cl : List (Str × Addr)) (fp : List Addr), QE (X.blk s H scope (compEnvC scope cl C X.env) fp) elt te) (hs : ∀ x, foldedSetIterable iter X.env x = pure x := by intro _; rfl) :
    QE X (.ListComp elt [⟨tg, iter, ifs, 0⟩] scope pos) (wLc wi g tt te (own.map (·.2))) := PE.str (pe_lc (g := lGv X.K (own.map fun x : Str × Nat => x.2) g) (tt := lT X.K tt) (te := lE X.K te) hc hN hi ok hg ht he hs) tLc_l
theorem qs_setLc {i : Nat} {y : Str} {py : Pos} {elt tg iter : Expr} {ifs : List Expr} {scope : Scope} (own : List (Str × Nat)) {pos spos : Pos} {wi : TI'} {g : TG'} {tt : TT'} {te : TE'} (hc : X.calm = true) (hN : X.N.Nodup) (hy : X.N[i]? = some y) (hyl : X.env.scope.names.lookup y = some .local)
    (hsw : swapsWith (.ListComp elt [⟨tg, iter, ifs, 0⟩] scope pos) (some (.Name y py)) spos.line X.env = pure true) (hi : QI X tg iter wi) (ok : BlkOk X.N X.env.scope scope own)
    (hg : ∀ (s : Shared) (H : Hp) (C : Addr) (cl : List (Str × Addr)) (fp : List Addr), QGv (X.blk s H scope (compEnvC scope cl C X.env) fp) (own.map (·.2)) tg g) (ht : ∀ (s : Shared) (H : Hp) (C : Addr) (cl : List (Str × Addr)) (fp : List Addr), QTs (X.blk s H scope (compEnvC scope cl C X.env) fp) ifs tt)
    (he : ∀ (s : Shared) (H : Hp) (C : Addr) (cl : List (Str × Addr)) (fp : List Addr), QE (X.blk s H scope (compEnvC scope cl C X.env) fp) elt te) (hs : ∀ x, foldedSetIterable iter X.env x = pure x := by intro _; rfl) :
    QS X (.Assign [.Name y py] (.ListComp elt [⟨tg, iter, ifs, 0⟩] scope pos) spos) (wAsg (wLc wi g tt te (own.map (·.2))) (hName i)) := PS.str (ps_setLc (g := lGv X.K (own.map fun x : Str × Nat => x.2) g) (tt := lT X.K tt) (te := lE X.K te) hc hN hy hyl hsw hi ok hg ht he hs) fun E σ H h => by
  obtain ⟨τ, L, E', a, b, c, k1, k2, k3, k4⟩ := h
  refine tLc_l (wi := wi) (g := g) (tt := tt) (te := te) σ H (fun x H1 => gName i x σ H1 E.nx) ?_
  exact ⟨τ, L, _, a, b, c, fun d L1 v H1 q kp rh rd => k1 _ L1 _ H1 q kp rh ((a.mono kp).set rd i)⟩
end
/-! ### defs -/
/-- what is wanted of an exception: its class, its fields -/
abbrev XK' := Addr → List (Str × D) → Lp → Prop
def X0 : XK' := fun _ _ _ => False
abbrev Sp' := List D → Lp → VK' → XK' → Prop
def ExcAt (K : PySem.W.Frag) (H : Hp) (L : Lp) (od : Option Addr) (fs : List (Str × D)) : Prop := (od = none ∧ fs = []) ∨ ∃ d gs, od = some d ∧ L d = none ∧ H d = some (.xd gs) ∧ RelK K H fs gs ∧ fs ≠ []
def lSp (K : PySem.W.Frag) (sp : Sp') : Sp := fun vs H Q E => ∃ ds L Q' E', RelDs K H ds vs ∧ RepH K H L ∧ sp ds L Q' E' ∧ (∀ d L1 v H1, Q' d L1 → Kp H H1 → RepH K H1 L1 → RelD K H1 d v → Q v H1) ∧
  ∀ C fs L1 od H1, E' C fs L1 → Kp H H1 → RepH K H1 L1 → ExcAt K H1 L1 od fs → E (.ref C) od H1
def start' (N : List Str) (ds : List D) : S' := ds.map some ++ List.replicate (N.length - ds.length) none
theorem start_rep {K : PySem.W.Frag} {H : Hp} {ds : List D} {vs : List V} (r : RelDs K H ds vs) (N : List Str) : RepS K H (start' N ds) (L2.start N vs) := by
  refine ⟨by simp [start', L2.start, r.length], fun i d e => ?_⟩
  unfold start' at e
  unfold L2.start
  by_cases hi : i < ds.length
  · rw [List.getElem?_append_left (by simpa using hi)] at e
    rw [List.getElem?_append_left (by simpa [← r.length] using hi)]
    rw [List.getElem?_map] at e ⊢
    cases q : ds[i]? with
    | none => rw [q] at e; cases e
    | some d' =>
      rw [q] at e
      cases e
      obtain ⟨v, e2, rr⟩ := r.get q
      exact ⟨v, by rw [e2]; rfl, rr⟩
  · rw [List.getElem?_append_right (by simp; omega)] at e
    rw [List.getElem?_replicate] at e
    split at e <;> cases e
section
variable {P : Program} {w : World} {K : PySem.W.Frag} {mg : Str → Option Value} {base : Heap} {x qual : Str} {params : Arguments} {body : List Stmt} {scope : Scope} {dvs : List V} {kws : List (Str × V)} {f : Addr} {fd : FuncData}
/-- a def that lets nothing out -/
theorem okD {N ps : List Str} {k : Nat} {sp : Sp'} {t : TS'} (F : FunD K x qual params body scope dvs kws f fd) (S : FnScope N ps scope) (len : ∀ ds L Q E, sp ds L Q E → ds.length = ps.length)
    (hb : ∀ (cdv : Value) (A : Around) (outer : List Env) (s : Shared) (H : Hp) (E : XK), Room k (A.deeper (envOfC qual scope s.heap.objs.size f cdv)) → QSs (cxOf CX0 P w K mg base N qual scope f cdv A outer s H E) body t)
    (hs : ∀ ds L Q E, sp ds L Q E → t { nx := fun _ L1 => Dn (Q .non) L1, rt := fun d L1 => Dn (Q d) L1 } (start' N ds) L) : FnOk P w K mg base CX0 (k + 1) f fd ps (lSp K sp) := by
  refine F.ok S (fun vs H Q E h => ?_) (fun cdv A outer s H vs Q E hr h => ⟨_, hb cdv A outer s H E hr, ?_⟩)
  · obtain ⟨ds, L, Q', E', r, _, q, _⟩ := h
    rw [← r.length]
    exact len _ _ _ _ q
  · obtain ⟨ds, L, Q', E', r, rh, q, k1, k2⟩ := h
    refine ⟨start' N ds, L, _, start_rep r N, rh, hs _ _ _ _ q, ?_, ?_, fun _ _ _ _ z => z.elim, fun _ _ _ _ z => z.elim⟩
    · rintro τ1 L1 σ1 H1 ⟨L2, l, q2⟩ kp rh1 _
      exact k1 _ L2 _ H1 q2 kp (rh1.le l) .non
    · rintro d L1 v H1 ⟨L2, l, q2⟩ kp rh1 rd
      exact k1 _ L2 _ H1 q2 kp (rh1.le l) rd
end
/-- f(e, ..) -/
def wCall (sp : Sp') (es : List D) (E : XK') (t : TA') : TE' := fun τ L Q => t τ L fun ds L1 => sp (ds ++ es) L1 Q E
section
variable {X : Cx} {k : Nat} {f : Addr} {fd : FuncData} {ps : List Str} {sp : Sp'} {x : Str} {p pos : Pos} {e : Expr} {es : List Expr} {t : TA'}
theorem tCall_l {K : PySem.W.Frag} {n : Nat} {E : XK} {E' : XK'} {des : List D} {dvs : List V} (hd : ∀ H, RelDs K H des dvs) (hE : ∀ C fs L1 od H1, E' C fs L1 → RepH K H1 L1 → ExcAt K H1 L1 od fs → E (.ref C) od H1) (σ : L2.St) (H : Hp) (Q : VK) (h : lE K (wCall sp des E' t) σ H Q) : tCall (lSp K sp) dvs E (lA K n t) σ H Q := by
  obtain ⟨τ, L, Q', a, b, c, k⟩ := h
  refine ⟨τ, L, _, a, b, c, fun ds L1 vs H1 q hl kp rh rd => ?_⟩
  exact ⟨ds ++ des, L1, Q', E', rd.app (hd H1), rh, q, fun d L2 v H2 q2 kp2 => k d L2 v H2 q2 (kp.trans kp2), fun C fs L2 od H2 q2 kp2 rh2 ex => hE C fs L2 od H2 q2 rh2 ex⟩
theorem q_call (F : FnOk X.prog X.w X.K X.mg X.base CX0 k f fd ps (lSp X.K sp)) (hr : Room k X.A) (hg : Gl X x) (hm : X.mg x = some (.ref f)) (hk : PySem.W.keepIn X.K (.ref f) = true) (hb : Binds X.K fd ps []) (ha : QA X (e :: es) t)
    (hdb : (x == ("__debug__" : Str)) = false := by decide) (he : starEach (e :: es) X.env = (false, eval e X.env) :: starEach es X.env := by rfl) (hpl : (backTo pos (starEach es X.env)).any (·.1) = false := by rfl) :
    QE X (.Call (.Name x p) (e :: es) [] pos) (wCall sp [] X0 t) := PE.str (pe_call F hr hg hm hk hb .nil pass0 ha hdb he hpl) (tCall_l (fun _ => .nil) fun _ _ _ _ _ z => z.elim)
theorem q_call0 (F : FnOk X.prog X.w X.K X.mg X.base CX0 k f fd ps (lSp X.K sp)) (hr : Room k X.A) (hg : Gl X x) (hm : X.mg x = some (.ref f)) (hk : PySem.W.keepIn X.K (.ref f) = true) (hb : Binds X.K fd ps [])
    (hdb : (x == ("__debug__" : Str)) = false := by decide) : QE X (.Call (.Name x p) [] [] pos) (wCall sp [] X0 wNil) := PE.str (pe_call0 F hr hg hm hk hb .nil pass0 hdb) fun σ H Q h => by
  obtain ⟨τ, L, Q', a, b, c, k⟩ := h
  exact ⟨[], L, Q', X0, .nil, b, c, k, fun _ _ _ _ _ z => z.elim⟩
end
end Z

/-! the rest of the rules by data -/
namespace Z
open PySem PySem.Spec PyProof.Rows L2 RZ
theorem hu64 {k : Nat} {A : Around} (h : Room k A) : A.units + 64 < cLine := by have := h.un; omega
theorem l_lt {K : PySem.W.Frag} : LR2 K ltD (rI0 fun i j => .bl (decide (i < j))) := l_int0 fun _ _ _ => .bl _
theorem l_le {K : PySem.W.Frag} : LR2 K leD (rI0 fun i j => .bl (decide (i ≤ j))) := l_int0 fun _ _ _ => .bl _
theorem l_gt {K : PySem.W.Frag} : LR2 K gtD (rI0 fun i j => .bl (decide (i > j))) := l_int0 fun _ _ _ => .bl _
theorem l_ge {K : PySem.W.Frag} : LR2 K geD (rI0 fun i j => .bl (decide (i ≥ j))) := l_int0 fun _ _ _ => .bl _
theorem l_mul {K : PySem.W.Frag} : LR2 K mulD rMulG := fun d e L v u H Q Q' rd re rh q k => by
  unfold mulD at q
  cases d <;> cases e <;> try exact q.elim
  case int.int i j => cases rd; cases re; exact .inl ⟨i, j, rfl, rfl, q.1, k _ L _ H q.2 (Kp.refl H) rh (.int _)⟩
  case ref.int a n =>
    cases rd; cases re
    obtain ⟨xs, e1, z1, z2, z3, q⟩ := q
    obtain ⟨vs, h1, r1⟩ := rh _ _ e1
    refine .inr ⟨_, n, vs, rfl, rfl, h1, z1, z2, by rw [← r1.length]; exact z3, fun p np => ?_⟩
    exact k _ _ _ _ (q p (rh.no np)) (Kp.new np) (rh.new np ⟨_, upd_same, (r1.rep _).mono (Kp.new np)⟩) (.ref p)
theorem l_insert {K : PySem.W.Frag} : LRM K "list" insertD (fun x vs H Q => ∃ (l : Addr) (xs : List V) (i : Int) (y : V), x = .ref l ∧ vs = [.int i, y] ∧ H l = some (.lst xs) ∧ xs.length < sizeLine ∧ 0 ≤ i ∧ i < 2 ^ 63 ∧
    Q .non (upd H l (.lst (xs.take i.toNat ++ [y] ++ xs.drop i.toNat)))) := fun d ds L v vs H Q Q' rd rds rh q k => by
  unfold insertD at q
  split at q
  · rename_i a i e
    obtain ⟨xs, e1, z, z0, z1, q⟩ := q
    obtain ⟨ws, e2, r⟩ := rh _ _ e1
    cases rd
    cases rds with
    | cons r1 r2 =>
      cases r1
      cases r2 with
      | cons r2 r3 =>
        cases r3
        have en : min i.toNat xs.length = min i.toNat ws.length := by rw [r.length]
        have t1 : ws.take i.toNat = ws.take (min i.toNat ws.length) := by
          by_cases c : i.toNat ≤ ws.length
          · rw [Nat.min_eq_left c]
          · rw [Nat.min_eq_right (by omega), List.take_of_length_le (by omega), List.take_of_length_le (Nat.le_refl _)]
        have t2 : ws.drop i.toNat = ws.drop (min i.toNat ws.length) := by
          by_cases c : i.toNat ≤ ws.length
          · rw [Nat.min_eq_left c]
          · rw [Nat.min_eq_right (by omega), List.drop_of_length_le (by omega), List.drop_of_length_le (Nat.le_refl _)]
        obtain ⟨kp, rh2⟩ := put_lst (ws := ws.take i.toNat ++ [_] ++ ws.drop i.toNat) rh e2 (by
          rw [t1, t2, ← en, List.append_assoc]
          exact (r.take _).app (.cons r2 (r.drop _)))
        exact ⟨a, ws, i, _, rfl, rfl, e2, by rw [← r.length]; exact z, z0, z1, k _ _ _ _ q kp rh2 .non⟩
  · exact q.elim
/-- isinstance(x, T) -/
abbrev isiW (T : String) : RA' := fun ds L Q => match ds with
  | [d, .ty T'] => T' = T ∧ isiD T [d, .ty T'] L Q
  | _ => False
/-- isinstance(x, (S, T)) -/
def rIsiA (K : PySem.W.Frag) : List V → Hp → VK → Prop := fun xs H Q => ∃ (x : V) (tp : Addr) (cs : List V) (t : Value) (us : List Value) (b : Bool), xs = [x, .ref tp] ∧ SqT K H tp cs ∧ Paired ClsV cs us ∧ TyX K H x t ∧ PySem.W.kitAny K t us = some b ∧ Q (.bl b) H
theorem call_isiA {X : Cx} : CallR X (.builtin "isinstance") (rIsiA X.K) := by
  intro pins s σ H xs us Q I r h
  obtain ⟨x, tp, cs, t, ws, b, rfl, hT, k, ty, e, q⟩ := h
  obtain ⟨u1, u2, rfl, r1, r2⟩ := vals2 r
  cases (show u2 = Value.ref tp from r2)
  obtain ⟨P, Z, p, hx⟩ := kit_of I r1 ty
  obtain ⟨its, rv, ht, _⟩ := I.tuple hT
  obtain ⟨o, h1, h2, n, h3⟩ := ht
  have e3 := ClsV.all k rv
  subst e3
  obtain ⟨oc, od, dt, sl⟩ := o
  simp only at h2 h3
  subst h2 h3
  exact PySem.W.kia_tup Z I.kIn p h1 e hx fun tk => ⟨.bl b, H, I.tok tk, rfl, q⟩
def isiV (n T : String) : Bool := n == T || (n == "bool" && T == "int")
def isi2D : RA' := fun ds L Q => match ds with
  | [d, .tup [.ty S, .ty T]] => tyK (tyD d L) fun n => S ∈ ["bool", "int", "str", "tuple", "list", "dict"] ∧ T ∈ ["bool", "int", "str", "tuple", "list", "dict"] ∧ Q (.bl (isiV n S || isiV n T)) L
  | _ => False
theorem l_isi2 {K : PySem.W.Frag} : LRA K isi2D (rIsiA K) := fun ds L vs H Q Q' rd rh q k => by
  unfold isi2D at q
  split at q
  · rename_i d S T
    cases et : tyD d L with
    | none => rw [et] at q; exact q.elim
    | some n =>
      rw [et] at q
      obtain ⟨hS, hT, q⟩ := q
      cases rd with
      | cons r1 r2 =>
        cases r2 with
        | cons r2 r3 =>
          cases r3
          cases r2 with
          | tup s r =>
            cases r with
            | cons c1 r =>
              cases r with
              | cons c2 r =>
                cases r; cases c1; cases c2
                refine ⟨_, _, _, _, _, _, rfl, .inl (.inl s), .cons (.ty _) (.cons (.ty _) .nil), tyD_rel rh r1 et, ?_, k _ L _ H q (Kp.refl H) rh (.bl _)⟩
                have e1 := kit_ty (K := K) (isi_tab n S (tyD_mem et) hS)
                have e2 := kit_ty (K := K) (isi_tab n T (tyD_mem et) hT)
                refine kitAny_cons e1 (fun h => ?_) (fun h => by show (isiV n S || isiV n T) = true; rw [show isiV n S = true from h]; rfl)
                refine kitAny_cons e2 (fun h2 => ?_) (fun h2 => by show (isiV n S || isiV n T) = true; rw [show isiV n T = true from h2, Bool.or_true])
                rw [kitAny_nil, show isiV n S = false from h, show isiV n T = false from h2]
                rfl
  · exact q.elim
/-- gcd -/
def gcdD : RA' := fun ds L Q => match ds with
  | [.int a, .int b] => Q (.int ((Nat.gcd a.natAbs b.natAbs : Nat) : Int)) L
  | _ => False
theorem q_gcd {X : Cx} {e : Expr} {es : List Expr} {p pos : Pos} {t : TA'} (hm : X.mg "gcd" = some (.builtin "math.gcd")) (ha : QA X (e :: es) t) (hg : Gl X "gcd" := by rfl)
    (he : starEach (e :: es) X.env = (false, eval e X.env) :: starEach es X.env := by rfl) (hpl : (backTo pos (starEach es X.env)).any (·.1) = false := by rfl) : QE X (.Call (.Name "gcd" p) (e :: es) [] pos) (wCB gcdD t) :=
  PE.str (pe_callBfun cr_gcd hg hm ha (by decide) he hpl) (tCB_l fun ds L vs H Q Q' rd rh q k => by
    unfold gcdD at q
    split at q
    · cases rd with
      | cons r1 r2 =>
        cases r1
        cases r2 with
        | cons r2 r3 => cases r2; cases r3; exact ⟨_, _, rfl, k _ L _ H q (Kp.refl H) rh (.int _)⟩
    · exact q.elim)
/-- a constant of the module's -/
theorem q_gint {X : Cx} {x : Str} {i : Int} {pos : Pos} (hm : ∃ t, X.mg x = some (.int i t)) (hg : Gl X x := by rfl) (hd : (x == ("__debug__" : Str)) = false := by decide) : QE X (.Name x pos) (wC (.int i)) := by
  obtain ⟨t, h⟩ := hm
  exact qcon (.int i) (pe_glob (v := .int i) hg h ⟨t, rfl⟩ hd) fun _ => .int i
/-- where a def stands: its function object -/
def fdAt (K : PySem.W.Frag) (p : Str × Option Str) : FuncData := match K.lookup (He.fAd K p) with
  | some ⟨_, _, .func fd, _⟩ => fd
  | _ => ⟨"", "", ⟨[], [], none, [], [], none, []⟩, .stmts [], ⟨.function, [], false, false, []⟩, 0, [], .none, .none, .none, .none, none, .none, .none, 0⟩
theorem fun_at {K : PySem.W.Frag} {d : He.DefD} (h : ∃ fd, FunD K d.name d.qual d.params d.body d.scope (d.dvs K) (d.kws K) (He.fAd K d.at_) fd) : FunD K d.name d.qual d.params d.body d.scope (d.dvs K) (d.kws K) (He.fAd K d.at_) (fdAt K d.at_) := by
  obtain ⟨fd, h⟩ := h
  obtain ⟨oc, od, dV, kV, doc, pm, an, cdv, ct, osl, e, lk, r⟩ := id h.ex
  have z : fdAt K d.at_ = fd := by unfold fdAt; rw [lk]
  rw [z]
  exact h
/-- the head's facts, one Bool more -/
abbrev AlE : Type := He.AlD × Bool
def obsEG (n : Nat) (fa : List He.Fa) (fn : List He.DefD) (ex : PySem.W.Frag → Bool) (g : Addr → Option Obj) : AlE := (He.obsD fa fn (He.frG g (He.asD g n)), ex (He.frG g (He.asD g n)))
def hookE (n : Nat) (fa : List He.Fa) (fn : List He.DefD) (ex : PySem.W.Frag → Bool) : PySem.W.Hook where
  α := AlE
  obs := fun s => obsEG n fa fn ex s.heap.get?
  val := fun _ => (He.valD fn, true)
  says := fun _ h => ∃ K : PySem.W.Frag, K.In h ∧ He.SaysD fa fn K ∧ ex K = true
  of := fun _ _ e => ⟨_, He.frG_in, congrArg (fun z : AlE => z.1) e, congrArg (fun z : AlE => z.2) e⟩
  keeps := fun _ _ _ ⟨K, hK, c⟩ k => ⟨K, PySem.W.Frag.In.keeps hK k, c⟩
theorem obsEG_eq {n : Nat} {fa : List He.Fa} {fn : List He.DefD} {ex : PySem.W.Frag → Bool} {g : Addr → Option Obj} {s : Shared} (h : ∀ a, g a = s.heap.get? a) : obsEG n fa fn ex g = (hookE n fa fn ex).obs s := by
  have e : g = s.heap.get? := funext h
  rw [e] <;> rfl
/-- what the head tells -/
structure Cn (fa : List He.Fa) (fn : List He.DefD) (ex : PySem.W.Frag → Bool) (K : PySem.W.Frag) (mg : Str → Option Value) : Prop where
  says : ∃ h : Heap, K.In h ∧ h.Ns mainGlobals mg ∧ He.SaysD fa fn K ∧ ex K = true
section
variable {fa : List He.Fa} {fn : List He.DefD} {ex : PySem.W.Frag → Bool} {K : PySem.W.Frag} {mg : Str → Option Value}
theorem Cn.fact (C : Cn fa fn ex K mg) (i : Nat) {f : He.Fa} (h : fa[i]? = some f := by rfl) : f.ok K = true := by
  obtain ⟨hp, X, G, c, _⟩ := C.says
  exact c.fact i h
theorem Cn.glo (C : Cn fa fn ex K mg) (i : Nat) {x : Str} (h : fa[i]? = some (.glo x) := by rfl) : mg x = some (.ref (He.ga K x)) := by
  obtain ⟨hp, X, G, c, _⟩ := C.says
  exact He.glo_ok X G (c.fact i h)
theorem Cn.free (C : Cn fa fn ex K mg) (i : Nat) {x : Str} (h : fa[i]? = some (.free x) := by rfl) : mg x = none := by
  obtain ⟨hp, X, G, c, _⟩ := C.says
  exact He.free_ok X G (c.fact i h)
theorem Cn.int (C : Cn fa fn ex K mg) (i : Nat) {x : Str} {n : Int} (h : fa[i]? = some (.int x n) := by rfl) : ∃ t, mg x = some (.int n t) := by
  obtain ⟨hp, X, G, c, _⟩ := C.says
  exact He.int_ok X G (c.fact i h)
theorem Cn.def_ (C : Cn fa fn ex K mg) (i : Nat) {d : He.DefD} (h : fn[i]? = some d := by rfl) : FunD K d.name d.qual d.params d.body d.scope (d.dvs K) (d.kws K) (He.fAd K d.at_) (fdAt K d.at_) := by
  obtain ⟨hp, X, G, c, _⟩ := C.says
  exact fun_at (c.def_ i h)
theorem Cn.more (C : Cn fa fn ex K mg) : ex K = true := by
  obtain ⟨hp, X, G, c, e⟩ := C.says
  exact e
/-- the module's name for a function of another module -/
def extB (K : PySem.W.Frag) (x : Str) (id : String) : Bool := decide (PySem.W.nsIn K mainGlobals x = some (some (.builtin id)))
theorem Cn.ext (C : Cn fa fn ex K mg) {x : Str} {id : String} (h : extB K x id = true) : mg x = some (.builtin id) := by
  obtain ⟨hp, X, G, c, _⟩ := C.says
  exact PySem.W.mg_of X G (of_decide_eq_true h)
end
end Z

namespace Z
open PySem PySem.Spec PyProof.Rows L2
/-- what isinstance asks of the class of an error -/
def excCB (K : PySem.W.Frag) (D : Addr) : Bool := decide (PySem.W.findIn K (.ref D) "__getattribute__" = some (some (.builtin "BaseException.__getattribute__"))) && (decide (PySem.W.findIn K (.ref D) "__getattr__" = some none) && (decide (PySem.W.subIn K (.ref D) (.type "BaseException") = some true) && (PySem.W.hasDictIn K D &&
  (decide (PySem.W.findIn K (.ref D) "__class__" = some (some (.builtin "object.__class__"))) && (decide (PySem.W.specialIn K (.builtin "object.__class__") "__get__" = some (some (.builtin "getset_descriptor.__get__"))) && (decide (PySem.W.takesIn K (.builtin "object.__class__") = some true) && decide (PySem.W.mroIn K D (.type "object") = some true)))))))
end Z


namespace Hd
open PySem PySem.Spec PyProof.Rows L2 Z
def top (i : Nat) : Stmt := PySem.Challenge.pw_mostlaid_k24_lofts_told.main.body.getD i (.Pass ⟨0, 0, 0, 0⟩)
abbrev s_scaled : Stmt := top 7
def d_scaled : He.DefD := ⟨(("scaled", none)), "scaled", "scaled", defArgs s_scaled, defBody s_scaled, defScope s_scaled, [], []⟩
abbrev s_determinant : Stmt := top 8
def d_determinant : He.DefD := ⟨(("determinant", none)), "determinant", "determinant", defArgs s_determinant, defBody s_determinant, defScope s_determinant, [], []⟩
abbrev s_steps : Stmt := top 10
def d_steps : He.DefD := ⟨(("steps", none)), "steps", "steps", defArgs s_steps, defBody s_steps, defScope s_steps, [], []⟩
abbrev s_edge_of : Stmt := top 11
def d_edge_of : He.DefD := ⟨(("edge_of", none)), "edge_of", "edge_of", defArgs s_edge_of, defBody s_edge_of, defScope s_edge_of, [], []⟩
abbrev s_surpluses : Stmt := top 12
def d_surpluses : He.DefD := ⟨(("surpluses", none)), "surpluses", "surpluses", defArgs s_surpluses, defBody s_surpluses, defScope s_surpluses, [], []⟩
abbrev s_is_integer : Stmt := top 15
def d_is_integer : He.DefD := ⟨(("is_integer", none)), "is_integer", "is_integer", defArgs s_is_integer, defBody s_is_integer, defScope s_is_integer, [], []⟩
abbrev s_as_number : Stmt := top 16
def d_as_number : He.DefD := ⟨(("as_number", none)), "as_number", "as_number", defArgs s_as_number, defBody s_as_number, defScope s_as_number, [], []⟩
abbrev s_lowest : Stmt := top 17
def d_lowest : He.DefD := ⟨(("lowest", none)), "lowest", "lowest", defArgs s_lowest, defBody s_lowest, defScope s_lowest, [], []⟩
abbrev s_is_figures : Stmt := top 18
def d_is_figures : He.DefD := ⟨(("is_figures", none)), "is_figures", "is_figures", defArgs s_is_figures, defBody s_is_figures, defScope s_is_figures, [], []⟩
abbrev s_number_of_text : Stmt := top 19
def d_number_of_text : He.DefD := ⟨(("number_of_text", none)), "number_of_text", "number_of_text", defArgs s_number_of_text, defBody s_number_of_text, defScope s_number_of_text, [], []⟩
abbrev s_exact : Stmt := top 20
def d_exact : He.DefD := ⟨(("exact", none)), "exact", "exact", defArgs s_exact, defBody s_exact, defScope s_exact, [], []⟩
abbrev s_is_number : Stmt := top 21
def d_is_number : He.DefD := ⟨(("is_number", none)), "is_number", "is_number", defArgs s_is_number, defBody s_is_number, defScope s_is_number, [], []⟩
abbrev s_compare : Stmt := top 22
def d_compare : He.DefD := ⟨(("compare", none)), "compare", "compare", defArgs s_compare, defBody s_compare, defScope s_compare, [], []⟩
abbrev s_is_corner : Stmt := top 24
def d_is_corner : He.DefD := ⟨(("_is_corner", none)), "_is_corner", "_is_corner", defArgs s_is_corner, defBody s_is_corner, defScope s_is_corner, [], []⟩
abbrev s_is_index : Stmt := top 25
def d_is_index : He.DefD := ⟨(("_is_index", none)), "_is_index", "_is_index", defArgs s_is_index, defBody s_is_index, defScope s_is_index, [], []⟩
abbrev s_is_face : Stmt := top 26
def d_is_face : He.DefD := ⟨(("_is_face", none)), "_is_face", "_is_face", defArgs s_is_face, defBody s_is_face, defScope s_is_face, [], []⟩
abbrev s_Net_init : Stmt := inClass (top 27) 0
def d_Net_init : He.DefD := ⟨(("Net", some "__init__")), "__init__", "Net.__init__", defArgs s_Net_init, defBody s_Net_init, defScope s_Net_init, [], []⟩
abbrev s_Net_eq : Stmt := inClass (top 27) 1
def d_Net_eq : He.DefD := ⟨(("Net", some "__eq__")), "__eq__", "Net.__eq__", defArgs s_Net_eq, defBody s_Net_eq, defScope s_Net_eq, [], []⟩
abbrev s_open_edges : Stmt := top 28
def d_open_edges : He.DefD := ⟨(("open_edges", none)), "open_edges", "open_edges", defArgs s_open_edges, defBody s_open_edges, defScope s_open_edges, [], []⟩
abbrev s_is_closed : Stmt := top 29
def d_is_closed : He.DefD := ⟨(("is_closed", none)), "is_closed", "is_closed", defArgs s_is_closed, defBody s_is_closed, defScope s_is_closed, [], []⟩
abbrev s_volume : Stmt := top 30
def d_volume : He.DefD := ⟨(("volume", none)), "volume", "volume", defArgs s_volume, defBody s_volume, defScope s_volume, [], []⟩
abbrev s_loft : Stmt := top 32
def d_loft : He.DefD := ⟨(("loft", none)), "loft", "loft", defArgs s_loft, defBody s_loft, defScope s_loft, [], []⟩
abbrev s_law_bag : Stmt := top 34
def d_law_bag : He.DefD := ⟨(("_law_bag", none)), "_law_bag", "_law_bag", defArgs s_law_bag, defBody s_law_bag, defScope s_law_bag, [], []⟩
abbrev s_law_draw : Stmt := top 35
def d_law_draw : He.DefD := ⟨(("_law_draw", none)), "_law_draw", "_law_draw", defArgs s_law_draw, defBody s_law_draw, defScope s_law_draw, [], []⟩
abbrev s_law_of : Stmt := top 36
def d_law_of : He.DefD := ⟨(("_law_of", none)), "_law_of", "_law_of", defArgs s_law_of, defBody s_law_of, defScope s_law_of, [], []⟩
abbrev s_law_same : Stmt := top 37
def d_law_same : He.DefD := ⟨(("_law_same", none)), "_law_same", "_law_same", defArgs s_law_same, defBody s_law_same, defScope s_law_same, [], []⟩
abbrev s_law_low : Stmt := top 38
def d_law_low : He.DefD := ⟨(("_law_low", none)), "_law_low", "_law_low", defArgs s_law_low, defBody s_law_low, defScope s_law_low, [], []⟩
abbrev s_law_add : Stmt := top 39
def d_law_add : He.DefD := ⟨(("_law_add", none)), "_law_add", "_law_add", defArgs s_law_add, defBody s_law_add, defScope s_law_add, [], []⟩
abbrev s_law_sub : Stmt := top 40
def d_law_sub : He.DefD := ⟨(("_law_sub", none)), "_law_sub", "_law_sub", defArgs s_law_sub, defBody s_law_sub, defScope s_law_sub, [], []⟩
abbrev s_law_mul : Stmt := top 41
def d_law_mul : He.DefD := ⟨(("_law_mul", none)), "_law_mul", "_law_mul", defArgs s_law_mul, defBody s_law_mul, defScope s_law_mul, [], []⟩
abbrev s_law_lt : Stmt := top 42
def d_law_lt : He.DefD := ⟨(("_law_lt", none)), "_law_lt", "_law_lt", defArgs s_law_lt, defBody s_law_lt, defScope s_law_lt, [], []⟩
abbrev s_law_hand : Stmt := top 43
def d_law_hand : He.DefD := ⟨(("_law_hand", none)), "_law_hand", "_law_hand", defArgs s_law_hand, defBody s_law_hand, defScope s_law_hand, [], []⟩
abbrev s_law_handed : Stmt := top 44
def d_law_handed : He.DefD := ⟨(("_law_handed", none)), "_law_handed", "_law_handed", defArgs s_law_handed, defBody s_law_handed, defScope s_law_handed, [], []⟩
abbrev s_law_number : Stmt := top 45
def d_law_number : He.DefD := ⟨(("_law_number", none)), "_law_number", "_law_number", defArgs s_law_number, defBody s_law_number, defScope s_law_number, [], []⟩
abbrev s_law_ring : Stmt := top 46
def d_law_ring : He.DefD := ⟨(("_law_ring", none)), "_law_ring", "_law_ring", defArgs s_law_ring, defBody s_law_ring, defScope s_law_ring, [], []⟩
abbrev s_law_loft : Stmt := top 47
def d_law_loft : He.DefD := ⟨(("_law_loft", none)), "_law_loft", "_law_loft", defArgs s_law_loft, defBody s_law_loft, defScope s_law_loft, [], []⟩
abbrev s_law_area : Stmt := top 48
def d_law_area : He.DefD := ⟨(("_law_area", none)), "_law_area", "_law_area", defArgs s_law_area, defBody s_law_area, defScope s_law_area, [], []⟩
abbrev s_law_det : Stmt := top 49
def d_law_det : He.DefD := ⟨(("_law_det", none)), "_law_det", "_law_det", defArgs s_law_det, defBody s_law_det, defScope s_law_det, [], []⟩
abbrev s_law_volume : Stmt := top 50
def d_law_volume : He.DefD := ⟨(("_law_volume", none)), "_law_volume", "_law_volume", defArgs s_law_volume, defBody s_law_volume, defScope s_law_volume, [], []⟩
abbrev s_law_try : Stmt := top 51
def d_law_try : He.DefD := ⟨(("_law_try", none)), "_law_try", "_law_try", defArgs s_law_try, defBody s_law_try, defScope s_law_try, [], []⟩
abbrev s_law_spots : Stmt := top 52
def d_law_spots : He.DefD := ⟨(("_law_spots", none)), "_law_spots", "_law_spots", defArgs s_law_spots, defBody s_law_spots, defScope s_law_spots, [], []⟩
abbrev s_law_heights : Stmt := top 53
def d_law_heights : He.DefD := ⟨(("_law_heights", none)), "_law_heights", "_law_heights", defArgs s_law_heights, defBody s_law_heights, defScope s_law_heights, [], []⟩
abbrev s_law_right : Stmt := top 54
def d_law_right : He.DefD := ⟨(("_law_right", none)), "_law_right", "_law_right", defArgs s_law_right, defBody s_law_right, defScope s_law_right, [], []⟩
abbrev s_law_any : Stmt := top 55
def d_law_any : He.DefD := ⟨(("_law_any", none)), "_law_any", "_law_any", defArgs s_law_any, defBody s_law_any, defScope s_law_any, [], []⟩
abbrev s_law_once : Stmt := top 56
def d_law_once : He.DefD := ⟨(("_law_once", none)), "_law_once", "_law_once", defArgs s_law_once, defBody s_law_once, defScope s_law_once, [], []⟩
abbrev s_law_prism : Stmt := top 57
def d_law_prism : He.DefD := ⟨(("_law_prism", none)), "_law_prism", "_law_prism", defArgs s_law_prism, defBody s_law_prism, defScope s_law_prism, [], []⟩
abbrev s_law : Stmt := top 58
def d_law : He.DefD := ⟨(("law", none)), "law", "law", defArgs s_law, defBody s_law, defScope s_law, [], []⟩
def fn : List He.DefD := [d_scaled, d_determinant, d_steps, d_edge_of, d_surpluses, d_is_integer, d_as_number, d_lowest, d_is_figures, d_number_of_text, d_exact, d_is_number, d_compare, d_is_corner, d_is_index, d_is_face, d_Net_init, d_Net_eq, d_open_edges, d_is_closed, d_volume, d_loft, d_law_bag, d_law_draw, d_law_of, d_law_same, d_law_low, d_law_add, d_law_sub, d_law_mul, d_law_lt, d_law_hand, d_law_handed, d_law_number, d_law_ring, d_law_loft, d_law_area, d_law_det, d_law_volume, d_law_try, d_law_spots, d_law_heights, d_law_right, d_law_any, d_law_once, d_law_prism, d_law]
def fa : List He.Fa := [.glo "scaled", .glo "determinant", .glo "steps", .glo "edge_of", .glo "surpluses", .glo "is_integer", .glo "as_number", .glo "lowest", .glo "is_figures", .glo "number_of_text", .glo "exact", .glo "is_number", .glo "compare", .glo "_is_corner", .glo "_is_index", .glo "_is_face", .glo "open_edges", .glo "is_closed", .glo "volume", .glo "loft", .glo "_law_bag", .glo "_law_draw", .glo "_law_of", .glo "_law_same", .glo "_law_low", .glo "_law_add", .glo "_law_sub", .glo "_law_mul", .glo "_law_lt", .glo "_law_hand", .glo "_law_handed", .glo "_law_number", .glo "_law_ring", .glo "_law_loft", .glo "_law_area", .glo "_law_det", .glo "_law_volume", .glo "_law_try", .glo "_law_spots", .glo "_law_heights", .glo "_law_right", .glo "_law_any", .glo "_law_once", .glo "_law_prism", .glo "law", .glo "Refused", .glo "BadNumber", .glo "BadNet", .glo "BadLoft", .glo "Net", .free "ValueError", .free "isinstance", .free "int", .free "str", .free "sum", .free "len", .free "range", .free "tuple", .free "all", .free "enumerate", .free "list", .free "abs", .free "bool", .free "sorted", .free "super", .free "zip", .int "DIGITS" 60, .cls "Net", .noat "Net" "corners", .noat "Net" "faces", .mkr "Net", .exc "BadLoft", .exm "BadLoft" "Refused" true]
def ex : PySem.W.Frag → Bool := fun K => (extB K "gcd" "math.gcd" && extB K "lcm" "math.lcm") && (excCB K (He.ga K "BadLoft") && decide (PySem.W.kitOne K (.ref (He.ga K "BadLoft")) (.type "ValueError") = some true))
abbrev Hc := Cn fa fn ex
section
variable {K : PySem.W.Frag} {mg : Str → Option Value}
theorem g_scaled (C : Hc K mg) : mg "scaled" = some (.ref (He.ga K "scaled")) := C.glo 0
theorem g_determinant (C : Hc K mg) : mg "determinant" = some (.ref (He.ga K "determinant")) := C.glo 1
theorem g_steps (C : Hc K mg) : mg "steps" = some (.ref (He.ga K "steps")) := C.glo 2
theorem g_edge_of (C : Hc K mg) : mg "edge_of" = some (.ref (He.ga K "edge_of")) := C.glo 3
theorem g_surpluses (C : Hc K mg) : mg "surpluses" = some (.ref (He.ga K "surpluses")) := C.glo 4
theorem g_is_integer (C : Hc K mg) : mg "is_integer" = some (.ref (He.ga K "is_integer")) := C.glo 5
theorem g_as_number (C : Hc K mg) : mg "as_number" = some (.ref (He.ga K "as_number")) := C.glo 6
theorem g_lowest (C : Hc K mg) : mg "lowest" = some (.ref (He.ga K "lowest")) := C.glo 7
theorem g_is_figures (C : Hc K mg) : mg "is_figures" = some (.ref (He.ga K "is_figures")) := C.glo 8
theorem g_number_of_text (C : Hc K mg) : mg "number_of_text" = some (.ref (He.ga K "number_of_text")) := C.glo 9
theorem g_exact (C : Hc K mg) : mg "exact" = some (.ref (He.ga K "exact")) := C.glo 10
theorem g_is_number (C : Hc K mg) : mg "is_number" = some (.ref (He.ga K "is_number")) := C.glo 11
theorem g_compare (C : Hc K mg) : mg "compare" = some (.ref (He.ga K "compare")) := C.glo 12
theorem g_is_corner (C : Hc K mg) : mg "_is_corner" = some (.ref (He.ga K "_is_corner")) := C.glo 13
theorem g_is_index (C : Hc K mg) : mg "_is_index" = some (.ref (He.ga K "_is_index")) := C.glo 14
theorem g_is_face (C : Hc K mg) : mg "_is_face" = some (.ref (He.ga K "_is_face")) := C.glo 15
theorem g_open_edges (C : Hc K mg) : mg "open_edges" = some (.ref (He.ga K "open_edges")) := C.glo 16
theorem g_is_closed (C : Hc K mg) : mg "is_closed" = some (.ref (He.ga K "is_closed")) := C.glo 17
theorem g_volume (C : Hc K mg) : mg "volume" = some (.ref (He.ga K "volume")) := C.glo 18
theorem g_loft (C : Hc K mg) : mg "loft" = some (.ref (He.ga K "loft")) := C.glo 19
theorem g_law_bag (C : Hc K mg) : mg "_law_bag" = some (.ref (He.ga K "_law_bag")) := C.glo 20
theorem g_law_draw (C : Hc K mg) : mg "_law_draw" = some (.ref (He.ga K "_law_draw")) := C.glo 21
theorem g_law_of (C : Hc K mg) : mg "_law_of" = some (.ref (He.ga K "_law_of")) := C.glo 22
theorem g_law_same (C : Hc K mg) : mg "_law_same" = some (.ref (He.ga K "_law_same")) := C.glo 23
theorem g_law_low (C : Hc K mg) : mg "_law_low" = some (.ref (He.ga K "_law_low")) := C.glo 24
theorem g_law_add (C : Hc K mg) : mg "_law_add" = some (.ref (He.ga K "_law_add")) := C.glo 25
theorem g_law_sub (C : Hc K mg) : mg "_law_sub" = some (.ref (He.ga K "_law_sub")) := C.glo 26
theorem g_law_mul (C : Hc K mg) : mg "_law_mul" = some (.ref (He.ga K "_law_mul")) := C.glo 27
theorem g_law_lt (C : Hc K mg) : mg "_law_lt" = some (.ref (He.ga K "_law_lt")) := C.glo 28
theorem g_law_hand (C : Hc K mg) : mg "_law_hand" = some (.ref (He.ga K "_law_hand")) := C.glo 29
theorem g_law_handed (C : Hc K mg) : mg "_law_handed" = some (.ref (He.ga K "_law_handed")) := C.glo 30
theorem g_law_number (C : Hc K mg) : mg "_law_number" = some (.ref (He.ga K "_law_number")) := C.glo 31
theorem g_law_ring (C : Hc K mg) : mg "_law_ring" = some (.ref (He.ga K "_law_ring")) := C.glo 32
theorem g_law_loft (C : Hc K mg) : mg "_law_loft" = some (.ref (He.ga K "_law_loft")) := C.glo 33
theorem g_law_area (C : Hc K mg) : mg "_law_area" = some (.ref (He.ga K "_law_area")) := C.glo 34
theorem g_law_det (C : Hc K mg) : mg "_law_det" = some (.ref (He.ga K "_law_det")) := C.glo 35
theorem g_law_volume (C : Hc K mg) : mg "_law_volume" = some (.ref (He.ga K "_law_volume")) := C.glo 36
theorem g_law_try (C : Hc K mg) : mg "_law_try" = some (.ref (He.ga K "_law_try")) := C.glo 37
theorem g_law_spots (C : Hc K mg) : mg "_law_spots" = some (.ref (He.ga K "_law_spots")) := C.glo 38
theorem g_law_heights (C : Hc K mg) : mg "_law_heights" = some (.ref (He.ga K "_law_heights")) := C.glo 39
theorem g_law_right (C : Hc K mg) : mg "_law_right" = some (.ref (He.ga K "_law_right")) := C.glo 40
theorem g_law_any (C : Hc K mg) : mg "_law_any" = some (.ref (He.ga K "_law_any")) := C.glo 41
theorem g_law_once (C : Hc K mg) : mg "_law_once" = some (.ref (He.ga K "_law_once")) := C.glo 42
theorem g_law_prism (C : Hc K mg) : mg "_law_prism" = some (.ref (He.ga K "_law_prism")) := C.glo 43
theorem g_law (C : Hc K mg) : mg "law" = some (.ref (He.ga K "law")) := C.glo 44
theorem g_Refused (C : Hc K mg) : mg "Refused" = some (.ref (He.ga K "Refused")) := C.glo 45
theorem g_BadNumber (C : Hc K mg) : mg "BadNumber" = some (.ref (He.ga K "BadNumber")) := C.glo 46
theorem g_BadNet (C : Hc K mg) : mg "BadNet" = some (.ref (He.ga K "BadNet")) := C.glo 47
theorem g_BadLoft (C : Hc K mg) : mg "BadLoft" = some (.ref (He.ga K "BadLoft")) := C.glo 48
theorem g_Net (C : Hc K mg) : mg "Net" = some (.ref (He.ga K "Net")) := C.glo 49
theorem fr_ValueError (C : Hc K mg) : mg "ValueError" = none := C.free 50
theorem fr_isinstance (C : Hc K mg) : mg "isinstance" = none := C.free 51
theorem fr_int (C : Hc K mg) : mg "int" = none := C.free 52
theorem fr_str (C : Hc K mg) : mg "str" = none := C.free 53
theorem fr_sum (C : Hc K mg) : mg "sum" = none := C.free 54
theorem fr_len (C : Hc K mg) : mg "len" = none := C.free 55
theorem fr_range (C : Hc K mg) : mg "range" = none := C.free 56
theorem fr_tuple (C : Hc K mg) : mg "tuple" = none := C.free 57
theorem fr_all (C : Hc K mg) : mg "all" = none := C.free 58
theorem fr_enumerate (C : Hc K mg) : mg "enumerate" = none := C.free 59
theorem fr_list (C : Hc K mg) : mg "list" = none := C.free 60
theorem fr_abs (C : Hc K mg) : mg "abs" = none := C.free 61
theorem fr_bool (C : Hc K mg) : mg "bool" = none := C.free 62
theorem fr_sorted (C : Hc K mg) : mg "sorted" = none := C.free 63
theorem fr_super (C : Hc K mg) : mg "super" = none := C.free 64
theorem fr_zip (C : Hc K mg) : mg "zip" = none := C.free 65
theorem i_DIGITS (C : Hc K mg) : ∃ t, mg "DIGITS" = some (.int 60 t) := C.int 66
theorem cl_Net (C : Hc K mg) : Cls K (He.ga K "Net") := He.cls_ok (C.fact 67)
theorem na_Net_corners (C : Hc K mg) : NoAttr K (He.ga K "Net") "corners" := He.noat_ok (C.fact 68)
theorem na_Net_faces (C : Hc K mg) : NoAttr K (He.ga K "Net") "faces" := He.noat_ok (C.fact 69)
theorem mk_Net (C : Hc K mg) : Mk K (He.ga K "Net") (He.fAd K ("Net", some "__init__")) := He.mkr_ok (C.fact 70)
theorem f_scaled (C : Hc K mg) : FunD K "scaled" "scaled" (defArgs s_scaled) (defBody s_scaled) (defScope s_scaled) [] [] (He.fAd K (("scaled", none))) (fdAt K (("scaled", none))) := C.def_ 0 (d := d_scaled)
theorem f_determinant (C : Hc K mg) : FunD K "determinant" "determinant" (defArgs s_determinant) (defBody s_determinant) (defScope s_determinant) [] [] (He.fAd K (("determinant", none))) (fdAt K (("determinant", none))) := C.def_ 1 (d := d_determinant)
theorem f_steps (C : Hc K mg) : FunD K "steps" "steps" (defArgs s_steps) (defBody s_steps) (defScope s_steps) [] [] (He.fAd K (("steps", none))) (fdAt K (("steps", none))) := C.def_ 2 (d := d_steps)
theorem f_edge_of (C : Hc K mg) : FunD K "edge_of" "edge_of" (defArgs s_edge_of) (defBody s_edge_of) (defScope s_edge_of) [] [] (He.fAd K (("edge_of", none))) (fdAt K (("edge_of", none))) := C.def_ 3 (d := d_edge_of)
theorem f_surpluses (C : Hc K mg) : FunD K "surpluses" "surpluses" (defArgs s_surpluses) (defBody s_surpluses) (defScope s_surpluses) [] [] (He.fAd K (("surpluses", none))) (fdAt K (("surpluses", none))) := C.def_ 4 (d := d_surpluses)
theorem f_is_integer (C : Hc K mg) : FunD K "is_integer" "is_integer" (defArgs s_is_integer) (defBody s_is_integer) (defScope s_is_integer) [] [] (He.fAd K (("is_integer", none))) (fdAt K (("is_integer", none))) := C.def_ 5 (d := d_is_integer)
theorem f_as_number (C : Hc K mg) : FunD K "as_number" "as_number" (defArgs s_as_number) (defBody s_as_number) (defScope s_as_number) [] [] (He.fAd K (("as_number", none))) (fdAt K (("as_number", none))) := C.def_ 6 (d := d_as_number)
theorem f_lowest (C : Hc K mg) : FunD K "lowest" "lowest" (defArgs s_lowest) (defBody s_lowest) (defScope s_lowest) [] [] (He.fAd K (("lowest", none))) (fdAt K (("lowest", none))) := C.def_ 7 (d := d_lowest)
theorem f_is_figures (C : Hc K mg) : FunD K "is_figures" "is_figures" (defArgs s_is_figures) (defBody s_is_figures) (defScope s_is_figures) [] [] (He.fAd K (("is_figures", none))) (fdAt K (("is_figures", none))) := C.def_ 8 (d := d_is_figures)
theorem f_number_of_text (C : Hc K mg) : FunD K "number_of_text" "number_of_text" (defArgs s_number_of_text) (defBody s_number_of_text) (defScope s_number_of_text) [] [] (He.fAd K (("number_of_text", none))) (fdAt K (("number_of_text", none))) := C.def_ 9 (d := d_number_of_text)
theorem f_exact (C : Hc K mg) : FunD K "exact" "exact" (defArgs s_exact) (defBody s_exact) (defScope s_exact) [] [] (He.fAd K (("exact", none))) (fdAt K (("exact", none))) := C.def_ 10 (d := d_exact)
theorem f_is_number (C : Hc K mg) : FunD K "is_number" "is_number" (defArgs s_is_number) (defBody s_is_number) (defScope s_is_number) [] [] (He.fAd K (("is_number", none))) (fdAt K (("is_number", none))) := C.def_ 11 (d := d_is_number)
theorem f_compare (C : Hc K mg) : FunD K "compare" "compare" (defArgs s_compare) (defBody s_compare) (defScope s_compare) [] [] (He.fAd K (("compare", none))) (fdAt K (("compare", none))) := C.def_ 12 (d := d_compare)
theorem f_is_corner (C : Hc K mg) : FunD K "_is_corner" "_is_corner" (defArgs s_is_corner) (defBody s_is_corner) (defScope s_is_corner) [] [] (He.fAd K (("_is_corner", none))) (fdAt K (("_is_corner", none))) := C.def_ 13 (d := d_is_corner)
theorem f_is_index (C : Hc K mg) : FunD K "_is_index" "_is_index" (defArgs s_is_index) (defBody s_is_index) (defScope s_is_index) [] [] (He.fAd K (("_is_index", none))) (fdAt K (("_is_index", none))) := C.def_ 14 (d := d_is_index)
theorem f_is_face (C : Hc K mg) : FunD K "_is_face" "_is_face" (defArgs s_is_face) (defBody s_is_face) (defScope s_is_face) [] [] (He.fAd K (("_is_face", none))) (fdAt K (("_is_face", none))) := C.def_ 15 (d := d_is_face)
theorem f_Net_init (C : Hc K mg) : FunD K "__init__" "Net.__init__" (defArgs s_Net_init) (defBody s_Net_init) (defScope s_Net_init) [] [] (He.fAd K (("Net", some "__init__"))) (fdAt K (("Net", some "__init__"))) := C.def_ 16 (d := d_Net_init)
theorem f_Net_eq (C : Hc K mg) : FunD K "__eq__" "Net.__eq__" (defArgs s_Net_eq) (defBody s_Net_eq) (defScope s_Net_eq) [] [] (He.fAd K (("Net", some "__eq__"))) (fdAt K (("Net", some "__eq__"))) := C.def_ 17 (d := d_Net_eq)
theorem f_open_edges (C : Hc K mg) : FunD K "open_edges" "open_edges" (defArgs s_open_edges) (defBody s_open_edges) (defScope s_open_edges) [] [] (He.fAd K (("open_edges", none))) (fdAt K (("open_edges", none))) := C.def_ 18 (d := d_open_edges)
theorem f_is_closed (C : Hc K mg) : FunD K "is_closed" "is_closed" (defArgs s_is_closed) (defBody s_is_closed) (defScope s_is_closed) [] [] (He.fAd K (("is_closed", none))) (fdAt K (("is_closed", none))) := C.def_ 19 (d := d_is_closed)
theorem f_volume (C : Hc K mg) : FunD K "volume" "volume" (defArgs s_volume) (defBody s_volume) (defScope s_volume) [] [] (He.fAd K (("volume", none))) (fdAt K (("volume", none))) := C.def_ 20 (d := d_volume)
theorem f_loft (C : Hc K mg) : FunD K "loft" "loft" (defArgs s_loft) (defBody s_loft) (defScope s_loft) [] [] (He.fAd K (("loft", none))) (fdAt K (("loft", none))) := C.def_ 21 (d := d_loft)
theorem f_law_bag (C : Hc K mg) : FunD K "_law_bag" "_law_bag" (defArgs s_law_bag) (defBody s_law_bag) (defScope s_law_bag) [] [] (He.fAd K (("_law_bag", none))) (fdAt K (("_law_bag", none))) := C.def_ 22 (d := d_law_bag)
theorem f_law_draw (C : Hc K mg) : FunD K "_law_draw" "_law_draw" (defArgs s_law_draw) (defBody s_law_draw) (defScope s_law_draw) [] [] (He.fAd K (("_law_draw", none))) (fdAt K (("_law_draw", none))) := C.def_ 23 (d := d_law_draw)
theorem f_law_of (C : Hc K mg) : FunD K "_law_of" "_law_of" (defArgs s_law_of) (defBody s_law_of) (defScope s_law_of) [] [] (He.fAd K (("_law_of", none))) (fdAt K (("_law_of", none))) := C.def_ 24 (d := d_law_of)
theorem f_law_same (C : Hc K mg) : FunD K "_law_same" "_law_same" (defArgs s_law_same) (defBody s_law_same) (defScope s_law_same) [] [] (He.fAd K (("_law_same", none))) (fdAt K (("_law_same", none))) := C.def_ 25 (d := d_law_same)
theorem f_law_low (C : Hc K mg) : FunD K "_law_low" "_law_low" (defArgs s_law_low) (defBody s_law_low) (defScope s_law_low) [] [] (He.fAd K (("_law_low", none))) (fdAt K (("_law_low", none))) := C.def_ 26 (d := d_law_low)
theorem f_law_add (C : Hc K mg) : FunD K "_law_add" "_law_add" (defArgs s_law_add) (defBody s_law_add) (defScope s_law_add) [] [] (He.fAd K (("_law_add", none))) (fdAt K (("_law_add", none))) := C.def_ 27 (d := d_law_add)
theorem f_law_sub (C : Hc K mg) : FunD K "_law_sub" "_law_sub" (defArgs s_law_sub) (defBody s_law_sub) (defScope s_law_sub) [] [] (He.fAd K (("_law_sub", none))) (fdAt K (("_law_sub", none))) := C.def_ 28 (d := d_law_sub)
theorem f_law_mul (C : Hc K mg) : FunD K "_law_mul" "_law_mul" (defArgs s_law_mul) (defBody s_law_mul) (defScope s_law_mul) [] [] (He.fAd K (("_law_mul", none))) (fdAt K (("_law_mul", none))) := C.def_ 29 (d := d_law_mul)
theorem f_law_lt (C : Hc K mg) : FunD K "_law_lt" "_law_lt" (defArgs s_law_lt) (defBody s_law_lt) (defScope s_law_lt) [] [] (He.fAd K (("_law_lt", none))) (fdAt K (("_law_lt", none))) := C.def_ 30 (d := d_law_lt)
theorem f_law_hand (C : Hc K mg) : FunD K "_law_hand" "_law_hand" (defArgs s_law_hand) (defBody s_law_hand) (defScope s_law_hand) [] [] (He.fAd K (("_law_hand", none))) (fdAt K (("_law_hand", none))) := C.def_ 31 (d := d_law_hand)
theorem f_law_handed (C : Hc K mg) : FunD K "_law_handed" "_law_handed" (defArgs s_law_handed) (defBody s_law_handed) (defScope s_law_handed) [] [] (He.fAd K (("_law_handed", none))) (fdAt K (("_law_handed", none))) := C.def_ 32 (d := d_law_handed)
theorem f_law_number (C : Hc K mg) : FunD K "_law_number" "_law_number" (defArgs s_law_number) (defBody s_law_number) (defScope s_law_number) [] [] (He.fAd K (("_law_number", none))) (fdAt K (("_law_number", none))) := C.def_ 33 (d := d_law_number)
theorem f_law_ring (C : Hc K mg) : FunD K "_law_ring" "_law_ring" (defArgs s_law_ring) (defBody s_law_ring) (defScope s_law_ring) [] [] (He.fAd K (("_law_ring", none))) (fdAt K (("_law_ring", none))) := C.def_ 34 (d := d_law_ring)
theorem f_law_loft (C : Hc K mg) : FunD K "_law_loft" "_law_loft" (defArgs s_law_loft) (defBody s_law_loft) (defScope s_law_loft) [] [] (He.fAd K (("_law_loft", none))) (fdAt K (("_law_loft", none))) := C.def_ 35 (d := d_law_loft)
theorem f_law_area (C : Hc K mg) : FunD K "_law_area" "_law_area" (defArgs s_law_area) (defBody s_law_area) (defScope s_law_area) [] [] (He.fAd K (("_law_area", none))) (fdAt K (("_law_area", none))) := C.def_ 36 (d := d_law_area)
theorem f_law_det (C : Hc K mg) : FunD K "_law_det" "_law_det" (defArgs s_law_det) (defBody s_law_det) (defScope s_law_det) [] [] (He.fAd K (("_law_det", none))) (fdAt K (("_law_det", none))) := C.def_ 37 (d := d_law_det)
theorem f_law_volume (C : Hc K mg) : FunD K "_law_volume" "_law_volume" (defArgs s_law_volume) (defBody s_law_volume) (defScope s_law_volume) [] [] (He.fAd K (("_law_volume", none))) (fdAt K (("_law_volume", none))) := C.def_ 38 (d := d_law_volume)
theorem f_law_try (C : Hc K mg) : FunD K "_law_try" "_law_try" (defArgs s_law_try) (defBody s_law_try) (defScope s_law_try) [] [] (He.fAd K (("_law_try", none))) (fdAt K (("_law_try", none))) := C.def_ 39 (d := d_law_try)
theorem f_law_spots (C : Hc K mg) : FunD K "_law_spots" "_law_spots" (defArgs s_law_spots) (defBody s_law_spots) (defScope s_law_spots) [] [] (He.fAd K (("_law_spots", none))) (fdAt K (("_law_spots", none))) := C.def_ 40 (d := d_law_spots)
theorem f_law_heights (C : Hc K mg) : FunD K "_law_heights" "_law_heights" (defArgs s_law_heights) (defBody s_law_heights) (defScope s_law_heights) [] [] (He.fAd K (("_law_heights", none))) (fdAt K (("_law_heights", none))) := C.def_ 41 (d := d_law_heights)
theorem f_law_right (C : Hc K mg) : FunD K "_law_right" "_law_right" (defArgs s_law_right) (defBody s_law_right) (defScope s_law_right) [] [] (He.fAd K (("_law_right", none))) (fdAt K (("_law_right", none))) := C.def_ 42 (d := d_law_right)
theorem f_law_any (C : Hc K mg) : FunD K "_law_any" "_law_any" (defArgs s_law_any) (defBody s_law_any) (defScope s_law_any) [] [] (He.fAd K (("_law_any", none))) (fdAt K (("_law_any", none))) := C.def_ 43 (d := d_law_any)
theorem f_law_once (C : Hc K mg) : FunD K "_law_once" "_law_once" (defArgs s_law_once) (defBody s_law_once) (defScope s_law_once) [] [] (He.fAd K (("_law_once", none))) (fdAt K (("_law_once", none))) := C.def_ 44 (d := d_law_once)
theorem f_law_prism (C : Hc K mg) : FunD K "_law_prism" "_law_prism" (defArgs s_law_prism) (defBody s_law_prism) (defScope s_law_prism) [] [] (He.fAd K (("_law_prism", none))) (fdAt K (("_law_prism", none))) := C.def_ 45 (d := d_law_prism)
theorem f_law (C : Hc K mg) : FunD K "law" "law" (defArgs s_law) (defBody s_law) (defScope s_law) [] [] (He.fAd K (("law", none))) (fdAt K (("law", none))) := C.def_ 46 (d := d_law)
theorem x_BadLoft (C : Hc K mg) : PySem.W.excIn K (He.ga K "BadLoft") He.veBase "ValueError.__new__" = true := (He.exc_ok (C.fact 71)).1
theorem xk_BadLoft (C : Hc K mg) : PySem.W.keepIn K (.ref (He.ga K "BadLoft")) = true := (He.exc_ok (C.fact 71)).2.1
theorem xb_BadLoft (C : Hc K mg) : PySem.W.subIn K (.ref (He.ga K "BadLoft")) (.type "BaseException") = some true := (He.exc_ok (C.fact 71)).2.2.1
theorem xt_BadLoft (C : Hc K mg) : PySem.W.typeIn K (.ref (He.ga K "BadLoft")) = some (.type "type") := (He.exc_ok (C.fact 71)).2.2.2
theorem xm_BadLoft (C : Hc K mg) : PySem.W.exmOne K (.ref (He.ga K "BadLoft")) (.ref (He.ga K "Refused")) = some true := He.exm_ok (C.fact 72)
theorem e_gcd (C : Hc K mg) (h : extB K "gcd" "math.gcd" = true) : mg "gcd" = some (.builtin "math.gcd") := C.ext h
theorem e_lcm (C : Hc K mg) (h : extB K "lcm" "math.lcm" = true) : mg "lcm" = some (.builtin "math.lcm") := C.ext h
end
abbrev R : PySem.W.OpenRow := PySem.W.OpenLaw.row PySem.Challenge.rw_mostlaid_k24_lofts_told
def tf : List He.Defn := [("_law_once", none)]
abbrev hk : PySem.W.Hook := He.hookX 5 fa fn [] tf ex
def ob (s : PySem.W.SharedT) : He.AlX := He.obsX 5 fa fn [] tf ex (HandSHeadRun.getT s)
theorem ob_eq (s : PySem.W.SharedT) : ob s = hk.obs s.abs := He.obsX_eq (HandSHeadRun.getT_eq s)
def loose0 : List PySem.Str := ["Refused", "BadNumber", "BadNet", "BadLoft", "scaled", "determinant", "steps", "edge_of", "surpluses", "DIGITS", "is_integer", "as_number", "lowest", "is_figures", "number_of_text", "exact", "is_number", "compare", "_is_corner", "_is_index", "_is_face", "Net", "open_edges", "is_closed", "volume", "loft", "_law_bag", "_law_draw", "_law_of", "_law_same"]
def loose1 : List PySem.Str := ["_law_low", "_law_add", "_law_sub", "_law_mul", "_law_lt", "_law_hand", "_law_handed", "_law_number", "_law_ring", "_law_loft", "_law_area", "_law_det", "_law_volume", "_law_try", "_law_spots", "_law_heights", "_law_right", "_law_any", "_law_once", "_law_prism"]
abbrev loose : List PySem.Str := loose0 ++ loose1
theorem run (w : World) : HandSHeadRun.RunEqI R (PySem.W.view R.prog [0, 58]) hk ob 40000 loose w := by
  unfold HandSHeadRun.RunEqI
  kernel_rfl
end Hd
/-! readings, computed -/
namespace Z
open PySem PySem.Spec PyProof.Rows L2 RZ
section
variable {L : Lp} {Q : VK'} {R : Bool → Lp → Prop} {a b : Addr} {ds es : List D} {i j : Int} {neg : Bool}
theorem blK_bl {c : Bool} : blK (.bl c) L R = R c L := rfl
theorem tupK_tup {P : List D → Prop} : tupK (.tup ds) P = P ds := rfl
theorem pairK_2 {x y : D} {P : D → D → Prop} : pairK [x, y] P = P x y := rfl
theorem inK_int {P : Int → Prop} : inK (.int i) P = P i := rfl
theorem truD_bl {c : Bool} : truD (.bl c) L R = R c L := rfl
theorem truD_int : truD (.int i) L R = R (i != 0) L := rfl
theorem truD_non : truD .non L R = R false L := rfl
theorem truD_tup : truD (.tup ds) L R = R (!ds.isEmpty) L := rfl
theorem isn_non : isnD neg .non .non L Q = Q (.bl (!neg)) L := rfl
theorem isn_int : isnD neg (.int i) .non L Q = Q (.bl neg) L := rfl
theorem isn_bl {c : Bool} : isnD neg (.bl c) .non L Q = Q (.bl neg) L := rfl
theorem isn_str {x : Str} : isnD neg (.str x) .non L Q = Q (.bl neg) L := rfl
theorem isn_tup : isnD neg (.tup ds) .non L Q = Q (.bl neg) L := rfl
theorem isn_ref : isnD neg (.ref a) .non L Q = Q (.bl neg) L := rfl
theorem add_int : addD (.int i) (.int j) L Q = Q (.int (i + j)) L := rfl
theorem add_tup : addD (.tup ds) (.tup es) L Q = (ds.length + es.length ≤ sizeLine ∧ Q (.tup (ds ++ es)) L) := rfl
theorem add_ref : addD (.ref a) (.ref b) L Q = ∃ xs ys, L a = some (.lst xs) ∧ L b = some (.lst ys) ∧ xs.length + ys.length ≤ sizeLine ∧ ∀ p, L p = none → Q (.ref p) (up L p (.lst (xs ++ ys))) := rfl
theorem intD_eq {C : Int → Int → Prop} {g : Int → Int → D} : intD C g (.int i) (.int j) L Q = (C i j ∧ Q (g i j) L) := rfl
theorem intD0_eq {g : Int → Int → D} : intD0 g (.int i) (.int j) L Q = Q (g i j) L := rfl
theorem mul_int : mulD (.int i) (.int j) L Q = (CMulW i j ∧ Q (.int (i * j)) L) := rfl
theorem eq_int : eqD false (.int i) (.int j) L Q = Q (.bl (decide (i = j))) L := rfl
theorem ne_int : eqD true (.int i) (.int j) L Q = Q (.bl (!decide (i = j))) L := rfl
theorem eq_bl {c d : Bool} : eqD false (.bl c) (.bl d) L Q = Q (.bl (decide (c = d))) L := rfl
theorem ne_bl {c d : Bool} : eqD true (.bl c) (.bl d) L Q = Q (.bl (!decide (c = d))) L := rfl
theorem eq_str {c d : Str} : eqD false (.str c) (.str d) L Q = Q (.bl (decide (c = d))) L := rfl
theorem ne_str {c d : Str} : eqD true (.str c) (.str d) L Q = Q (.bl (!decide (c = d))) L := rfl
theorem eq_non : eqD neg .non .non L Q = Q (.bl (!neg)) L := rfl
theorem eq_tup : eqD neg (.tup ds) (.tup es) L Q = eqDeep neg (.tup ds) (.tup es) L Q := rfl
theorem eq_ref : eqD neg (.ref a) (.ref b) L Q = eqDeep neg (.ref a) (.ref b) L Q := rfl
theorem neg_int : negD (.int i) L Q = Q (.int (-i)) L := rfl
theorem seq_tup : seqD (.tup ds) L = some ds := rfl
theorem seq_ilst : seqD (.ilst ds) L = some ds := rfl
theorem seq_ref (h : L a = some (.lst ds)) : seqD (.ref a) L = some ds := by unfold seqD; simp only [h]
theorem ix_tup : ixD (.tup ds) (.int i) L Q = atK (some ds) i fun x => Q x L := rfl
theorem ix_int {d : D} : ixD d (.int i) L Q = atK (seqD d L) i fun x => Q x L := rfl
theorem sqK_some {P : List D → Prop} : sqK (some ds) P = P ds := rfl
theorem ixK_0 {x : D} {P : D → Prop} : ixK (some (x :: ds)) 0 P = P x := rfl
theorem ixK_s {x : D} {n : Nat} {P : D → Prop} : ixK (some (x :: ds)) (n + 1) P = ixK (some ds) n P := rfl
theorem atK_at {x : D} {P : D → Prop} (h : atI ds i = some x) (p : P x) : atK (some ds) i P := by
  unfold atK
  simp only [h]
  exact p
theorem tyK_some {n : String} {P : String → Prop} : tyK (some n) P = P n := rfl
theorem ty_non : tyD .non L = some "NoneType" := rfl
theorem ty_bl {c : Bool} : tyD (.bl c) L = some "bool" := rfl
theorem ty_int : tyD (.int i) L = some "int" := rfl
theorem ty_str {x : Str} : tyD (.str x) L = some "str" := rfl
theorem ty_tup : tyD (.tup ds) L = some "tuple" := rfl
theorem ty_ilst : tyD (.ilst ds) L = some "list" := rfl
theorem ty_ref (h : L a = some (.lst ds)) : tyD (.ref a) L = some "list" := by unfold tyD; simp only [h]
theorem isi_eq {T : String} {d : D} {T' : String} : isiD T [d, .ty T'] L Q = tyK (tyD d L) fun n => Q (.bl (n == T || (n == "bool" && T == "int"))) L := rfl
theorem isi2_eq {d : D} {S T : String} : isi2D [d, .tup [.ty S, .ty T]] L Q = tyK (tyD d L) fun n => S ∈ ["bool", "int", "str", "tuple", "list", "dict"] ∧ T ∈ ["bool", "int", "str", "tuple", "list", "dict"] ∧ Q (.bl (isiV n S || isiV n T)) L := rfl
theorem len_seq {d : D} {xs : List D} (h : seqD d L = some xs) : lenD [d] L Q = Q (.int xs.length) L := by
  unfold lenD
  split
  · rename_i e
    cases e
    cases h
  · rename_i e
    cases e
    simp only [h, sqK]
  · rename_i z1 z2
    exact absurd rfl (z2 d)
theorem len_tup : lenD [.tup ds] L Q = Q (.int ds.length) L := rfl
theorem intc_int : intcD [.int i] L Q = Q (.int i) L := rfl
theorem abs_int : absD [.int i] L Q = Q (.int (if i < 0 then -i else i)) L := rfl
theorem gcd_int : gcdD [.int i, .int j] L Q = Q (.int ((Nat.gcd i.natAbs j.natAbs : Nat) : Int)) L := rfl
theorem list_seq {d : D} : listD [d] L Q = sqK (seqD d L) fun xs => ∀ p, L p = none → Q (.ref p) (up L p (.lst xs)) := rfl
theorem tuple_seq {d : D} : tupleD [d] L Q = sqK (seqD d L) fun xs => Q (.tup xs) L := rfl
theorem all_ref {f : List Bool → Bool} : allD f [.ref a] L Q = ∃ bs : List Bool, L a = some (.lst (bs.map D.bl)) ∧ Q (.bl (f bs)) L := rfl
theorem sum_ref : sumD [.ref a] L Q = ∃ ns : List Int, L a = some (.lst (ns.map D.int)) ∧ Q (.int ns.sum) L := rfl
theorem sl_tup {lo hi : Option Int} : slD (.tup ds) lo hi L Q = Q (.tup (cutD ds lo hi)) L := rfl
theorem sl_ilst {lo hi : Option Int} : slD (.ilst ds) lo hi L Q = ∀ p, L p = none → Q (.ref p) (up L p (.lst (cutD ds lo hi))) := rfl
theorem sl_ref {lo hi : Option Int} : slD (.ref a) lo hi L Q = ∃ ds, L a = some (.lst ds) ∧ ∀ p, L p = none → Q (.ref p) (up L p (.lst (cutD ds lo hi))) := rfl
theorem walk_tup {P : List D → (Lp → Prop) → Lp → Prop} : walkK (.tup ds) L P = P ds (fun _ => True) L := rfl
theorem walk_ilst {P : List D → (Lp → Prop) → Lp → Prop} : walkK (.ilst ds) L P = P ds (fun _ => True) L := rfl
theorem walk_ref {P : List D → (Lp → Prop) → Lp → Prop} : walkK (.ref a) L P = ∃ ds, L a = some (.lst ds) ∧ P ds (fun L => L a = some (.lst ds)) L := rfl
theorem en_ref {P : List D → (Lp → Prop) → Lp → Prop} : enK (.ref a) L P = ∃ ds, L a = some (.lst ds) ∧ P (enD 0 ds) (fun L => L a = some (.lst ds)) L := rfl
theorem set_at {d : D} {xs : List D} {k : Int} {n : Nat} {P : Lp → Prop} (h : L a = some (.lst xs)) (e : ixN xs.length k = some n) (q : P (up L a (.lst (xs.set n d)))) : setD (.ref a) (.int k) d L P := ⟨xs, n, h, e, q⟩
end
end Z

/-! dicts with tuple keys, sorts, instances, keywords by data -/
namespace Z
open PySem PySem.Spec PyProof.Rows L2 RZ
/-! ### lcm -/
def rLcm : List V → Hp → VK → Prop := fun vs H Q => ∃ a b : Int, vs = [.int a, .int b] ∧ a.natAbs < 2 ^ 64 ∧ b.natAbs < 2 ^ 64 ∧ Q (.int ((Nat.lcm a.natAbs b.natAbs : Nat) : Int)) H
theorem cr_lcm {X : Cx} : CallR X (.builtin "math.lcm") rLcm := by
  intro pins s σ H vs us Q I r h
  obtain ⟨a, b, rfl, ha, hb, q⟩ := h
  obtain ⟨t, u, rfl⟩ := Vals.int2 r
  have e : (Nat.lcm 1 a.natAbs).lcm b.natAbs = Nat.lcm a.natAbs b.natAbs := by rw [Nat.lcm_one_left]
  refine PySem.W.mg_lcm ha hb ?_ ?_
  · rw [e, Int.natAbs_natCast]
    have h1 : Nat.lcm a.natAbs b.natAbs ≤ a.natAbs * b.natAbs := by
      by_cases z : 0 < a.natAbs * b.natAbs
      · exact Nat.le_of_dvd z (Nat.lcm_dvd_mul _ _)
      · have z2 : a.natAbs * b.natAbs = 0 := by omega
        rcases Nat.mul_eq_zero.mp z2 with z3 | z3
        · rw [z3]; simp
        · rw [z3]; simp
    have h2 : Nat.lcm a.natAbs b.natAbs < 2 ^ 128 := Nat.lt_of_le_of_lt h1 (by
      have := Nat.mul_lt_mul'' ha hb
      rw [← Nat.pow_add] at this
      exact this)
    exact Nat.lt_of_lt_of_le (PySem.Flt.log2_lt_of (by decide) h2) (by decide)
  · rw [e]
    exact ⟨.int _, H, I.tok _, ⟨_, rfl⟩, q⟩
def lcmD : RA' := fun ds L Q => match ds with
  | [.int a, .int b] => a.natAbs < 2 ^ 64 ∧ b.natAbs < 2 ^ 64 ∧ Q (.int ((Nat.lcm a.natAbs b.natAbs : Nat) : Int)) L
  | _ => False
theorem lcm_int {L : Lp} {Q : VK'} {a b : Int} : lcmD [.int a, .int b] L Q = (a.natAbs < 2 ^ 64 ∧ b.natAbs < 2 ^ 64 ∧ Q (.int ((Nat.lcm a.natAbs b.natAbs : Nat) : Int)) L) := rfl
theorem q_lcm {X : Cx} {e : Expr} {es : List Expr} {p pos : Pos} {t : TA'} (hm : X.mg "lcm" = some (.builtin "math.lcm")) (ha : QA X (e :: es) t) (hg : Gl X "lcm" := by rfl)
    (he : starEach (e :: es) X.env = (false, eval e X.env) :: starEach es X.env := by rfl) (hpl : (backTo pos (starEach es X.env)).any (·.1) = false := by rfl) : QE X (.Call (.Name "lcm" p) (e :: es) [] pos) (wCB lcmD t) :=
  PE.str (pe_callBfun cr_lcm hg hm ha (by decide) he hpl) (tCB_l fun ds L vs H Q Q' rd rh q k => by
    unfold lcmD at q
    split at q
    · cases rd with
      | cons r1 r2 =>
        cases r1
        cases r2 with
        | cons r2 r3 => cases r2; cases r3; exact ⟨_, _, rfl, q.1, q.2.1, k _ L _ H q.2.2 (Kp.refl H) rh (.int _)⟩
    · exact q.elim)
/-! ### dicts with tuple keys -/
def kD : L2.Key → D
  | .inl i => .int i
  | .inr x => .str x
theorem kD_rel {K : PySem.W.Frag} {H : Hp} (k : L2.Key) : RelD K H (kD k) (kV k) := by cases k <;> constructor
theorem kD_eq {K : PySem.W.Frag} {H : Hp} : ∀ {ks : List L2.Key} {vs : List V}, RelDs K H (ks.map kD) vs → vs = ks.map kV
  | [], _, .nil => rfl
  | k :: ks, _, .cons h r => by
    have e := kD_eq r
    subst e
    cases k <;> cases h <;> rfl
theorem kD_rels {K : PySem.W.Frag} {H : Hp} : ∀ ks : List L2.Key, RelDs K H (ks.map kD) (ks.map kV)
  | [] => .nil
  | k :: ks => .cons (kD_rel k) (kD_rels ks)
section
variable {κ : Type} [DecidableEq κ]
def valD (kvs : List (κ × D)) (k : κ) : Option D := (kvs.find? fun kv => decide (kv.1 = k)).map (·.2)
def putD (kvs : List (κ × D)) (k : κ) (v : D) : List (κ × D) :=
  if (kvs.any fun kv => decide (kv.1 = k)) = true then kvs.map (fun kv => if kv.1 = k then (kv.1, v) else kv) else kvs ++ [(k, v)]
variable {K : PySem.W.Frag} {H : Hp}
theorem RelK.val (k : κ) : ∀ {fs : List (κ × D)} {gs : List (κ × V)}, RelK K H fs gs → (valD fs k = none ∧ valV gs k = none) ∨ ∃ d v, valD fs k = some d ∧ valV gs k = some v ∧ RelD K H d v
  | _, _, .nil => .inl ⟨rfl, rfl⟩
  | p :: fs, q :: gs, .cons h r => by
    by_cases e : p.1 = k
    · right
      refine ⟨p.2, q.2, ?_, valV_pos (by rw [← h.1]; exact e), h.2⟩
      simp [valD, List.find?_cons, e]
    · have e2 : ¬ q.1 = k := by rw [← h.1]; exact e
      have z : valD (p :: fs) k = valD fs k := by simp [valD, List.find?_cons, e]
      rw [z, valV_neg e2]
      exact RelK.val k r
theorem RelK.any (k : κ) : ∀ {fs : List (κ × D)} {gs : List (κ × V)}, RelK K H fs gs → (fs.any fun kv => decide (kv.1 = k)) = gs.any fun kv => decide (kv.1 = k)
  | _, _, .nil => rfl
  | p :: fs, q :: gs, .cons h r => by rw [List.any_cons, List.any_cons, h.1, RelK.any k r]
theorem RelK.app : ∀ {fs fs2 : List (κ × D)} {gs gs2 : List (κ × V)}, RelK K H fs gs → RelK K H fs2 gs2 → RelK K H (fs ++ fs2) (gs ++ gs2)
  | _, _, _, _, .nil, s => s
  | _, _, _, _, .cons h r, s => .cons h (RelK.app r s)
theorem RelK.length : ∀ {fs : List (κ × D)} {gs : List (κ × V)}, RelK K H fs gs → fs.length = gs.length
  | _, _, .nil => rfl
  | _, _, .cons _ r => by rw [List.length_cons, List.length_cons, RelK.length r]
theorem RelK.upd {k : κ} {d : D} {v : V} (rd : RelD K H d v) : ∀ {fs : List (κ × D)} {gs : List (κ × V)}, RelK K H fs gs → RelK K H (fs.map (fun kv => if kv.1 = k then (kv.1, d) else kv)) (gs.map (fun kv => if kv.1 = k then (kv.1, v) else kv))
  | _, _, .nil => .nil
  | p :: fs, q :: gs, .cons h r => by
    rw [List.map_cons, List.map_cons]
    refine .cons ?_ (RelK.upd rd r)
    by_cases e : p.1 = k
    · rw [if_pos e, if_pos (by rw [← h.1]; exact e)]
      exact ⟨h.1, rd⟩
    · rw [if_neg e, if_neg (by rw [← h.1]; exact e)]
      exact h
theorem RelK.put {k : κ} {d : D} {v : V} (rd : RelD K H d v) {fs : List (κ × D)} {gs : List (κ × V)} (r : RelK K H fs gs) : RelK K H (putD fs k d) (putK gs k v) := by
  unfold putD putK
  rw [r.any k]
  split
  · exact RelK.upd rd r
  · exact RelK.app r (.cons ⟨rfl, rd⟩ .nil)
end
theorem put_dT {K : PySem.W.Frag} {H : Hp} {L : Lp} {a : Addr} {ws ws' : List (List L2.Key × V)} {kvs : List (List L2.Key × D)} (rh : RepH K H L) (e : H a = some (.dT ws)) (r : RelK K H kvs ws') : Kp H (upd H a (.dT ws')) ∧ RepH K (upd H a (.dT ws')) (up L a (.dT kvs)) := by
  have nf : ¬ isFix (H a) := by rw [e]; exact id
  exact ⟨Kp.upd nf, rh.put nf ⟨ws', upd_same, RelK.mono (Kp.upd nf) r⟩⟩
section
variable {X : Cx}
def wDnewT : TE' := fun _ L Q => ∀ p, L p = none → Q (.ref p) (up L p (.dT []))
theorem q_dnewT {pos : Pos} : QE X (.Dict [] [] pos) wDnewT := PE.str pe_dnewT fun σ H Q h => by
  obtain ⟨τ, L, Q', a, b, c, k⟩ := h
  exact fun p np => k _ _ _ _ (c p (b.no np)) (Kp.new np) (b.new np ⟨[], upd_same, .nil⟩) (.ref p)
/-- the dict, the key -/
def dkK (x y : D) (L : Lp) (P : Addr → List (List L2.Key × D) → List L2.Key → Prop) : Prop := match x, y with
  | .ref a, .tup ks => ∃ kvs k, L a = some (.dT kvs) ∧ ks = k.map kD ∧ P a kvs k
  | _, _ => False
theorem dkK_eq {a : Addr} {ks : List D} {L : Lp} {P : Addr → List (List L2.Key × D) → List L2.Key → Prop} : dkK (.ref a) (.tup ks) L P = ∃ kvs k, L a = some (.dT kvs) ∧ ks = k.map kD ∧ P a kvs k := rfl
theorem dkK_rel {K : PySem.W.Frag} {H : Hp} {L : Lp} {x y : D} {v u : V} {P : Addr → List (List L2.Key × D) → List L2.Key → Prop} (rh : RepH K H L) (rx : RelD K H x v) (ry : RelD K H y u) (h : dkK x y L P) :
    ∃ a kvs k ws b, v = .ref a ∧ u = .ref b ∧ L a = some (.dT kvs) ∧ H a = some (.dT ws) ∧ RelK K H kvs ws ∧ H b = some (.tup (k.map kV)) ∧ P a kvs k := by
  unfold dkK at h
  split at h
  · obtain ⟨kvs, k, e, rfl, p⟩ := h
    obtain ⟨ws, e2, r⟩ := rh _ _ e
    cases rx
    cases ry with
    | tup s r2 =>
      have z := kD_eq r2
      subst z
      exact ⟨_, kvs, k, ws, _, rfl, rfl, e, e2, r, s, p⟩
  · exact h.elim
def wDget (td tk : TE') : TE' := fun τ L Q => td τ L fun x L1 => tk τ L1 fun y L2 => dkK x y L2 fun a kvs k => ∃ d, valD kvs k = some d ∧ Q d L2
theorem q_dget {o i : Expr} {pos : Pos} {td tk : TE'} (hu : X.A.units + 1 < cLine) (ho : QE X o td) (hi : QE X i tk) (hs : NoSl i := by exact fun _ _ => rfl) : QE X (.Subscript o i pos) (wDget td tk) := PE.str (pe_dget hu ho hi hs) fun σ H Q h => by
  obtain ⟨τ, L, Q', a, b, c, k⟩ := h
  refine ⟨τ, L, _, a, b, c, fun x L1 v H1 q kp rh rd => ?_⟩
  refine ⟨τ, L1, _, a.mono kp, rh, q, fun y L2 u H2 q2 kp2 rh2 rd2 => ?_⟩
  obtain ⟨a1, kvs, key, ws, b1, rfl, rfl, e, e2, r, s, d, ed, q3⟩ := dkK_rel rh2 (rd.mono kp2) rd2 q2
  rcases r.val key with ⟨z, _⟩ | ⟨d', v', z1, z2, rr⟩
  · rw [z] at ed; cases ed
  · rw [z1] at ed
    cases ed
    exact ⟨a1, v', rfl, by rw [← z2]; exact DGet.t e2 s, k _ L2 _ H2 q3 (kp.trans kp2) rh2 rr⟩
/-- a dict stands there -/
def isDct (x : D) (L : Lp) : Prop := match x with
  | .ref a => ∃ kvs, L a = some (.dT kvs)
  | _ => False
theorem isDct_eq {a : Addr} {L : Lp} : isDct (.ref a) L = ∃ kvs, L a = some (.dT kvs) := rfl
def wDget2 (td tk tx : TE') : TE' := fun τ L Q => td τ L fun x L1 => isDct x L1 ∧ tk τ L1 fun y L2 => tx τ L2 fun z L3 => dkK x y L3 fun a kvs k => Q ((valD kvs k).getD z) L3
theorem q_dget2 {o e f : Expr} {apos cpos : Pos} {td tk tx : TE'} (hu : X.A.units + 1 < cLine) (ho : QE X o td) (he : QE X e tk) (hf : QE X f tx) (m : M2 X o "get" apos e f cpos) : QE X (.Call (.Attribute o "get" apos) [e, f] [] cpos) (wDget2 td tk tx) := PE.str (pe_dget2 hu ho he hf m) fun σ H Q h => by
  obtain ⟨τ, L, Q', a, b, c, k⟩ := h
  refine ⟨τ, L, _, a, b, c, fun x L1 v H1 q kp rh rd => ?_⟩
  obtain ⟨isd, q⟩ := q
  unfold isDct at isd
  split at isd
  · obtain ⟨kvs0, e0⟩ := isd
    cases rd
    obtain ⟨ws0, e1, _⟩ := rh _ _ e0
    refine ⟨_, rfl, .inr ⟨ws0, .inl e1⟩, ?_⟩
    refine ⟨τ, L1, _, a.mono kp, rh, q, fun y L2 u H2 q2 kp2 rh2 rd2 => ?_⟩
    refine ⟨τ, L2, _, a.mono (kp.trans kp2), rh2, q2, fun z L3 w H3 q3 kp3 rh3 rd3 => ?_⟩
    obtain ⟨a1, kvs, key, ws, b1, e3, rfl, e, e2, r, s, q4⟩ := dkK_rel rh3 (.ref _) (rd2.mono kp3) q3
    cases e3
    rcases r.val key with ⟨z1, z2⟩ | ⟨d', v', z1, z2, rr⟩
    · rw [z1] at q4
      exact ⟨none, by rw [← z2]; exact DGet.t e2 s, k _ L3 _ H3 q4 ((kp.trans kp2).trans kp3) rh3 rd3⟩
    · rw [z1] at q4
      exact ⟨some v', by rw [← z2]; exact DGet.t e2 s, k _ L3 _ H3 q4 ((kp.trans kp2).trans kp3) rh3 rr⟩
  · exact isd.elim
def wDput (td tk tv : TE') : TS' := fun E τ L => tv τ L fun v L1 => td τ L1 fun x L2 => tk τ L2 fun y L3 => dkK x y L3 fun a kvs k => kvs.length < sizeLine ∧ E.nx τ (up L3 a (.dT (putD kvs k v)))
theorem qs_dput {o i value : Expr} {pos pos' : Pos} {td tk tv : TE'} (hu : X.A.units + 1 < cLine) (ho : QE X o td) (hi : QE X i tk) (hv : QE X value tv) (hs : swapsWith value (some (.Subscript o i pos')) pos.line X.env = pure false := by rfl) :
    QS X (.Assign [.Subscript o i pos'] value pos) (wDput td tk tv) := PS.str (ps_dput hu ho hi hv hs) fun E σ H h => by
  obtain ⟨τ, L, E', a, b, c, k1, k2, k3, k4⟩ := h
  refine ⟨τ, L, _, a, b, c, fun d L1 v H1 q kp rh rd => ?_⟩
  refine ⟨τ, L1, _, a.mono kp, rh, q, fun x L2 u H2 q2 kp2 rh2 rd2 => ?_⟩
  refine ⟨τ, L2, _, a.mono (kp.trans kp2), rh2, q2, fun y L3 w H3 q3 kp3 rh3 rd3 => ?_⟩
  obtain ⟨a1, kvs, key, ws, b1, rfl, rfl, e, e2, r, s, z, q4⟩ := dkK_rel rh3 (rd2.mono kp3) rd3 q3
  obtain ⟨kp4, rh4⟩ := put_dT rh3 e2 (r.put (k := key) (rd.mono (kp2.trans kp3)))
  have kp5 := ((kp.trans kp2).trans kp3).trans kp4
  exact ⟨a1, _, rfl, DPut.t e2 s (by rw [← r.length]; exact z), k1 _ _ _ _ q4 kp5 rh4 (a.mono kp5)⟩
/-- list(d), d a dict with tuple keys -/
def listdT : RA' := fun ds L Q => match ds with
  | [.ref a] => ∃ kvs, L a = some (.dT kvs) ∧ ∀ p, L p = none → Q (.ref p) (up L p (.lst (kvs.map fun kv => .tup (kv.1.map kD))))
  | _ => False
theorem listdT_eq {a : Addr} {L : Lp} {Q : VK'} : listdT [.ref a] L Q = ∃ kvs, L a = some (.dT kvs) ∧ ∀ p, L p = none → Q (.ref p) (up L p (.lst (kvs.map fun kv => .tup (kv.1.map kD)))) := rfl
theorem keys_rel {K : PySem.W.Frag} {H : Hp} : ∀ {kvs : List (List L2.Key × D)} {ws : List (List L2.Key × V)} {bs : List Addr}, RelK K H kvs ws → IsKeys H ws bs → RelDs K H (kvs.map fun kv => .tup (kv.1.map kD)) (bs.map V.ref)
  | _, _, _, .nil, ik => by cases ik; exact .nil
  | p :: fs, q :: gs, bs, .cons h r, ik => by
    cases ik with
    | cons i1 i2 =>
      rw [List.map_cons, List.map_cons]
      refine .cons ?_ (keys_rel r i2)
      rw [h.1]
      exact .tup i1 (kD_rels _)
theorem l_listdT {K : PySem.W.Frag} : LRA K listdT (fun xs H Q => ∃ d kvs, xs = [V.ref d] ∧ Rd H d (.dT kvs) ∧ ∀ p bs, H p = none → IsKeys H kvs bs → Q (.ref p) (upd H p (.lst (bs.map V.ref)))) := fun ds L vs H Q Q' rd rh q k => by
  unfold listdT at q
  split at q
  · cases rd with
    | cons r1 r2 =>
      cases r1; cases r2
      obtain ⟨kvs, e, q⟩ := q
      obtain ⟨ws, e2, r⟩ := rh _ _ e
      refine ⟨_, ws, rfl, .inl e2, fun p bs np ik => ?_⟩
      refine k _ _ _ _ (q p (rh.no np)) (Kp.new np) (rh.new np ⟨_, upd_same, RelDs.mono (Kp.new np) (keys_rel r ik)⟩) (.ref p)
  · exact q.elim
/-! ### sorted -/
def sortedI : RA' := fun ds L Q => match ds with
  | [.ref a] => ∃ ns : List Int, L a = some (.lst (ns.map D.int)) ∧ ∀ ms : List Int, ms.Perm ns → ms.Pairwise (· ≤ ·) → ∀ p, L p = none → Q (.ref p) (up L p (.lst (ms.map D.int)))
  | _ => False
theorem sortedI_eq {a : Addr} {L : Lp} {Q : VK'} : sortedI [.ref a] L Q = ∃ ns : List Int, L a = some (.lst (ns.map D.int)) ∧ ∀ ms : List Int, ms.Perm ns → ms.Pairwise (· ≤ ·) → ∀ p, L p = none → Q (.ref p) (up L p (.lst (ms.map D.int))) := rfl
theorem l_sortedI {K : PySem.W.Frag} : LRA K sortedI (rSortedI K) := fun ds L vs H Q Q' rd rh q k => by
  unfold sortedI at q
  split at q
  · cases rd with
    | cons r1 r2 =>
      cases r1; cases r2
      obtain ⟨ns, e, q⟩ := q
      obtain ⟨ws, e2, r⟩ := rh _ _ e
      have e3 := r.ints
      subst e3
      exact ⟨_, ns, rfl, .inl (.inl e2), fun ms p h1 h2 np => k _ _ _ _ (q ms h1 h2 p (rh.no np)) (Kp.new np) (rh.new np ⟨_, upd_same, RelDs.of_ints ms⟩) (.ref p)⟩
  · exact q.elim
end
/-! ### sorted(d.items()), keys pairs of ints, values ints -/
abbrev T3 : Type := Int × Int × Int
def le3 (p q : T3) : Bool := decide (p.1 < q.1 ∨ (p.1 = q.1 ∧ (p.2.1 < q.2.1 ∨ (p.2.1 = q.2.1 ∧ p.2.2 ≤ q.2.2))))
def ent3 (e : T3) : List L2.Key × V := ([.inl e.1, .inl e.2.1], .int e.2.2)
def ent3D (e : T3) : List L2.Key × D := ([.inl e.1, .inl e.2.1], .int e.2.2)
def d3 (e : T3) : D := .tup [.tup [.int e.1, .int e.2.1], .int e.2.2]
def enc3 (b : Addr × T3) : PyData := .tuple [.tuple [.int b.2.1, .int b.2.2.1], .int b.2.2.2]
open PySem.W in
theorem lt_i (x y : Int) : dataLt (.int x) (.int y) = decide (x < y) := by
  have h := congrFun (congrFun (dataLe_int (β := Int) id) y) x
  rw [dataLe_eq] at h
  have h2 : (!dataLt (.int x) (.int y)) = decide (y ≤ x) := h
  have h3 : dataLt (.int x) (.int y) = !decide (y ≤ x) := by rw [← h2, Bool.not_not]
  rw [h3]
  by_cases c : y ≤ x
  · rw [decide_eq_true c, decide_eq_false (by omega)]; rfl
  · rw [decide_eq_false c, decide_eq_true (by omega)]; rfl
open PySem.W in
theorem enc3_le : dataLe false enc3 = fun p q => le3 p.2 q.2 := by
  funext p q
  show (!dataLt (enc3 q) (enc3 p)) = _
  unfold enc3
  rw [dataLt_pair (by simp [alike, alikeAll]) (by simp [alike]), dataLt_pair (by simp [alike]) (by simp [alike])]
  simp only [lt_i, PyData.eqv, PyData.eqvAll, Bool.and_true, Bool.and_eq_true, beq_iff_eq]
  unfold le3
  obtain ⟨a, p1, p2, p3⟩ := p
  obtain ⟨b, q1, q2, q3⟩ := q
  simp only
  split
  · rename_i h
    split
    · simp; omega
    · rw [← decide_not]; congr 1; simp; omega
  · rename_i h
    split
    · rename_i h2
      split
      · rename_i h3; exact absurd ⟨h2, h3⟩ h
      · rw [← decide_not]; congr 1; simp; omega
    · rename_i h2
      rw [← decide_not]; congr 1; simp; omega
/-! the rule -/
namespace SI
open PySem.W PySem.Calls L2.DX DT
/-- ents: keys, values; the result: new pairs in the order -/
def rSortIt3 : List V → Hp → VK → Prop := fun vs H Q => ∃ (p a : Addr) (ents : List T3), vs = [.ref p] ∧ H p = some (itemsO p a) ∧ H a = some (.dT (ents.map ent3)) ∧
  ∀ (H' : Hp) (l : Addr) (zs : List (Addr × T3)), (∀ b o, H b = some o → H' b = some o) → H l = none → zs.map (·.2) = ents.mergeSort le3 → H' l = some (.lst (zs.map fun z => V.ref z.1)) →
    (∀ z ∈ zs, ∃ q, H' z.1 = some (.tup [.ref q, .int z.2.2.2]) ∧ H' q = some (.tup [.int z.2.1, .int z.2.2.1])) → Q (.ref l) H'
end SI
end Z

/-! sorted(d.items()) -/
namespace Z
open PySem PySem.Spec PyProof.Rows L2 RZ
namespace SI
open PySem.W PySem.Calls L2.DX DT
theorem each_of {α β : Type} {R : α → β → Prop} : ∀ {as : List α} {bs : List β}, as.length = bs.length → (∀ (j : Nat) (a : α) (b : β), as[j]? = some a → bs[j]? = some b → R a b) → EachIs R as bs
  | [], [], _, _ => .nil
  | a :: as, b :: bs, hl, h => .cons (h 0 a b rfl rfl) (each_of (by simpa using hl) fun j x y hx hy => h (j + 1) x y (by simpa using hx) (by simpa using hy))
  | [], _ :: _, hl, _ => by simp at hl
  | _ :: _, [], hl, _ => by simp at hl
theorem each_get {α β : Type} {R : α → β → Prop} : ∀ {as : List α} {bs : List β}, EachIs R as bs → ∀ (j : Nat) (a : α), as[j]? = some a → ∃ b, bs[j]? = some b ∧ R a b
  | _, _, .nil, j, a, h => by simp at h
  | _, _, .cons r _, 0, a, h => by simp at h; subst h; exact ⟨_, rfl, r⟩
  | _, _, .cons _ t, j + 1, a, h => by
    obtain ⟨b, h1, h2⟩ := each_get t j a (by simpa using h)
    exact ⟨b, by simpa using h1, h2⟩
theorem vals_of_each : ∀ {out : List Value} {zs : List (Addr × T3)}, EachIs (fun v b => v = Value.ref b.1) out zs → Vals (zs.map fun z => V.ref z.1) out
  | _, _, .nil => .nil
  | _, _, .cons h t => .cons h (vals_of_each t)
section
variable {X : L2.Cx}
theorem cr_sortIt3 (hc : X.calm = true) (hu : X.A.units + 100 < cLine) : CallR X (.builtin "sorted") rSortIt3 := by
  intro pins s σ H xs us Q I r h
  obtain ⟨p, a, ks, rfl, hp, ha, q⟩ := h
  obtain rfl := Vals.ref1 r
  have view : s.heap.IsItemsView p a := (show ObjOk X.prog X.w H s.heap p (itemsO p a) from I.hok p _ hp).1
  obtain ⟨z, hd, xs', rel, o, es, ep, ho, hx, hdat, hes, his, hn⟩ := dt_of I.hok ha
  have l1 : (ks.map ent3).length = xs'.length := Paired.length rel
  rw [List.length_map] at l1 z
  have l2 : es.size = xs'.length := size_of_entries hes
  have hh : X.A.handled = none := I.ok.hd hc
  refine DT.sortedI (es := es) (ep := ep) hh view ⟨o, ho, hx, hdat⟩ (by omega) fun h' tk as hk hlt hl hG => ?_
  have lak : as.length = ks.length := by omega
  have nd : as.Nodup := List.Pairwise.imp (fun h => Nat.ne_of_lt h) hG.rise
  have pr : ∀ (j : Nat) (b : Addr), as[j]? = some b → ∃ (e : T3) (kq : Addr) (tv : Tok), ks[j]? = some e ∧ H kq = some (.tup [.int e.1, .int e.2.1]) ∧ h'.get? b = some { cls := .type "tuple", data := .seq #[Value.ref kq, Value.int e.2.2 tv] } := by
    intro j b hj
    obtain ⟨en, he, hg⟩ := hG.pairs j b hj
    rw [entry_at hes j] at he
    cases hxj : xs'[j]? with
    | none =>
      rw [hxj] at he
      exact nomatch (show (none : Option DictEntry) = some en from he)
    | some x =>
      rw [hxj] at he
      have een : entryOfKey (tupleKind (mixKind X.prog X.w)) x = en := Option.some.inj he
      obtain ⟨e0, he0, r1, r2, r3⟩ := pget rel hxj
      rw [List.getElem?_map] at he0
      cases hkj : ks[j]? with
      | none =>
        rw [hkj] at he0
        exact nomatch (show (none : Option (List L2.Key × V)) = some e0 from he0)
      | some e =>
        rw [hkj] at he0
        have ee : ent3 e = e0 := Option.some.inj he0
        rw [← ee] at r2 r3
        obtain ⟨tv, r3'⟩ : ∃ t, x.2.2 = Value.int e.2.2 t := r3
        refine ⟨e, x.2.1, tv, rfl, r2, ?_⟩
        rw [hg, ← een, ← r3']
        all_goals rfl
  have hob : (h'.push { cls := .type "list", data := .seq (as.map Value.ref).toArray }).get? h'.objs.size = some (seqObj "list" (as.map Value.ref).toArray 0) := Heap.get?_push_size _ rfl
  have kb : ∀ b o, s.heap.get? b = some o → (h'.push { cls := .type "list", data := .seq (as.map Value.ref).toArray }).get? b = some o := fun b o e => Heap.get?_push_of_some _ (hk b o e)
  have ne0 : ∀ b o, h'.get? b = some o → b ≠ h'.objs.size := fun b o e => Nat.ne_of_lt (Heap.lt_size e)
  generalize hh2 : h'.push { cls := .type "list", data := .seq (as.map Value.ref).toArray } = h2 at hob kb ⊢
  have ka : ∀ b o, h'.get? b = some o → h2.get? b = some o := fun b o e => by rw [← hh2]; exact Heap.get?_push_of_some _ e
  -- what the pairs read as
  have rdp : ∀ (j : Nat) (v : Value) (b : Addr × T3), (as.map Value.ref)[j]? = some v → (as.zip ks)[j]? = some b → v = Value.ref b.1 ∧ ∃ rs, Reads h2 v (enc3 b) rs ∧ h'.objs.size ∉ rs := by
    intro j v b hv hb
    obtain ⟨b1, b2⟩ := List.getElem?_zip_eq_some.mp hb
    rw [List.getElem?_map, b1] at hv
    have ev : v = Value.ref b.1 := (Option.some.inj hv).symm
    subst ev
    obtain ⟨e, kq, tv, he, hkq, hg⟩ := pr j b.1 b1
    have ee : e = b.2 := Option.some.inj (he.symm.trans b2)
    subst ee
    obtain ⟨_, its, rv, ot, hot, hct, nt, hdt⟩ := (show ObjOk X.prog X.w H s.heap kq (.tup [.int b.2.1, .int b.2.2.1]) from I.hok kq _ hkq)
    obtain ⟨t1, t2, rfl⟩ : ∃ t1 t2, its = [Value.int b.2.1 t1, Value.int b.2.2.1 t2] := by
      cases rv with
      | cons r1 r2 =>
        cases r2 with
        | cons r2 r3 =>
          cases r3
          obtain ⟨t1, rfl⟩ := r1
          obtain ⟨t2, rfl⟩ := r2
          exact ⟨t1, t2, rfl⟩
    refine ⟨rfl, [], ?_, by simp⟩
    exact .tuple (as := []) (ka _ _ hg) rfl rfl (.cons (as := []) (bs := []) (.tuple (as := []) (kb _ _ hot) hct hdt (.cons (as := []) (bs := []) (.int _ _) (.cons (as := []) (bs := []) (.int _ _) .nil))) (.cons (as := []) (bs := []) (.int _ _) .nil))
  have lz : (as.map Value.ref).length = (as.zip ks).length := by rw [List.length_map, List.length_zip, lak, Nat.min_self]
  have e1 : EachIs (fun v b => v = Value.ref b.1) (as.map Value.ref) (as.zip ks) := each_of lz fun j v b hv hb => (rdp j v b hv hb).1
  have e2 : EachIs (fun v b => ∃ rs, Reads h2 v (enc3 b) rs ∧ h'.objs.size ∉ rs) (as.map Value.ref) (as.zip ks) := each_of lz fun j v b hv hb => (rdp j v b hv hb).2
  refine list_sort_data (s := { s with heap := h2, toks := tk }) hob e1 e2 (AllAlike.of fun b b' => by unfold enc3; simp [alike, alikeAll]) (Sortable.tuples fun b => ⟨_, _, rfl⟩) (by rw [List.length_zip]; omega) (fun b _ => ?_) fun out hol heo => ?_
  · have dp : (enc3 b).depth ≤ 3 := by unfold enc3; simp [PyData.depth, PyData.depthAll]
    show X.A.units + 1 + 1 + (enc3 b).depth < cLine
    omega
  · show EP X pins σ Q (.ref h'.objs.size) { s with heap := sortedHeap h2 h'.objs.size (as.map Value.ref) (List.toArray out), toks := tk }
    generalize hzs : (as.zip ks).mergeSort (dataLe false enc3) = zs at heo
    have pz : zs.Perm (as.zip ks) := by rw [← hzs]; exact List.mergeSort_perm _ _
    have hz2 : zs.map (·.2) = ks.mergeSort le3 := by
      rw [← hzs, enc3_le]
      have m2 : (as.zip ks).map (·.2) = ks := List.map_snd_zip (by rw [lak]; exact Nat.le_refl _)
      rw [sort_maps (s := le3) (fun z : Addr × T3 => z.2) (fun _ _ _ _ => rfl), m2]
    have idx : ∀ z ∈ zs, ∃ j : Nat, as[j]? = some z.1 ∧ ks[j]? = some z.2 := by
      intro z' hz'
      obtain ⟨j, hj⟩ := List.mem_iff_getElem?.mp (pz.mem_iff.mp hz')
      exact ⟨j, List.getElem?_zip_eq_some.mp hj⟩
    have kF : ∀ b o, b ≠ h'.objs.size → h2.get? b = some o → (sortedHeap h2 h'.objs.size (as.map Value.ref) (List.toArray out)).get? b = some o := fun b o hb e => (PyProof.Rows.sortedHeap_old hb (Heap.lt_size e)).trans e
    have kS : ∀ b o, s.heap.get? b = some o → (sortedHeap h2 h'.objs.size (as.map Value.ref) (List.toArray out)).get? b = some o := fun b o e => kF b o (ne0 _ _ (hk b o e)) (kb b o e)
    obtain ⟨eF, heF⟩ := PyProof.Rows.sortedHeap_at (vs := as.map Value.ref) (out := List.toArray out) hob
    have I1 : Inv X pins σ H { s with heap := sortedHeap h2 h'.objs.size (as.map Value.ref) (List.toArray out), toks := tk } := I.kept (t' := tk) kS
    have hn0 : H h'.objs.size = none := I.hok.fresh (Nat.le_of_lt hlt)
    have hlen : (zs.map fun z => V.ref z.1).length ≤ sizeLine := by
      rw [List.length_map, pz.length_eq, List.length_zip]
      omega
    have rv : Vals (zs.map fun z => V.ref z.1) out := vals_of_each heo
    have I2 : Inv X pins σ (upd H h'.objs.size (.lst (zs.map fun z => V.ref z.1))) { s with heap := sortedHeap h2 h'.objs.size (as.map Value.ref) (List.toArray out), toks := tk } :=
      I1.take (h' := sortedHeap h2 h'.objs.size (as.map Value.ref) (List.toArray out)) (t' := tk) (fun b ob _ e => e) (I.fpOk (Nat.le_of_lt hlt) hn0) ⟨hlen, out, eF, rv, heF⟩
    obtain ⟨H2, I3, g, qt⟩ := takeT (P := fun b vs => ∃ (j : Nat) (e : T3) (kq : Addr), as[j]? = some b ∧ ks[j]? = some e ∧ vs = [.ref kq, .int e.2.2] ∧ H kq = some (.tup [.int e.1, .int e.2.1])) I as _ I2 nd fun b hb => by
      obtain ⟨j, hj⟩ := List.mem_iff_getElem?.mp hb
      obtain ⟨e, kq, tv, he, hkq, hg⟩ := pr j b hj
      have hbl : s.heap.objs.size ≤ b := Nat.le_of_lt (hG.above b hb)
      refine ⟨hbl, ?_, [.ref kq, .int e.2.2], ⟨j, e, kq, hj, he, rfl, hkq⟩, fun H3 => ⟨(by rw [sizeLine_eq]; show 2 ≤ 16777216; omega), [Value.ref kq, Value.int e.2.2 tv], .cons rfl (.cons ⟨tv, rfl⟩ .nil), ⟨_, kF _ _ (ne0 _ _ hg) (ka _ _ hg), rfl, 0, rfl⟩⟩⟩
      rw [upd_ne (ne0 _ _ hg)]
      exact I.hok.fresh hbl
    have gr : ∀ b o, H b = some o → H2 b = some o := fun b o e => g b o (by rw [upd_ne (ne_of_none e hn0)]; exact e)
    refine ⟨.ref h'.objs.size, H2, I3, rfl, q H2 h'.objs.size zs gr hn0 hz2 (g _ _ upd_same) fun z' hz' => ?_⟩
    obtain ⟨i, i1, i2⟩ := idx z' hz'
    obtain ⟨vs, ⟨j, e, kq, j1, j2, ev, hkq⟩, hH⟩ := qt z'.1 (List.mem_of_getElem? i1)
    have eij : i = j := (List.getElem?_inj (List.getElem?_eq_some_iff.mp i1).1 nd).mp (i1.trans j1.symm)
    subst eij
    have ee : e = z'.2 := Option.some.inj (j2.symm.trans i2)
    rw [ev, ee] at hH
    rw [ee] at hkq
    exact ⟨kq, hH, gr _ _ hkq⟩
end
end SI
/-- the reading by data -/
def sortItK (d : D) (L : Lp) (Q : VK') : Prop := match d with
  | .ref a => ∃ ents : List T3, L a = some (.dT (ents.map ent3D)) ∧ ∀ p, L p = none → Q (.ref p) (up L p (.lst ((ents.mergeSort le3).map d3)))
  | _ => False
theorem sortItK_eq {a : Addr} {L : Lp} {Q : VK'} : sortItK (.ref a) L Q = ∃ ents : List T3, L a = some (.dT (ents.map ent3D)) ∧ ∀ p, L p = none → Q (.ref p) (up L p (.lst ((ents.mergeSort le3).map d3))) := rfl
def wSortIt (td : TE') : TE' := fun τ L Q => td τ L fun d L1 => sortItK d L1 Q
theorem ent3_rel {K : PySem.W.Frag} {H : Hp} : ∀ {ents : List T3} {ws : List (List L2.Key × V)}, RelK K H (ents.map ent3D) ws → ws = ents.map ent3
  | [], _, .nil => rfl
  | e :: ents, q :: ws, .cons h r => by
    rw [List.map_cons, ent3_rel r]
    obtain ⟨k, v⟩ := q
    obtain ⟨h1, h2⟩ := h
    have h1 : ([.inl e.1, .inl e.2.1] : List L2.Key) = k := h1
    subst h1
    have h2 : RelD K H (.int e.2.2) v := h2
    cases h2
    rfl
theorem refs_rel {K : PySem.W.Frag} {H : Hp} : ∀ zs : List (Addr × T3), (∀ z ∈ zs, ∃ q, H z.1 = some (.tup [.ref q, .int z.2.2.2]) ∧ H q = some (.tup [.int z.2.1, .int z.2.2.1])) → RelDs K H ((zs.map (·.2)).map d3) (zs.map fun z => V.ref z.1)
  | [], _ => .nil
  | z :: zs, h => by
    obtain ⟨q, h1, h2⟩ := h z (List.mem_cons_self ..)
    refine .cons ?_ (refs_rel zs fun y hy => h y (List.mem_cons_of_mem _ hy))
    exact .tup h1 (.cons (.tup h2 (.cons (.int _) (.cons (.int _) .nil))) (.cons (.int _) .nil))
theorem q_sortIt {X : Cx} {o : Expr} {apos cpos p pos : Pos} {td : TE'} (hc : X.calm = true) (hu : X.A.units + 100 < cLine) (ho : QE X o td) (hg : Gl X "sorted") (hm : X.mg "sorted" = none)
    (hbase : attributeBase o "items" X.env (eval o X.env) = eval o X.env := by rfl) (hline : (apos.endLine == cpos.line) = true := by rfl)
    (he : starEach [(.Call (.Attribute o "items" apos) [] [] cpos : Expr)] X.env = (false, eval (.Call (.Attribute o "items" apos) [] [] cpos) X.env) :: starEach [] X.env := by rfl) (hpl : (backTo pos (starEach [] X.env)).any (·.1) = false := by rfl) :
    QE X (.Call (.Name "sorted" p) [.Call (.Attribute o "items" apos) [] [] cpos] [] pos) (wSortIt td) :=
  PE.str (pe_callB (SI.cr_sortIt3 hc hu) hg hm (by decide +kernel) (pa_cons (pe_bm0 PySem.F.plainAttrs_dict PySem.F.slot_dict_items PySem.F.type_dict_items L2.DX.mt_itemsT ho hbase hline) pa_nil he) (by decide) (by decide) he hpl) fun σ H Q h => by
    obtain ⟨τ, L, Q', a, b, c, k⟩ := h
    refine ⟨τ, L, _, a, b, c, fun d L1 v H1 q kp rh rd => ?_⟩
    unfold sortItK at q
    split at q
    · obtain ⟨ents, e, q⟩ := q
      cases rd
      obtain ⟨ws, e2, r⟩ := rh _ _ e
      have ew := ent3_rel r
      subst ew
      refine ⟨.inr (.inr (.inl ⟨rfl, .inr ⟨_, e2⟩⟩)), _, _, rfl, rfl, e2, fun p np => ?_⟩
      refine ⟨p, _, ents, rfl, upd_same, ?_, fun H' l zs g nl ez el hz => ?_⟩
      · rw [upd_ne (ne_of_none e2 np)]; exact e2
      · have nl1 : H1 l = none := by
          by_cases z : l = p
          · subst z; exact np
          · rw [upd_ne z] at nl; exact nl
        have g1 : ∀ b o, H1 b = some o → H' b = some o := fun b o z => g b o (by rw [upd_ne (ne_of_none z np)]; exact z)
        have kp1 : Kp H1 H' := ⟨fun a xs z => g1 _ _ z, fun a ob xs z => g1 _ _ z⟩
        refine k _ _ _ _ (q l (rh.no nl1)) (kp.trans kp1) (fun a o z => ?_) (.ref l)
        by_cases za : a = l
        · subst za
          rw [up_same] at z
          cases z
          exact ⟨_, el, by rw [← ez]; exact refs_rel zs hz⟩
        · rw [up_ne za] at z
          have ro := rh a o z
          cases o with
          | lst ds => obtain ⟨vs, e, r⟩ := ro; exact ⟨vs, g1 _ _ e, r.mono kp1⟩
          | ins C fs => obtain ⟨dx, gs, e, r⟩ := ro; exact ⟨dx, gs, g1 _ _ e, RelK.mono kp1 r⟩
          | dT kvs => obtain ⟨ws, e, r⟩ := ro; exact ⟨ws, g1 _ _ e, RelK.mono kp1 r⟩
          | dK kvs => obtain ⟨ws, e, r⟩ := ro; exact ⟨ws, g1 _ _ e, RelK.mono kp1 r⟩
          | tab q => exact LamX.TabS.ext ro g1
          | xd fs => obtain ⟨gs, e, r⟩ := ro; exact ⟨gs, g1 _ _ e, RelK.mono kp1 r⟩
    · exact q.elim
end Z

/-! instances, keywords, stars by data -/
namespace Z
open PySem PySem.Spec PyProof.Rows L2 RZ
/-! ### three targets -/
def trioK (ds : List D) (Q : D → D → D → Prop) : Prop := match ds with
  | [u, v, w] => Q u v w
  | _ => False
theorem trioK_3 {x y z : D} {P : D → D → D → Prop} : trioK [x, y, z] P = P x y z := rfl
def wPar3 (i j l : Nat) (ta : TA') : TS' := fun E τ L => ta τ L fun ds L1 => trioK ds fun u v w => E.nx (((τ.set i (some u)).set j (some v)).set l (some w)) L1
section
variable {X : Cx}
theorem qs_par3 {i j l : Nat} {x y z : Str} {a b c : Expr} {ta : TA'} {px py pz pt pos : Pos} {kt k2 pt2} (hc : X.calm = true) (hN : X.N.Nodup) (hi : X.N[i]? = some x) (hj : X.N[j]? = some y) (hl : X.N[l]? = some z) (hij : i ≠ j) (hil : i ≠ l) (hjl : j ≠ l)
    (hx : X.env.scope.names.lookup x = some .local) (hy : X.env.scope.names.lookup y = some .local) (hz : X.env.scope.names.lookup z = some .local) (ha : QA X [a, b, c] ta)
    (hw : swappedStores [.Tuple [.Name x px, .Name y py, .Name z pz] kt pt] (.Tuple [a, b, c] k2 pt2) X.env = pure (some [x, y, z]))
    (hs : swapsWithSole [.Tuple [.Name x px, .Name y py, .Name z pz] kt pt] (.Tuple [a, b, c] k2 pt2) pos.line X.env = pure false := by rfl) :
    QS X (.Assign [.Tuple [.Name x px, .Name y py, .Name z pz] kt pt] (.Tuple [a, b, c] k2 pt2) pos) (wPar3 i j l ta) := PS.str (ps_par3 hc hN hi hj hl hij hil hjl hx hy hz ha hw hs) fun D σ H h => by
  obtain ⟨τ, L, D', a, b, c, k1, k2, k3, k4⟩ := h
  refine ⟨τ, L, _, a, b, c, fun ds L1 vs H1 q hl kp rh rd => ?_⟩
  match ds, hl, rd with
  | [u, v, w], _, .cons r1 (.cons r2 (.cons r3 .nil)) => exact ⟨_, _, _, rfl, k1 _ L1 _ H1 q kp rh ((((a.mono kp).set r1 i).set r2 j).set r3 l)⟩
/-! ### fields -/
theorem RelK.lookup {K : PySem.W.Frag} {H : Hp} {f : Str} : ∀ {fs : List (Str × D)} {gs : List (Str × V)} {d : D}, RelK K H fs gs → fs.lookup f = some d → ∃ v, gs.lookup f = some v ∧ RelD K H d v
  | _, _, _, .nil, h => by simp at h
  | p :: fs, q :: gs, d, .cons h r, e => by
    obtain ⟨p1, p2⟩ := p
    obtain ⟨q1, q2⟩ := q
    obtain ⟨h1, h2⟩ := h
    have h1 : p1 = q1 := h1
    subst h1
    by_cases c : (f == p1) = true
    · rw [List.lookup_cons, c] at e ⊢
      cases e
      exact ⟨q2, rfl, h2⟩
    · have c2 : (f == p1) = false := by simpa using c
      rw [List.lookup_cons, c2] at e ⊢
      exact RelK.lookup r e
def putFD (f : Str) (v : D) : List (Str × D) → List (Str × D)
  | [] => [(f, v)]
  | (g, x) :: r => if g = f then (g, v) :: r else (g, x) :: putFD f v r
theorem RelK.putF {K : PySem.W.Frag} {H : Hp} {f : Str} {d : D} {v : V} (rd : RelD K H d v) : ∀ {fs : List (Str × D)} {gs : List (Str × V)}, RelK K H fs gs → RelK K H (putFD f d fs) (L2.putF f v gs)
  | _, _, .nil => .cons ⟨rfl, rd⟩ .nil
  | p :: fs, q :: gs, .cons h r => by
    obtain ⟨p1, p2⟩ := p
    obtain ⟨q1, q2⟩ := q
    obtain ⟨h1, h2⟩ := h
    have h1 : p1 = q1 := h1
    subst h1
    unfold putFD L2.putF
    by_cases c : p1 = f
    · rw [if_pos c, if_pos c]; exact .cons ⟨rfl, rd⟩ r
    · rw [if_neg c, if_neg c]; exact .cons ⟨rfl, h2⟩ (RelK.putF rd r)
/-- o.f, o an instance of the class at C -/
def fldK (K : PySem.W.Frag) (d : D) (f : Str) (L : Lp) (Q : D → Prop) : Prop := match d with
  | .ref a => ∃ C fs v, L a = some (.ins C fs) ∧ Cls K C ∧ NoAttr K C f ∧ fs.lookup f = some v ∧ Q v
  | _ => False
theorem fldK_eq {K : PySem.W.Frag} {a : Addr} {f : Str} {L : Lp} {Q : D → Prop} : fldK K (.ref a) f L Q = ∃ C fs v, L a = some (.ins C fs) ∧ Cls K C ∧ NoAttr K C f ∧ fs.lookup f = some v ∧ Q v := rfl
def wFld (K : PySem.W.Frag) (t : TE') (f : Str) : TE' := fun τ L Q => t τ L fun d L1 => fldK K d f L1 fun v => Q v L1
theorem q_fld {e : Expr} {f : Str} {pos : Pos} {t : TE'} (he : QE X e t) (hb : attributeBase e f X.env (eval e X.env) = eval e X.env := by rfl) : QE X (.Attribute e f pos) (wFld X.K t f) := PE.str (pe_fld he hb) fun σ H Q h => by
  obtain ⟨τ, L, Q', a, b, c, k⟩ := h
  refine ⟨τ, L, _, a, b, c, fun d L1 v H1 q kp rh rd => ?_⟩
  unfold fldK at q
  split at q
  · obtain ⟨C, fs, w, e1, h1, h2, h3, q⟩ := q
    cases rd
    obtain ⟨dx, gs, e2, r⟩ := rh _ _ e1
    obtain ⟨u, h4, r2⟩ := RelK.lookup r h3
    exact ⟨_, C, dx, gs, u, rfl, e2, h1, h2, h4, k _ L1 _ H1 q kp rh r2⟩
  · exact q.elim
def sfldK (K : PySem.W.Frag) (d : D) (f : Str) (v : D) (L : Lp) (Q : Lp → Prop) : Prop := match d with
  | .ref a => ∃ C fs, L a = some (.ins C fs) ∧ Cls K C ∧ NoAttr K C f ∧ fs.length < 1000 ∧ Q (up L a (.ins C (putFD f v fs)))
  | _ => False
theorem sfldK_eq {K : PySem.W.Frag} {a : Addr} {f : Str} {v : D} {L : Lp} {Q : Lp → Prop} : sfldK K (.ref a) f v L Q = ∃ C fs, L a = some (.ins C fs) ∧ Cls K C ∧ NoAttr K C f ∧ fs.length < 1000 ∧ Q (up L a (.ins C (putFD f v fs))) := rfl
def wFldS (K : PySem.W.Frag) (to tv : TE') (f : Str) : TS' := fun E τ L => tv τ L fun v L1 => to τ L1 fun d L2 => sfldK K d f v L2 fun L3 => E.nx τ L3
theorem qs_fld {o value : Expr} {f : Str} {pos pos' : Pos} {to tv : TE'} (ho : QE X o to) (hv : QE X value tv) (hs : swapsWith value (some (.Attribute o f pos')) pos.line X.env = pure false := by rfl) : QS X (.Assign [.Attribute o f pos'] value pos) (wFldS X.K to tv f) := PS.str (ps_fld ho hv hs) fun E σ H h => by
  obtain ⟨τ, L, E', a, b, c, k1, k2, k3, k4⟩ := h
  refine ⟨τ, L, _, a, b, c, fun v L1 y H1 q kp rh rd => ?_⟩
  refine ⟨τ, L1, _, a.mono kp, rh, q, fun d L2 x H2 q2 kp2 rh2 rd2 => ?_⟩
  unfold sfldK at q2
  split at q2
  · rename_i aa
    obtain ⟨C, fs, e1, h1, h2, h3, q2⟩ := q2
    cases rd2
    obtain ⟨dx, gs, e2, r⟩ := rh2 _ _ e1
    have nf : ¬ isFix (H2 aa) := by rw [e2]; exact id
    have kn := Kp.upd (o := .ins C dx (_root_.L2.putF f y gs)) nf
    refine ⟨_, C, dx, gs, rfl, e2, h1, h2, by rw [← RelK.length r]; exact h3, k1 _ _ _ _ q2 ((kp.trans kp2).trans kn) (rh2.put nf ⟨dx, _, upd_same, RelK.mono kn (RelK.putF (rd.mono kp2) r)⟩) (a.mono ((kp.trans kp2).trans kn))⟩
  · exact q2.elim
/-- C(..): a new instance, then __init__ -/
def wMake (C : Addr) (sp : Sp') (E : XK') (t : TA') : TE' := fun τ L Q => t τ L fun ds L1 => ∀ x, L1 x = none → sp (.ref x :: ds) (up L1 x (.ins C [])) (fun d L2 => d = .non ∧ Q (.ref x) L2) E
theorem tMake_l {K : PySem.W.Frag} {C : Addr} {sp : Sp'} {n : Nat} {E : XK} {E' : XK'} {t : TA'} (hE : ∀ C fs L1 od H1, E' C fs L1 → RepH K H1 L1 → ExcAt K H1 L1 od fs → E (.ref C) od H1) (σ : L2.St) (H : Hp) (Q : VK) (h : lE K (wMake C sp E' t) σ H Q) : tMake C (lSp K sp) [] E (lA K n t) σ H Q := by
  obtain ⟨τ, L, Q', a, b, c, k⟩ := h
  refine ⟨τ, L, _, a, b, c, fun ds L1 vs H1 q hl kp rh rd x dx nx ndx ne => ?_⟩
  have n1 : upd H1 dx (.own x) x = none := by rw [upd_ne (Ne.symm ne)]; exact nx
  have k1 : Kp H1 (upd H1 dx (.own x)) := Kp.new ndx
  have k2 : Kp (upd H1 dx (.own x)) (upd (upd H1 dx (.own x)) x (.ins C dx [])) := Kp.new n1
  refine ⟨.ref x :: ds, _, _, E', ?_, ?_, q x (rh.no nx), fun d L2 v H2 q2 kp2 rh2 rd2 => ?_, fun C fs L2 od H2 q2 kp2 rh2 ex => hE C fs L2 od H2 q2 rh2 ex⟩
  · rw [List.append_nil]
    exact .cons (.ref x) (rd.mono (k1.trans k2))
  · exact (rh.hid ndx).new n1 ⟨dx, [], upd_same, .nil⟩
  · obtain ⟨rfl, q2⟩ := q2
    cases rd2
    exact ⟨rfl, k _ _ _ _ q2 ((kp.trans (k1.trans k2)).trans kp2) rh2 (.ref x)⟩
theorem q_make {C f : Addr} {k : Nat} {fd : FuncData} {ps : List Str} {sp : Sp'} {x : Str} {p pos : Pos} {e : Expr} {es : List Expr} {t : TA'} (M : Mk X.K C f) (F : FnOk X.prog X.w X.K X.mg X.base CX0 k f fd ps (lSp X.K sp)) (hr : Room (k + 1) X.A) (hg : Gl X x) (hm : X.mg x = some (.ref C)) (hb : Binds X.K fd ps []) (ha : QA X (e :: es) t)
    (hdb : (x == ("__debug__" : Str)) = false := by decide) (he : starEach (e :: es) X.env = (false, eval e X.env) :: starEach es X.env := by rfl) (hpl : (backTo pos (starEach es X.env)).any (·.1) = false := by rfl) :
    QE X (.Call (.Name x p) (e :: es) [] pos) (wMake C sp X0 t) := PE.str (pe_make M F hr hg hm hb .nil pass0 ha hdb he hpl) (tMake_l fun _ _ _ _ _ z => z.elim)
/-! ### keywords: f(k = e, ..) -/
def QK (X : Cx) (kws : List Keyword) (t : TA') : Prop := PK X kws (lA X.K kws.length t)
theorem PK.str {X : Cx} {e : List Keyword} {t u : TA} (h : PK X e t) (k : ∀ σ H Q, u σ H Q → t σ H Q) : PK X e u := ⟨fun p pins s σ H Q I q => h.run p pins s σ H Q I (k σ H Q q)⟩
theorem k_nil : QK X [] wNil := PK.str pk_nil fun σ H Q h => by
  obtain ⟨τ, L, Q', a, b, c, k⟩ := h
  exact k [] L [] H c rfl (Kp.refl H) b .nil
theorem k_cons {nm : Option Str} {e : Expr} {kpos : Pos} {kws : List Keyword} {ta : TE'} {tr : TA'} (h : QE X e ta) (r : QK X kws tr) : QK X (⟨nm, e, kpos⟩ :: kws) (wCons ta tr) := PK.str (pk_cons h r) fun σ H Q h => by
  obtain ⟨τ, L, Q', a, b, c, k⟩ := h
  refine ⟨τ, L, _, a, b, c, fun d L1 v H1 q kp rh rd => ?_⟩
  refine ⟨τ, L1, _, a.mono kp, rh, q, fun ds L2 vs H2 q2 hl kp2 rh2 rd2 => ?_⟩
  exact k (d :: ds) L2 (v :: vs) H2 q2 (by rw [List.length_cons, hl, List.length_cons]) (kp.trans kp2) rh2 (.cons (rd.mono kp2) rd2)
theorem pe_callK0 {CX : CXT} {k : Nat} {f : Addr} {fd : FuncData} {ps ks : List Str} {sp : Sp} {E : XK} {x : Str} {p pos : Pos} {kws : List Keyword} {tk : TA} {g : List Value → List Value → List Value} {gV : List V → List V → List V}
    (F : FnOk X.prog X.w X.K X.mg X.base CX k f fd ps sp) (hr : Room k X.A) (hg : Gl X x) (hm : X.mg x = some (.ref f)) (hk : PySem.W.keepIn X.K (.ref f) = true) (hb : KBinds X.K fd ps ks g gV) (hx : Passes CX X E)
    (hkw : PK X kws tk) (hall : (backToKw pos (keywordEach kws X.env)).all (·.1.isSome) = true := by rfl) (hks : (backToKw pos (keywordEach kws X.env)).filterMap (·.1) = ks := by rfl)
    (hdb : (x == ("__debug__" : Str)) = false := by decide)
    (hpl : ((backTo pos (starEach [] X.env)).any (·.1) || (backToKw pos (keywordEach kws X.env)).any (·.1.isNone)) = false := by rfl) :
    PE X (.Call (.Name x p) [] kws pos) (fun σ H Q => tk σ H fun zs H2 => sp (gV [] zs) H2 Q E) := by
  refine ⟨fun pins s σ H Q I h => ?_⟩
  refine wpAny_Call_Name_kw (ld_glob I hg hm ?_ hdb)
  refine PySem.W.callWith_KW0 (h₀ := X.base) I.ok.mod.kin hk hall ?_ hpl
  refine thn (hkw.run pos pins s σ H _ I h) fun ws s2 ⟨zs, H2, I2, rz, q2⟩ => ⟨I2.kIn, ?_⟩
  rw [hks]
  exact run_fnk F hr hb hx I2 .nil rz q2
/-- keywords in the order π: the i-th parameter is the π-th keyword's -/
def wCallK (sp : Sp') (g : {α : Type} → List α → List α) (E : XK') (t : TA') : TE' := fun τ L Q => t τ L fun ds L1 => sp (g ds) L1 Q E
/-- a permutation that keeps what goes together -/
structure Rg (g : {α : Type} → List α → List α) : Prop where
  vals : ∀ {vs : List V} {us : List Value}, Vals vs us → Vals (g vs) (g us)
  rels : ∀ {K : PySem.W.Frag} {H : Hp} {ds : List D} {vs : List V}, RelDs K H ds vs → RelDs K H (g ds) (g vs)
theorem q_callK0 {k : Nat} {f : Addr} {fd : FuncData} {ps ks : List Str} {sp : Sp'} {x : Str} {p pos : Pos} {kws : List Keyword} {t : TA'} (g : {α : Type} → List α → List α) (R : Rg g)
    (F : FnOk X.prog X.w X.K X.mg X.base CX0 k f fd ps (lSp X.K sp)) (hr : Room k X.A) (hg : Gl X x) (hm : X.mg x = some (.ref f)) (hk : PySem.W.keepIn X.K (.ref f) = true) (hb : KBinds X.K fd ps ks (fun us ws => us ++ g ws) (fun vs zs => vs ++ g zs))
    (hkw : QK X kws t) (hall : (backToKw pos (keywordEach kws X.env)).all (·.1.isSome) = true := by rfl) (hks : (backToKw pos (keywordEach kws X.env)).filterMap (·.1) = ks := by rfl)
    (hdb : (x == ("__debug__" : Str)) = false := by decide)
    (hpl : ((backTo pos (starEach [] X.env)).any (·.1) || (backToKw pos (keywordEach kws X.env)).any (·.1.isNone)) = false := by rfl) :
    QE X (.Call (.Name x p) [] kws pos) (wCallK sp g X0 t) := PE.str (pe_callK0 F hr hg hm hk hb pass0 hkw hall hks hdb hpl) fun σ H Q h => by
  obtain ⟨τ, L, Q', a, b, c, k⟩ := h
  refine ⟨τ, L, _, a, b, c, fun ds L1 vs H1 q hl kp rh rd => ?_⟩
  exact ⟨g ds, L1, Q', X0, R.rels rd, rh, q, fun d L2 v H2 q2 kp2 => k d L2 v H2 q2 (kp.trans kp2), fun _ _ _ _ _ z => z.elim⟩
theorem rg_id : Rg (fun l => l) := ⟨fun h => h, fun h => h⟩
end
/-- how keywords bind, where the def has no defaults -/
theorem kbinds_of {K : PySem.W.Frag} {x qual : Str} {params : Arguments} {body : List Stmt} {scope : Scope} {f : Addr} {fd : FuncData} {ps ks : List Str} {kws : List (Str × V)} (F : FunD K x qual params body scope [] kws f fd) (g : {α : Type} → List α → List α) (R : Rg g)
    (h : ∀ (kV doc pm : Value) (an : Option Addr) (cdv ct : Value) (us ws : List Value), (us ++ g ws).length = ps.length → ∀ s : Shared, BindsTo s (PySem.W.fnOf x qual params body scope .none kV doc pm an cdv ct) ⟨us, ks.zip ws⟩ (ps.zip (us ++ g ws))) : KBinds K fd ps ks (fun us ws => us ++ g ws) (fun vs zs => vs ++ g zs) := by
  obtain ⟨oc, od, dV, kV, doc, pm, an, cdv, ct, osl, rfl, lk, hcd, hD, hK⟩ := F.ex
  rcases hD with ⟨_, rfl⟩ | ⟨e, _⟩
  · exact ⟨fun s us ws _ hl => h kV doc pm an cdv ct us ws hl s, fun r rz => r.append (R.vals rz)⟩
  · exact absurd rfl e
end Z

namespace Z
open PySem PySem.Spec PyProof.Rows L2
/-! ### l.extend(t), t a tuple -/
theorem ext_lt (l : Addr) (items : Array Value) (n : Nat) (b : Addr) (items2 : Array Value) (n2 : Nat) (od : Option Addr) (sl : Array (Option Value)) (hs0 : ¬(!items.isEmpty && Builtin.List.listTooLong (items.size + items2.size)) = true) (hs1 : items.size ≤ sizeLine) (hs2 : items.size + items2.size ≤ sizeLine + 1) :
    Meets (Builtin.«list.extend» ⟨[.ref l, .ref b], []⟩) (fun _ R s => s.heap.get? l = some { cls := .type "list", dict := none, data := .seq items n, slots := #[] } ∧ s.heap.get? b = some { cls := .type "tuple", dict := od, data := .seq items2 n2, slots := sl } ∧ R (.ok (.ret Value.none)) { s with heap := s.heap.update l (Obj.mapSeq fun x => x ++ items2), toks := s.toks }) :=
  .of_wp fun prog w A R s h => by
    obtain ⟨hp, g, d, tk, os⟩ := s; obtain ⟨hl, hb, h⟩ := h; have f1 := AutoSeq1.idx_int; have f2 := AutoSeq1.sub_tuple_tuple; have f3 := AutoSeq1.sub_list_list; have f4 := AutoSeq1.sub_tuple_list; have f5 := AutoSeq1.sub_list_tuple;
    have hz' : (items ++ items2).size ≤ sizeLine + 1 := by rw [Array.size_append]; exact hs2
    wp_walk using (wpAny_updateSeq hl rfl (hz := hs1) (_hz' := hz')), AutoSeq1.wpAny_loadPart' hl, AutoSeq1.wpAny_loadPart' hb; exact ⟨_, rfl, h⟩
def rExtT : V → List V → Hp → VK → Prop := fun x vs H Q => ∃ l b xs zs, x = .ref l ∧ vs = [.ref b] ∧ H l = some (.lst xs) ∧ H b = some (.tup zs) ∧ xs.length + zs.length ≤ sizeLine ∧ Q .non (upd H l (.lst (xs ++ zs)))
theorem mt_extT {X : Cx} : MtM X "list.extend" rExtT := by
  intro pins s σ H x vs v us Q I rx rv h
  obtain ⟨l, b, xs, zs, rfl, rfl, hH, hB, hz, q⟩ := h
  cases rx
  obtain ⟨u, rfl, ru⟩ := rv.one
  cases ru
  obtain ⟨z, its, n, r, hl, e⟩ := I.lstM hH
  obtain ⟨its2, r2, ⟨o, e2, oc, n2, od⟩, z2⟩ := I.tuple (.inl (.inl hB))
  have hl2 := r2.length
  obtain ⟨c, dd, da, sl⟩ := o
  cases oc; cases od
  have hsz : its.toArray.size + its2.toArray.size ≤ sizeLine := by rw [List.size_toArray, List.size_toArray]; omega
  have hlong : ¬ (!its.toArray.isEmpty && Builtin.List.listTooLong (its.toArray.size + its2.toArray.size)) = true := by
    rw [notLongL hsz, Bool.and_false]
    exact Bool.false_ne_true
  refine call_meets F.slot_list_extend ⟨_, e, rfl⟩ F.entry_list_extend (F.args_list_extend_2 _ _)
    (ext_lt l its.toArray n b its2.toArray n2 dd sl hlong (by rw [List.size_toArray]; omega) (by omega)) ⟨e, e2, ?_⟩
  refine ⟨.non, _, I.lset (its' := its ++ its2) hH e (by simp) (r.append r2) ?_, rfl, q⟩
  rw [List.length_append]
  omega
def extTD : RM' := fun d ds L Q => match d, ds with
  | .ref a, [.tup ys] => ∃ xs, L a = some (.lst xs) ∧ xs.length + ys.length ≤ sizeLine ∧ Q .non (up L a (.lst (xs ++ ys)))
  | _, _ => False
theorem l_extT {K : PySem.W.Frag} : LRM K "list" extTD rExtT := fun d ds L v vs H Q Q' rd rds rh q k => by
  unfold extTD at q
  split at q
  · rename_i a ys
    obtain ⟨xs, e1, z, q⟩ := q
    obtain ⟨ws, e2, r⟩ := rh _ _ e1
    cases rd
    cases rds with
    | cons r1 r2 =>
      cases r2
      cases r1 with
      | tup hb s =>
        obtain ⟨kp, rh2⟩ := put_lst rh e2 (r.app s)
        exact ⟨a, _, ws, _, rfl, rfl, e2, hb, by rw [← r.length, ← s.length]; exact z, k _ _ _ _ q kp rh2 .non⟩
  · exact q.elim
/-! ### def f(*v) -/
def Fs (sp : Sp') : Sp' := fun ds L Q E => ds.length ≤ sizeLine ∧ sp [.tup ds] L Q E
theorem cxup0 : StX.CXUp CX0 := StX.cxUp_none
theorem okStar {P : Program} {w : World} {K : PySem.W.Frag} {mg : Str → Option Value} {base : Heap} {x qual pv : Str} {params : Arguments} {body : List Stmt} {scope : Scope} {f : Addr} {fd : FuncData} {N : List Str} {k : Nat} {sp : Sp'} {t : TS'} (F : FunD K x qual params body scope [] [] f fd) (S : FnScope N [pv] scope)
    (h0 : ∀ (kV doc pm : Value) (an : Option Addr) (cdv ct : Value), bindArgs (PySem.W.fnOf x qual params body scope .none kV doc pm an cdv ct) ⟨[], []⟩ = (newTuple [] >>= fun t => pure [(pv, t)]))
    (h1 : ∀ (kV doc pm : Value) (an : Option Addr) (cdv ct : Value) (r : Value) (rs : List Value), bindArgs (PySem.W.fnOf x qual params body scope .none kV doc pm an cdv ct) ⟨r :: rs, []⟩ = (newTuple (r :: rs) >>= fun t => pure [(pv, t)]))
    (hb : ∀ (cdv : Value) (A : Around) (outer : List Env) (s : Shared) (H : Hp) (E : XK), Room k (A.deeper (envOfC qual scope s.heap.objs.size f cdv)) → QSs (cxOf CX0 P w K mg base N qual scope f cdv A outer s H E) body t)
    (hs : ∀ ds L Q E, sp ds L Q E → t { nx := fun _ L1 => Dn (Q .non) L1, rt := fun d L1 => Dn (Q d) L1 } (start' N ds) L) : FnR P w K mg base CX0 (k + 1) f (lSp K (Fs sp)) := by
  obtain ⟨oc, od, dV, kV, doc, pm, an, cdv, ct, osl, rfl, lk, hcd, hD, hK⟩ := F.ex
  rcases hD with ⟨_, rfl⟩ | ⟨e, _⟩
  · refine FnR.imp (StX.fn_star (ps := []) (sp := lSp K sp) lk hcd S cxup0 (fun us rest hl => ?_) fun A outer s H vs Q E hr h => ⟨_, hb _ A outer s H E hr, ?_⟩) ?_
    · cases us with
      | cons a b => cases hl
      | nil =>
        cases rest with
        | nil => exact h0 ..
        | cons r rs => exact h1 ..
    · obtain ⟨ds, L, Q', E', r, rh, q, k1, k2⟩ := h
      refine ⟨start' N ds, L, _, start_rep r N, rh, hs _ _ _ _ q, ?_, ?_, fun _ _ _ _ z => z.elim, fun _ _ _ _ z => z.elim⟩
      · rintro τ1 L1 σ1 H1 ⟨L2, l, q2⟩ kp rh1 _
        exact k1 _ L2 _ H1 q2 kp (rh1.le l) .non
      · rintro d L1 v H1 ⟨L2, l, q2⟩ kp rh1 rd
        exact k1 _ L2 _ H1 q2 kp (rh1.le l) rd
    · rintro vs H Q E ⟨ds, L, Q', E', r, rh, ⟨hz, q⟩, k1, k2⟩
      refine ⟨[], vs, rfl, rfl, by rw [← r.length]; exact hz, fun p hp => ?_⟩
      have kp : Kp H (upd H p (.tup vs)) := Kp.new hp
      exact ⟨[.tup ds], L, Q', E', .cons (.tup upd_same (r.mono kp)) .nil, rh.hid hp, q, fun d L1 v H1 q1 kp1 => k1 d L1 v H1 q1 (kp.trans kp1), fun C fs L1 od H1 q1 kp1 => k2 C fs L1 od H1 q1 (kp.trans kp1)⟩
  · exact absurd rfl e
section
variable {X : Cx} {k : Nat} {f : Addr} {sp : Sp'} {x : Str} {p pos : Pos} {e : Expr} {es : List Expr} {t : TA'}
theorem pe_callR {CX : CXT} {sp : Sp} {E : XK} {t : TA} (F : FnR X.prog X.w X.K X.mg X.base CX k f sp) (hr : Room k X.A) (hg : Gl X x) (hm : X.mg x = some (.ref f)) (hk : PySem.W.keepIn X.K (.ref f) = true) (hx : Passes CX X E) (ha : PA X (e :: es) t)
    (hdb : (x == ("__debug__" : Str)) = false := by decide) (he : starEach (e :: es) X.env = (false, eval e X.env) :: starEach es X.env := by rfl) (hpl : (backTo pos (starEach es X.env)).any (·.1) = false := by rfl) :
    PE X (.Call (.Name x p) (e :: es) [] pos) (fun σ H Q => t σ H fun vs H1 => sp vs H1 Q E) := by
  refine ⟨fun pins s σ H Q I h => ?_⟩
  refine wpAny_Call_Name_kw (ld_glob I hg hm ?_ hdb)
  refine PySem.W.callWith_K (h₀ := X.base) I.ok.mod.kin hk (thn (ha.run pos pins s σ H _ I h) fun us s1 ⟨vs, H1, I1, r, q⟩ => ⟨I1.kIn, ?_⟩) he hpl
  exact wpAny_call (run_fnR F hr hx I1 r q)
theorem pe_callR0 {CX : CXT} {sp : Sp} {E : XK} (F : FnR X.prog X.w X.K X.mg X.base CX k f sp) (hr : Room k X.A) (hg : Gl X x) (hm : X.mg x = some (.ref f)) (hk : PySem.W.keepIn X.K (.ref f) = true) (hx : Passes CX X E)
    (hdb : (x == ("__debug__" : Str)) = false := by decide) : PE X (.Call (.Name x p) [] [] pos) (fun σ H Q => sp [] H Q E) := by
  refine ⟨fun pins s σ H Q I h => ?_⟩
  refine wpAny_Call_Name_kw (ld_glob I hg hm ?_ hdb)
  exact PySem.W.callWith_K0 I.kIn hk (wpAny_call (run_fnR F hr hx I .nil h))
theorem q_callR (F : FnR X.prog X.w X.K X.mg X.base CX0 k f (lSp X.K sp)) (hr : Room k X.A) (hg : Gl X x) (hm : X.mg x = some (.ref f)) (hk : PySem.W.keepIn X.K (.ref f) = true) (ha : QA X (e :: es) t)
    (hdb : (x == ("__debug__" : Str)) = false := by decide) (he : starEach (e :: es) X.env = (false, eval e X.env) :: starEach es X.env := by rfl) (hpl : (backTo pos (starEach es X.env)).any (·.1) = false := by rfl) :
    QE X (.Call (.Name x p) (e :: es) [] pos) (wCall sp [] X0 t) := PE.str (pe_callR F hr hg hm hk pass0 ha hdb he hpl) fun σ H Q h => by
  obtain ⟨τ, L, Q', a, b, c, k⟩ := h
  refine ⟨τ, L, _, a, b, c, fun ds L1 vs H1 q hl kp rh rd => ?_⟩
  rw [List.append_nil] at q
  exact ⟨ds, L1, Q', X0, rd, rh, q, fun d L2 v H2 q2 kp2 => k d L2 v H2 q2 (kp.trans kp2), fun _ _ _ _ _ z => z.elim⟩
theorem q_callR0 (F : FnR X.prog X.w X.K X.mg X.base CX0 k f (lSp X.K sp)) (hr : Room k X.A) (hg : Gl X x) (hm : X.mg x = some (.ref f)) (hk : PySem.W.keepIn X.K (.ref f) = true)
    (hdb : (x == ("__debug__" : Str)) = false := by decide) : QE X (.Call (.Name x p) [] [] pos) (wCall sp [] X0 wNil) := PE.str (pe_callR0 F hr hg hm hk pass0 hdb) fun σ H Q h => by
  obtain ⟨τ, L, Q', a, b, c, k⟩ := h
  exact ⟨[], L, Q', X0, .nil, b, c, k, fun _ _ _ _ _ z => z.elim⟩
end
theorem hu1 {k : Nat} {A : Around} (h : Room k A) : A.units + 1 < cLine := by have := h.un; omega
theorem hu100 {k : Nat} {A : Around} (h : Room k A) : A.units + 100 < cLine := by have := h.un; omega
theorem hpN {P : Program} {w : World} {K : PySem.W.Frag} {mg : Str → Option Value} {base : Heap} {N : List Str} {qual : Str} {scope : Scope} {f : Addr} {cdv : Value} {A : Around} {outer : List Env} {s : Shared} {H : Hp} {E : XK} :
    PassesOwn (model (cxOf CX0 P w K mg base N qual scope f cdv A outer s H E).prog (cxOf CX0 P w K mg base N qual scope f cdv A outer s H E).w) (cxOf CX0 P w K mg base N qual scope f cdv A outer s H E).A (cxOf CX0 P w K mg base N qual scope f cdv A outer s H E).env (cxOf CX0 P w K mg base N qual scope f cdv A outer s H E).xe := PassesOwn.leaving
end Z

namespace Z
open PySem PySem.Spec PyProof.Rows L2
/-! heaps that grow, but at b; comprehensions over typed items -/
def Ext (b : Addr) (L L' : Lp) : Prop := ∀ a o, a ≠ b → L a = some o → L' a = some o
theorem Ext.refl (b : Addr) (L : Lp) : Ext b L L := fun _ _ _ h => h
theorem Ext.trans {b : Addr} {A B C : Lp} (h : Ext b A B) (k : Ext b B C) : Ext b A C := fun a o n e => k a o n (h a o n e)
theorem Le.ext {b : Addr} {L L' : Lp} (h : Le L L') : Ext b L L' := fun a o _ e => h a o e
theorem Ext.at_ {b : Addr} {L : Lp} {o : O} : Ext b L (up L b o) := fun a u n e => by rw [up_ne n]; exact e
theorem Ext.new {b a : Addr} {L L' : Lp} {o : O} (h : Ext b L L') (n : L a = none) : Ext b L (up L' a o) := fun c u nb e => by
  by_cases hc : c = a
  · subst hc; rw [n] at e; cases e
  · rw [up_ne hc]; exact h c u nb e
theorem Le.new1 {L : Lp} {a : Addr} {o : O} (n : L a = none) : Le L (Z.up L a o) := Le.new (Le.refl L) n
theorem up_up {L : Lp} {a : Addr} {o u : O} : up (up L a o) a u = up L a u := by
  funext b
  by_cases h : b = a
  · subst h; rw [up_same, up_same]
  · rw [up_ne h, up_ne h, up_ne h]
theorem ne_no {L : Lp} {a p : Addr} {o : O} (h : L a = some o) (n : L p = none) : a ≠ p := fun e => by subst e; rw [h] at n; cases n
/-- pure: the items' values are F's, what is none is left out -/
theorem lc_t {α : Type} {wi : TI'} {g : TG'} {tt : TT'} {te : TE'} {vs : List Nat} {τ : S'} {L L1 : Lp} {Q : VK'} (zs : List α) (enc : α → D) (F : α → Option D) (hz : zs.length ≤ sizeLine)
    (hi : ∀ R : List D → (Lp → Prop) → Lp → Prop, (∀ st : Lp → Prop, (∀ L', Le L1 L' → st L') → R (zs.map enc) st L1) → wi τ L R)
    (step : ∀ (z : α) (L' : Lp) (Q' : VK') (R' : Lp → Prop), z ∈ zs → Le L1 L' → (∀ y, F z = some y → ∀ L4, Le L' L4 → Q' y L4) → (F z = none → ∀ L4, Le L' L4 → R' L4) →
      g (enc z) (wipeD τ vs) L' fun τ2 L2 => tt τ2 L2 fun b L3 => if b = true then te τ2 L3 Q' else R' L3)
    (hq : ∀ p, L1 p = none → Q (.ref p) (up L1 p (.lst (zs.filterMap F)))) : wLc wi g tt te vs τ L Q := by
  refine hi _ fun st hst p np => ?_
  refine ⟨fun i L' => L' = up L1 p (.lst ((zs.take i).filterMap F)), by simp, fun i L' _ e => by rw [e]; exact hst _ (Le.new1 np), fun i x L' hx e => ?_, fun L' e => ?_⟩
  · subst e
    rw [List.getElem?_map] at hx
    cases hz2 : zs[i]? with
    | none => rw [hz2] at hx; cases hx
    | some z =>
      rw [hz2] at hx
      cases hx
      have hlt : i < zs.length := by
        rcases Nat.lt_or_ge i zs.length with h | h
        · exact h
        · rw [List.getElem?_eq_none h] at hz2; cases hz2
      have et : zs.take (i + 1) = zs.take i ++ [z] := by
        rw [List.take_add_one, hz2]; rfl
      have hlen : ((zs.take i).filterMap F).length < sizeLine := by
        have h1 := List.length_filterMap_le F (zs.take i)
        rw [List.length_take] at h1
        omega
      refine step z _ _ _ (List.mem_of_getElem? hz2) (Le.new1 np) (fun y hy L4 l4 => ?_) (fun hn L4 l4 => ?_)
      · refine ⟨_, l4 _ _ up_same, hlen, _, ?_, rfl⟩
        rw [et, List.filterMap_append, List.filterMap_cons, hy]
        intro a o ea
        by_cases h : a = p
        · subst h; rw [up_same] at ea ⊢; exact ea
        · rw [up_ne h] at ea ⊢
          exact l4 a o (by rw [up_ne h]; exact ea)
      · refine ⟨_, ?_, rfl⟩
        rw [et, List.filterMap_append, List.filterMap_cons, hn]
        rw [List.filterMap_nil, List.append_nil]
        exact l4
  · subst e
    rw [List.length_map, List.take_length]
    exact hq p np
theorem lc_m {α : Type} {wi : TI'} {g : TG'} {tt : TT'} {te : TE'} {vs : List Nat} {τ : S'} {L L1 : Lp} {Q : VK'} (zs : List α) (enc : α → D) (f : α → D) (hz : zs.length ≤ sizeLine)
    (hi : ∀ R : List D → (Lp → Prop) → Lp → Prop, (∀ st : Lp → Prop, (∀ L', Le L1 L' → st L') → R (zs.map enc) st L1) → wi τ L R)
    (step : ∀ (z : α) (L' : Lp) (Q' : VK') (R' : Lp → Prop), z ∈ zs → Le L1 L' → (∀ L4, Le L' L4 → Q' (f z) L4) →
      g (enc z) (wipeD τ vs) L' fun τ2 L2 => tt τ2 L2 fun b L3 => if b = true then te τ2 L3 Q' else R' L3)
    (hq : ∀ p, L1 p = none → Q (.ref p) (up L1 p (.lst (zs.map f)))) : wLc wi g tt te vs τ L Q :=
  lc_t zs enc (fun z => some (f z)) hz hi (fun z L' Q' R' hm l hy _ => step z L' Q' R' hm l (hy _ rfl)) fun p np => by
    rw [List.filterMap_eq_map']
    exact hq p np
/-- the items' values are found one behind another; the object at b may change: B i stands behind i of them -/
theorem lc_b {α β : Type} {wi : TI'} {g : TG'} {tt : TT'} {te : TE'} {vs : List Nat} {τ : S'} {L L1 : Lp} {Q : VK'} {b : Addr} (zs : List α) (enc : α → D) (enc2 : β → D) (A : Nat → List β → Prop) (B : Nat → Lp → Prop) (hz : zs.length ≤ sizeLine) (hb : L1 b ≠ none)
    (hB : ∀ i p L' o, L1 p = none → B i L' → B i (up L' p o))
    (hi : ∀ R : List D → (Lp → Prop) → Lp → Prop, (∀ st : Lp → Prop, (∀ L', Ext b L1 L' → st L') → R (zs.map enc) st L1) → wi τ L R)
    (a0 : A 0 []) (b0 : B 0 L1)
    (step : ∀ (i : Nat) (z : α) (bs : List β) (L' : Lp) (Q' : VK') (R' : Lp → Prop), zs[i]? = some z → Ext b L1 L' → B i L' → A i bs → (∀ y L4, Ext b L' L4 → B (i + 1) L4 → A (i + 1) (bs ++ [y]) → Q' (enc2 y) L4) →
      g (enc z) (wipeD τ vs) L' fun τ2 L2 => tt τ2 L2 fun b L3 => if b = true then te τ2 L3 Q' else R' L3)
    (hq : ∀ p bs L', L1 p = none → Ext b L1 L' → B zs.length L' → A zs.length bs → bs.length = zs.length → L' p = some (.lst (bs.map enc2)) → Q (.ref p) L') : wLc wi g tt te vs τ L Q := by
  refine hi _ fun st hst p np => ?_
  have nb : p ≠ b := fun e => by subst e; exact hb np
  refine ⟨fun i L' => i ≤ zs.length ∧ ∃ bs, bs.length = i ∧ L' p = some (.lst (bs.map enc2)) ∧ Ext b L1 L' ∧ B i L' ∧ A i bs, ⟨Nat.zero_le _, [], rfl, up_same, (Ext.refl b L1).new np, hB _ _ _ _ np b0, a0⟩,
    fun i L' _ ⟨_, bs, _, _, e, _⟩ => hst _ e, fun i x L' hx e => ?_, fun L' e => ?_⟩
  · obtain ⟨hle, bs, hl, hp, e, b1, a1⟩ := e
    rw [List.getElem?_map] at hx
    cases hz2 : zs[i]? with
    | none => rw [hz2] at hx; cases hx
    | some z =>
      rw [hz2] at hx
      cases hx
      have hlt : i < zs.length := by
        rcases Nat.lt_or_ge i zs.length with h | h
        · exact h
        · rw [List.getElem?_eq_none h] at hz2; cases hz2
      refine step i z bs L' _ _ hz2 e b1 a1 fun y L4 e4 b4 a4 => ?_
      refine ⟨_, e4 _ _ nb hp, by rw [List.length_map]; omega, Dn.mk ⟨hlt, bs ++ [y], by simp [hl], ?_, ?_, hB _ _ _ _ np b4, a4⟩⟩
      · rw [up_same]; simp
      · exact (e.trans e4).new np
  · rw [List.length_map] at e
    obtain ⟨_, bs, hl, hp, e, b1, a1⟩ := e
    exact hq p bs L' np e b1 a1 hl hp
theorem it_tup {τ : S'} {L L1 : Lp} {t : TE'} {ds : List D} {b : Addr} (R : List D → (Lp → Prop) → Lp → Prop) (h : ∀ Q : VK', Q (.tup ds) L1 → t τ L Q) (k : R ds (fun _ => True) L1) : vSeq t τ L R := h _ k
theorem wIfS_h {c : TT'} {t u : TS'} {E : Ends'} {τ : S'} {L : Lp} : wIfS c t u E τ L = c τ L fun b L1 => if b = true then hold (t E) τ L1 else hold (u E) τ L1 := rfl
theorem wVar_0 {d : D} {τ : S'} {L : Lp} {Q : VK'} : wVar 0 (some d :: τ) L Q = Q d L := rfl
theorem wVar_s {n : Nat} {o : Option D} {τ : S'} {L : Lp} {Q : VK'} : wVar (n + 1) (o :: τ) L Q = wVar n τ L Q := rfl
theorem hNil_e {τ : S'} {L : Lp} {Q : S' → Lp → Prop} : hNil [] τ L Q = Q τ L := rfl
end Z

namespace Z
open PySem PySem.Spec PyProof.Rows L2
theorem wC_e {d : D} {x0 L Q} : wC d x0 L Q = (Q d L) := rfl
theorem wNil_e  {x0 L Q} : wNil  x0 L Q = (Q [] L) := rfl
theorem wCons_e {ta : TE'} {tr : TA'} {τ L Q} : wCons ta tr τ L Q = (ta τ L fun d L1 => tr τ L1 fun ds L2 => Q (d :: ds) L2) := rfl
theorem wTup_e {t : TA'} {τ L Q} : wTup t τ L Q = (t τ L fun ds L1 => Q (.tup ds) L1) := rfl
theorem wLst_e {t : TA'} {τ L Q} : wLst t τ L Q = (t τ L fun ds L1 => ∀ p, L1 p = none → Q (.ref p) (up L1 p (.lst ds))) := rfl
theorem wOp_e {r : R2'} {ta tb : TE'} {τ L Q} : wOp r ta tb τ L Q = (ta τ L fun d L1 => tb τ L1 fun e L2 => r d e L2 Q) := rfl
theorem wUn_e {r : R1'} {ta : TE'} {τ L Q} : wUn r ta τ L Q = (ta τ L fun d L1 => r d L1 Q) := rfl
theorem wIf_e {t : TT'} {ta tb : TE'} {τ L Q} : wIf t ta tb τ L Q = (t τ L fun c L1 => if c = true then ta τ L1 Q else tb τ L1 Q) := rfl
theorem wAndV_e {ta tb : TE'} {τ L Q} : wAndV ta tb τ L Q = (ta τ L fun d L1 => blK d L1 fun c L1 => if c = true then tb τ L1 Q else Q (.bl false) L1) := rfl
theorem wOrV_e {ta tb : TE'} {τ L Q} : wOrV ta tb τ L Q = (ta τ L fun d L1 => blK d L1 fun c L1 => if c = true then Q (.bl true) L1 else tb τ L1 Q) := rfl
theorem wNotV_e {ta : TE'} {τ L Q} : wNotV ta τ L Q = (ta τ L fun d L1 => blK d L1 fun c L1 => Q (.bl (!c)) L1) := rfl
theorem wB_e {t : TE'} {τ L Q} : wB t τ L Q = (t τ L fun d L1 => blK d L1 Q) := rfl
theorem wAnd_e {t u : TT'} {τ L Q} : wAnd t u τ L Q = (t τ L fun c L1 => if c = true then u τ L1 Q else Q false L1) := rfl
theorem wOr_e {t u : TT'} {τ L Q} : wOr t u τ L Q = (t τ L fun c L1 => if c = true then Q true L1 else u τ L1 Q) := rfl
theorem zNot_e {t : TT'} {τ L Q} : zNot t τ L Q = (t τ L fun c L1 => Q (!c) L1) := rfl
theorem zTru_e {t : TE'} {τ L Q} : zTru t τ L Q = (t τ L fun d L1 => truD d L1 Q) := rfl
theorem wChain_e {r r' : R2'} {ta tb tc : TE'} {τ L Q} : wChain r r' ta tb tc τ L Q = (ta τ L fun x L1 => tb τ L1 fun y L2 => r x y L2 fun z L3 => blK z L3 fun k L3 => if k = true then tc τ L3 fun u L4 => r' y u L4 Q else Q (.bl false) L3) := rfl
theorem hName_e {i : Nat} {d τ L Q} : hName i d τ L Q = (Q (τ.set i (some d)) L) := rfl
theorem hTup_e {n : Nat} {t : TGs'} {d τ L Q} : hTup n t d τ L Q = (tupK d fun ds => ds.length = n ∧ t ds τ L Q) := rfl
theorem hSub_e {to ti : TE'} {t : D → D → D → Lp → (Lp → Prop) → Prop} {d τ L Q} : hSub to ti t d τ L Q = (to τ L fun o L1 => ti τ L1 fun i L2 => t o i d L2 fun L3 => Q τ L3) := rfl
theorem wNext_e  {E τ L} : wNext  E τ L = (E.nx τ L) := rfl
theorem wSeq_e {t u : TS'} {E τ L} : wSeq t u E τ L = (t { E with nx := hold (u E) } τ L) := rfl
theorem wBreak_e  {E τ L} : wBreak  E τ L = (E.bk τ L) := rfl
theorem wCont_e  {E τ L} : wCont  E τ L = (E.ct τ L) := rfl
theorem wDrop_e {t : TE'} {E τ L} : wDrop t E τ L = (t τ L fun _ L1 => E.nx τ L1) := rfl
theorem wRet_e {t : TE'} {E τ L} : wRet t E τ L = (t τ L E.rt) := rfl
theorem wRetN_e  {E x1 L} : wRetN  E x1 L = (E.rt .non L) := rfl
theorem wNever_e  {x0 x1 x2} : wNever  x0 x1 x2 = (False) := rfl
theorem wAsg_e {t : TE'} {g : TG'} {E τ L} : wAsg t g E τ L = (t τ L fun d L1 => g d τ L1 E.nx) := rfl
theorem wPar_e {i j : Nat} {ta : TA'} {E τ L} : wPar i j ta E τ L = (ta τ L fun ds L1 => pairK ds fun v w => E.nx ((τ.set i (some v)).set j (some w)) L1) := rfl
theorem wIxk_e {n : Nat} {t : TE'} {τ L Q} : wIxk n t τ L Q = (t τ L fun d L1 => ixK (seqD d L1) n fun x => Q x L1) := rfl
theorem wNoPart_e  {x0 L Q} : wNoPart  x0 L Q = (Q none L) := rfl
theorem wPart_e {t : TE'} {τ L Q} : wPart t τ L Q = (t τ L fun d L1 => inK d fun i => Q (some i) L1) := rfl
theorem wSl_e {te : TE'} {tl th : TO'} {τ L Q} : wSl te tl th τ L Q = (te τ L fun d L1 => tl τ L1 fun l L2 => th τ L2 fun u L3 => slD d l u L3 Q) := rfl
theorem wCB_e {r : RA'} {t : TA'} {τ L Q} : wCB r t τ L Q = (t τ L fun ds L1 => r ds L1 Q) := rfl
theorem wBM_e {T : String} {r : RM'} {to : TE'} {t : TA'} {τ L Q} : wBM T r to t τ L Q = (to τ L fun d L1 => kindD T d L1 ∧ t τ L1 fun ds L2 => r d ds L2 Q) := rfl
theorem wBM0_e {T : String} {r : RM'} {to : TE'} {τ L Q} : wBM0 T r to τ L Q = (to τ L fun d L1 => kindD T d L1 ∧ r d [] L1 Q) := rfl
theorem vSeq_e {t : TE'} {τ L R} : vSeq t τ L R = (t τ L fun d L1 => walkK d L1 R) := rfl
theorem vRng1_e {t : TE'} {τ L R} : vRng1 t τ L R = (t τ L fun d L1 => inK d fun j => -(2 ^ 62) ≤ j ∧ j < 2 ^ 62 ∧ R (rgD 0 j.toNat) (fun _ => True) L1) := rfl
theorem vRng2_e {t u : TE'} {τ L R} : vRng2 t u τ L R = (t τ L fun d L1 => u τ L1 fun e L2 => inK d fun i => inK e fun j => (-(2 ^ 62) ≤ i ∧ i < 2 ^ 62 ∧ -(2 ^ 62) ≤ j ∧ j < 2 ^ 62) ∧ R (rgD i (j - i).toNat) (fun _ => True) L2) := rfl
theorem vEnum_e {t : TE'} {τ L R} : vEnum t τ L R = (t τ L fun d L1 => enK d L1 R) := rfl
theorem wYes_e  {x0 L Q} : wYes  x0 L Q = (Q true L) := rfl
theorem wCall_e {sp : Sp'} {es : List D} {E : XK'} {t : TA'} {τ L Q} : wCall sp es E t τ L Q = (t τ L fun ds L1 => sp (ds ++ es) L1 Q E) := rfl
theorem wDnewT_e  {x0 L Q} : wDnewT  x0 L Q = (∀ p, L p = none → Q (.ref p) (up L p (.dT []))) := rfl
theorem wDget_e {td tk : TE'} {τ L Q} : wDget td tk τ L Q = (td τ L fun x L1 => tk τ L1 fun y L2 => dkK x y L2 fun a kvs k => ∃ d, valD kvs k = some d ∧ Q d L2) := rfl
theorem wDget2_e {td tk tx : TE'} {τ L Q} : wDget2 td tk tx τ L Q = (td τ L fun x L1 => isDct x L1 ∧ tk τ L1 fun y L2 => tx τ L2 fun z L3 => dkK x y L3 fun a kvs k => Q ((valD kvs k).getD z) L3) := rfl
theorem wDput_e {td tk tv : TE'} {E τ L} : wDput td tk tv E τ L = (tv τ L fun v L1 => td τ L1 fun x L2 => tk τ L2 fun y L3 => dkK x y L3 fun a kvs k => kvs.length < sizeLine ∧ E.nx τ (up L3 a (.dT (putD kvs k v)))) := rfl
theorem wSortIt_e {td : TE'} {τ L Q} : wSortIt td τ L Q = (td τ L fun d L1 => sortItK d L1 Q) := rfl
theorem wPar3_e {i j l : Nat} {ta : TA'} {E τ L} : wPar3 i j l ta E τ L = (ta τ L fun ds L1 => trioK ds fun u v w => E.nx (((τ.set i (some u)).set j (some v)).set l (some w)) L1) := rfl
theorem wFld_e {K : PySem.W.Frag} {t : TE'} {f : Str} {τ L Q} : wFld K t f τ L Q = (t τ L fun d L1 => fldK K d f L1 fun v => Q v L1) := rfl
theorem wFldS_e {K : PySem.W.Frag} {to tv : TE'} {f : Str} {E τ L} : wFldS K to tv f E τ L = (tv τ L fun v L1 => to τ L1 fun d L2 => sfldK K d f v L2 fun L3 => E.nx τ L3) := rfl
theorem wMake_e {C : Addr} {sp : Sp'} {E : XK'} {t : TA'} {τ L Q} : wMake C sp E t τ L Q = (t τ L fun ds L1 => ∀ x, L1 x = none → sp (.ref x :: ds) (up L1 x (.ins C [])) (fun d L2 => d = .non ∧ Q (.ref x) L2) E) := rfl
theorem wCallK_e {sp : Sp'} {g : {α : Type} → List α → List α} {E : XK'} {t : TA'} {τ L Q} : wCallK sp g E t τ L Q = (t τ L fun ds L1 => sp (g ds) L1 Q E) := rfl
theorem hCons_e {t : TG'} {u : TGs'} {d : D} {ds : List D} {τ L Q} : hCons t u (d :: ds) τ L Q = t d τ L fun τ2 L2 => u ds τ2 L2 Q := rfl
theorem hold_eq {α : Type} (x : α) : hold x = x := rfl
end Z

/-! what is never written again becomes a value -/
namespace Z
open PySem PySem.Spec PyProof.Rows L2
/-! ### at the hand layer -/
/-- behind an expression one thing may be locked for good -/
def frzQ (Q : VK) : VK := fun v H => Q v H ∨ ∃ d u, H d = some u ∧ Mut (some u) ∧ ∀ od, Q v (upd H d (.frz od u))
theorem pe_frz {X : Cx} {e : Expr} {t : TE} (h : PE X e t) : PE X e (fun σ H Q => t σ H (frzQ Q)) := by
  refine ⟨fun pins s σ H Q I hw => ?_⟩
  refine thn (h.run pins s σ H _ I hw) fun v s1 ⟨x, H1, I1, r, q⟩ => ?_
  rcases q with q | ⟨d, u, hd, mu, q⟩
  · exact ⟨x, H1, I1, r, q⟩
  · obtain ⟨od, I2⟩ := I1.lock hd mu
    exact ⟨x, _, I2, r, q od⟩
/-- locked twice: nobody reads it -/
def lk (od : Obj) (u : HO) : HO := .frz od (.frz od u)
section
variable {X : Cx} {pins : List (Addr × Obj)} {σ : L2.St} {H : Hp} {s : Shared}
theorem lock2 {d : Addr} {u : HO} (I : Inv X pins σ H s) (h : H d = some u) (mu : Mut (some u)) : ∃ od, Inv X pins σ (upd H d (lk od u)) s := by
  have x := I.hok d u h
  have ex : ∃ od, s.heap.get? d = some od := by
    cases u with
    | lst xs => obtain ⟨_, _, _, _, e⟩ := x; exact ⟨_, e⟩
    | dK kvs => obtain ⟨_, _, _, _, o, _, _, e, _⟩ := x; exact ⟨o, e⟩
    | dT kvs => obtain ⟨_, _, _, _, o, _, _, e, _⟩ := x; exact ⟨o, e⟩
    | set S n => obtain ⟨o, _, _, _, e, _⟩ := x; exact ⟨o, e⟩
    | ins C dx fs => obtain ⟨_, _, _, e, _⟩ := x; exact ⟨_, e⟩
    | ext φ => obtain ⟨_, ⟨_, e⟩, _⟩ := x; exact ⟨_, e⟩
    | _ => exact False.elim mu
  obtain ⟨od, e⟩ := ex
  have new : ObjOk X.prog X.w (upd H d (lk od u)) s.heap d (lk od u) := by
    refine ⟨e, e, x.stay (fun b v _ q => q) (fun b q => ?_) fun b xs q => ?_⟩
    · rw [upd_ne (fun z => by rw [z, h] at q; cases q; exact mu)]; exact q
    · rw [upd_ne (fun z => by rw [z, h] at q; cases q; exact mu)]; exact q
  exact ⟨od, I.write (x := d) (e := d) (t' := s.toks) (h' := s.heap) (by rw [h]; exact mu) (.inl rfl) (fun b v _ q => q) ⟨od, e⟩ new⟩
theorem unlock2 {d : Addr} {od : Obj} {u : HO} (I : Inv X pins σ H s) (h : H d = some (lk od u)) (hn : ∀ o' u', X.H_0 d ≠ some (.frz o' u')) : Inv X pins σ (upd H d u) s := by
  have I1 : Inv X pins σ (upd H d (.frz od u)) s := by
    have z := I.unlock (u := .frz od u) h hn
    exact z
  have I2 := I1.unlock (u := u) (od := od) upd_same hn
  rw [upd_upd] at I2
  exact I2
end
def tLk (t : TE) : TE := fun σ H Q => ∃ d u, H d = some u ∧ Mut (some u) ∧ ∀ od, t σ (upd H d (lk od u)) fun v H' => H' d = some (lk od u) ∧ Q v (upd H' d u)
def tLkT (t : TT) : TT := fun σ H Q => ∃ d u, H d = some u ∧ Mut (some u) ∧ ∀ od, t σ (upd H d (lk od u)) fun v H' => H' d = some (lk od u) ∧ Q v (upd H' d u)
theorem pe_lk {X : Cx} {e : Expr} {t : TE} (h : PE X e t) : PE X e (tLk t) := by
  refine ⟨fun pins s σ H Q I hw => ?_⟩
  obtain ⟨d, u, hd, mu, hw⟩ := hw
  obtain ⟨od, I1⟩ := lock2 I hd mu
  refine thn (h.run pins s σ _ _ I1 (hw od)) fun v s1 ⟨x, H1, I2, r, e2, q⟩ => ?_
  exact ⟨x, _, unlock2 I2 e2 (I.nofrz hd mu), r, q⟩
theorem pts_lk {X : Cx} {ifs : List Expr} {t : TT} (h : PTs X ifs t) : PTs X ifs (tLkT t) := by
  refine ⟨fun pins s σ H Q I hw => ?_⟩
  obtain ⟨d, u, hd, mu, hw⟩ := hw
  obtain ⟨od, I1⟩ := lock2 I hd mu
  refine thn (h.run pins s σ _ _ I1 (hw od)) fun v s1 ⟨H1, I2, e2, q⟩ => ?_
  exact ⟨_, unlock2 I2 e2 (I.nofrz hd mu), q⟩
/-! lists that may be locked -/
section
variable {X : Cx}
theorem lstR {pins : List (Addr × Obj)} {σ : L2.St} {H : Hp} {s : Shared} {l : Addr} {xs : List V} (I : Inv X pins σ H s) (h : Rd H l (.lst xs)) : xs.length ≤ sizeLine ∧ ∃ (its : List Value) (n : Nat), Vals xs its ∧ xs.length = its.length ∧ s.heap.get? l = some { cls := .type "list", data := .seq its.toArray n } := by
  obtain ⟨z, its, n, r, e⟩ := h.ok I.hok
  exact ⟨z, its, n, r, r.length, e⟩
def rCatR : R2 := fun x y H Q => ∃ l b xs zs, x = .ref l ∧ y = .ref b ∧ Rd H l (.lst xs) ∧ Rd H b (.lst zs) ∧ xs.length + zs.length ≤ sizeLine ∧ ∀ p, H p = none → Q (.ref p) (upd H p (.lst (xs ++ zs)))
theorem op_catR : OpR X (binaryOp .Add) rCatR := by
  intro pins s σ H x y v u Q I rx ry h
  obtain ⟨l, b, xs, zs, rfl, rfl, hH, hB, hz, q⟩ := h
  cases rx
  cases ry
  obtain ⟨z, its, n, r, hl, e⟩ := lstR I hH
  obtain ⟨z2, its2, n2, r2, hl2, e2⟩ := lstR I hB
  refine PySem.P.add_list e e2 ?_ (by rw [List.size_toArray, List.size_toArray]; omega)
  have ea : its.toArray ++ its2.toArray = (its ++ its2).toArray := by simp
  rw [ea]
  exact ⟨.ref _, _, I.lnew (t' := s.toks) (r.append r2) (by rw [List.length_append]; omega), rfl, q _ I.fresh⟩
def rRepR : R2 := fun x y H Q => ∃ l k xs, x = .ref l ∧ y = .int k ∧ Rd H l (.lst xs) ∧ -(2 ^ 63) ≤ k ∧ k < 2 ^ 63 ∧ xs.length * k.toNat ≤ sizeLine ∧
  ∀ p, H p = none → Q (.ref p) (upd H p (.lst (List.replicate k.toNat xs).flatten))
theorem op_repR : OpR X (binaryOp .Mult) rRepR := by
  intro pins s σ H x y v u Q I rx ry h
  obtain ⟨l, k, xs, rfl, rfl, hH, h1, h2, hz, q⟩ := h
  cases rx
  obtain ⟨t, rfl⟩ := ry
  obtain ⟨z, its, n, r, hl, e⟩ := lstR I hH
  have hlen : its.toArray.size * k.toNat ≤ sizeLine := by rw [List.size_toArray, ← hl]; exact hz
  have hcap : ¬ its.toArray.size * k.toNat > (2 ^ 63 - 1) / 8 := by
    have : (sizeLine : Nat) ≤ (2 ^ 63 - 1) / 8 := by decide
    omega
  have hfit : ¬ (!Builtin.List.listFitsIndex k) = true := by
    rw [fitsIndex_both h1 h2]
    exact Bool.false_ne_true
  have hlong : ¬ Builtin.List.listTooLong (its.toArray.size * k.toNat) = true := by
    rw [notLongL hlen]
    exact Bool.false_ne_true
  have hnew : List.foldl (fun x1 x2 => x1 ++ x2) #[] (List.replicate (if its.toArray.isEmpty = true then 0 else k.toNat) its.toArray) = (List.replicate k.toNat its).flatten.toArray := by
    have f0 : ∀ m : Nat, List.foldl (fun x1 x2 => x1 ++ x2) #[] (List.replicate m its.toArray) = (List.replicate m its).flatten.toArray := fun m => by
      have := foldl_rep its m []
      rw [List.nil_append] at this
      exact this
    rw [f0]
    cases its with
    | nil => simp
    | cons a r' => rw [if_neg (by simp)]
  refine wpAny_binaryOp_repeat_ref (T := "list") (U := "int") (by decide) ⟨_, e, rfl⟩ (fun s' => typeIs_int s' k t) noFill_list_mul F.fills_int_mul F.slot_int_rmul repeat_list F.slot_int_index.lookup
    (call_meets F.slot_int_rmul (typeIs_int s k t) F.entry_int_rmul (F.args_int_rmul_2 _ _) (int___rmul___int_list k t l its.toArray n)
      ⟨e, rfl, ⟨_, e, rfl⟩, call_meets F.slot_list_mul ⟨_, e, rfl⟩ F.entry_list_mul (F.args_list_mul_2 _ _) (AutoListH.list___mul___list_int_3 l its.toArray n k t hfit hcap hlong) ⟨e, ?_⟩⟩)
  rw [hnew]
  exact ⟨.ref _, _, I.lnew (t' := s.toks) (r.rep k.toNat) (by rw [PyProof.Rows.lm_len_rep_flat, Nat.mul_comm]; exact hz), rfl, q _ I.fresh⟩
def rExtR : V → List V → Hp → VK → Prop := fun x vs H Q => ∃ l b xs zs, x = .ref l ∧ vs = [.ref b] ∧ H l = some (.lst xs) ∧ Rd H b (.lst zs) ∧ xs.length + zs.length ≤ sizeLine ∧ Q .non (upd H l (.lst (xs ++ zs)))
theorem mt_extR : MtM X "list.extend" rExtR := by
  intro pins s σ H x vs v us Q I rx rv h
  obtain ⟨l, b, xs, zs, rfl, rfl, hH, hB, hz, q⟩ := h
  cases rx
  obtain ⟨u, rfl, ru⟩ := rv.one
  cases ru
  obtain ⟨z, its, n, r, hl, e⟩ := I.lstM hH
  obtain ⟨z2, its2, n2, r2, hl2, e2⟩ := lstR I hB
  have hsz : its.toArray.size + its2.toArray.size ≤ sizeLine := by rw [List.size_toArray, List.size_toArray]; omega
  have hlong : ¬ (!its.toArray.isEmpty && Builtin.List.listTooLong (its.toArray.size + its2.toArray.size)) = true := by
    rw [notLongL hsz, Bool.and_false]
    exact Bool.false_ne_true
  refine call_meets F.slot_list_extend ⟨_, e, rfl⟩ F.entry_list_extend (F.args_list_extend_2 _ _)
    (AutoSeq1.list_extend_list_list_0 l its.toArray n b its2.toArray n2 hlong (by rw [List.size_toArray]; omega) (by omega)) ⟨e, e2, ?_⟩
  refine ⟨.non, _, I.lset (its' := its ++ its2) hH e (by simp) (r.append r2) ?_, rfl, q⟩
  rw [List.length_append]
  omega
/-- a locked thing, seen unlocked -/
theorem thaw {H : Hp} {P : Program} {w : World} {h : Heap} {d : Addr} {od : Obj} {u : HO} (ok : HOk P w H h) (e : H d = some (.frz od u)) : HOk P w (upd H d u) h := fun b o q => by
  have neH : ∀ b o, H b = some o → (∀ o' u', o ≠ .frz o' u') → b ≠ d := fun b o e' hne z => by
    rw [z, e] at e'
    cases e'
    exact hne _ _ rfl
  by_cases hb : b = d
  · rw [hb, upd_same] at q
    cases q
    rw [hb]
    obtain ⟨_, x⟩ := ok d _ e
    exact x.stay (fun c v _ q => q) (fun c q => by rw [upd_ne (neH c _ q (fun _ _ z => nomatch z))]; exact q) fun c xs q => by rw [upd_ne (neH c _ q (fun _ _ z => nomatch z))]; exact q
  · rw [upd_ne hb] at q
    exact (ok b o q).stay (fun c v _ q => q) (fun c q => by rw [upd_ne (neH c _ q (fun _ _ z => nomatch z))]; exact q) fun c xs q => by rw [upd_ne (neH c _ q (fun _ _ z => nomatch z))]; exact q
theorem ins_getR {H : Hp} {P : Program} {w : World} {h : Heap} {a C dx : Addr} {fs : List (Str × V)} (hok : HOk P w H h) (e : Rd H a (.ins C dx fs)) : ∃ mA, ObjM h a dx C mA ∧ (∀ f, RelO (fs.lookup f) (mA f)) ∧ PySem.Within mA (fs.map (·.1)) := by
  rcases e with e | ⟨od, e⟩
  · obtain ⟨mA, a1, a2, a3, _⟩ := ins_get hok e
    exact ⟨mA, a1, a2, a3⟩
  · obtain ⟨mA, a1, a2, a3, _⟩ := ins_get (thaw hok e) upd_same
    exact ⟨mA, a1, a2, a3⟩
def tFldR (K : PySem.W.Frag) (ta : TE) (f : Str) : TE := fun σ H Q => ta σ H fun x H1 => ∃ a C dx fs v, x = .ref a ∧ Rd H1 a (.ins C dx fs) ∧ Cls K C ∧ NoAttr K C f ∧ fs.lookup f = some v ∧ Q v H1
theorem pe_fldR {e : Expr} {ta : TE} {f : Str} {pos : Pos} (he : PE X e ta) (hb : attributeBase e f X.env (eval e X.env) = eval e X.env) : PE X (.Attribute e f pos) (tFldR X.K ta f) := by
  refine ⟨fun pins s σ H Q I h => ?_⟩
  refine attr_of hb (thn (he.run pins s σ H _ I h) fun u s1 ⟨x, H1, I1, rx, a, C, dx, fs, v, ex, ea, c, n, l, q⟩ => ?_)
  subst ex
  obtain rfl : u = Value.ref a := rx
  obtain ⟨mA, O, r, _⟩ := ins_getR I1.hok ea
  obtain ⟨u', hu, ru⟩ := RelO.some_of (v := v) (o := mA f) (by rw [← l]; exact r f)
  exact get_map I1.kIn O (c.get f) c.hd n hu (handed_of ru) ⟨v, H1, I1.tok _, ru, q⟩
end
end Z

/-! values for good, by data -/
namespace Z
open PySem PySem.Spec PyProof.Rows L2
/-! ### heaps less one -/
def del (L : Lp) (a : Addr) : Lp := fun b => if b = a then none else L b
theorem del_same {L : Lp} {a : Addr} : del L a a = none := if_pos rfl
theorem del_ne {L : Lp} {a b : Addr} (h : b ≠ a) : del L a b = L b := if_neg h
theorem del_up {L : Lp} {a : Addr} {o : O} : del (up L a o) a = del L a := by
  funext b
  by_cases h : b = a
  · subst h; rw [del_same, del_same]
  · rw [del_ne h, del_ne h, up_ne h]
theorem del_no {L : Lp} {a : Addr} (h : L a = none) : del L a = L := by
  funext b
  by_cases e : b = a
  · subst e; rw [del_same, h]
  · rw [del_ne e]
theorem del_upn {L : Lp} {a : Addr} {o : O} (h : L a = none) : del (up L a o) a = L := by rw [del_up, del_no h]
theorem up_del {L : Lp} {a : Addr} {o : O} (h : L a = some o) : up (del L a) a o = L := by
  funext b
  by_cases e : b = a
  · subst e; rw [up_same, h]
  · rw [up_ne e, del_ne e]
theorem Le.del {L : Lp} {a : Addr} : Le (del L a) L := fun b o e => by
  by_cases h : b = a
  · subst h; rw [del_same] at e; cases e
  · rw [del_ne h] at e; exact e
theorem RelFs.of {K : PySem.W.Frag} {H : Hp} : ∀ {fs : List (Str × D)} {gs : List (Str × V)}, RelK K H fs gs → RelFs K H fs gs
  | _, _, .nil => .nil
  | (p, d) :: _, (q, v) :: _, .cons h r => by
    obtain ⟨h1, h2⟩ := h
    have h1 : p = q := h1
    subst h1
    exact .cons h2 (RelFs.of r)
theorem RelFs.k {K : PySem.W.Frag} {H : Hp} : ∀ {fs : List (Str × D)} {gs : List (Str × V)}, RelFs K H fs gs → RelK K H fs gs
  | _, _, .nil => .nil
  | _, _, .cons h r => .cons ⟨rfl, h⟩ (RelFs.k r)
theorem RepH.hid2 {K : PySem.W.Frag} {H : Hp} {L : Lp} {p : Addr} {u : HO} (h : RepH K H L) (n : L p = none) (k : Kp H (upd H p u)) (hx : ¬ isFix (H p)) : RepH K (upd H p u) L := fun a o e =>
  (h a o e).upd (fun z => by subst z; rw [n] at e; cases e) k fun φ z => hx (by rw [z]; exact trivial)
theorem RepH.frz {K : PySem.W.Frag} {H : Hp} {L : Lp} {p : Addr} {u : HO} (h : RepH K H L) (hx : ¬ isFix (H p)) : RepH K (upd H p u) (del L p) := RepH.hid2 (h.le Le.del) del_same (Kp.upd hx) hx
/-! ### freezing -/
abbrev PostD (K : PySem.W.Frag) (H : Hp) (Q' : VK') (Q : VK) : Prop := ∀ d1 L1 v1 H1, Q' d1 L1 → Kp H H1 → RepH K H1 L1 → RelD K H1 d1 v1 → Q v1 H1
def frzK (d : D) (L : Lp) (Q : VK') : Prop := match d with
  | .ref a => (match L a with
    | some (.lst ds) => Q (.ilst ds) (del L a)
    | some (.ins C fs) => Q (.obj C fs) (del L a)
    | _ => False)
  | d => Q d L
theorem frzK_lst {L : Lp} {a : Addr} {ds : List D} {Q : VK'} (h : L a = some (.lst ds)) : frzK (.ref a) L Q = Q (.ilst ds) (del L a) := by
  unfold frzK; simp only [h]
theorem frzK_ins {L : Lp} {a C : Addr} {fs : List (Str × D)} {Q : VK'} (h : L a = some (.ins C fs)) : frzK (.ref a) L Q = Q (.obj C fs) (del L a) := by
  unfold frzK; simp only [h]
theorem frz_rel {K : PySem.W.Frag} {H : Hp} {L : Lp} {d : D} {v : V} {Q' : VK'} {Q : VK} (rd : RelD K H d v) (rh : RepH K H L) (q : frzK d L Q') (k : PostD K H Q' Q) : frzQ Q v H := by
  cases d with
  | ref a =>
    cases rd
    cases e : L a with
    | none => unfold frzK at q; simp only [e] at q
    | some o =>
      cases o with
      | lst ds =>
        rw [frzK_lst e] at q
        obtain ⟨vs, e2, r⟩ := rh _ _ e
        refine .inr ⟨a, _, e2, trivial, fun od => ?_⟩
        have nf : ¬ isFix (H a) := by rw [e2]; exact id
        have kp : Kp H (upd H a (.frz od (.lst vs))) := Kp.upd nf
        exact k _ _ _ _ q kp (rh.frz nf) (.ilst ⟨od, upd_same⟩ (r.mono kp))
      | ins C fs =>
        rw [frzK_ins e] at q
        obtain ⟨dx, gs, e2, r⟩ := rh _ _ e
        refine .inr ⟨a, _, e2, trivial, fun od => ?_⟩
        have nf : ¬ isFix (H a) := by rw [e2]; exact id
        have kp : Kp H (upd H a (.frz od (.ins C dx gs))) := Kp.upd nf
        exact k _ _ _ _ q kp (rh.frz nf) (.obj upd_same (RelFs.mono kp (RelFs.of r)))
      | dT kvs => unfold frzK at q; simp only [e] at q
      | dK kvs => unfold frzK at q; simp only [e] at q
      | tab t => unfold frzK at q; simp only [e] at q
      | xd fs => unfold frzK at q; simp only [e] at q
  | _ => exact .inl (k _ L _ H q (Kp.refl H) rh rd)
/-- a new list, frozen at once -/
theorem frz_lst {K : PySem.W.Frag} {H : Hp} {L : Lp} {p : Addr} {ds : List D} {vs : List V} {Q' : VK'} {Q : VK} (rh : RepH K H L) (np : H p = none) (r : RelDs K H ds vs) (q : Q' (.ilst ds) L) (k : PostD K H Q' Q) : frzQ Q (.ref p) (upd H p (.lst vs)) := by
  refine .inr ⟨p, _, upd_same, trivial, fun od => ?_⟩
  rw [upd_upd]
  exact k _ _ _ _ q (Kp.new np) (rh.hid np) (.ilst ⟨od, upd_same⟩ (r.mono (Kp.new np)))
def wFz (t : TE') : TE' := fun τ L Q => t τ L fun d L1 => frzK d L1 Q
theorem wFz_e {t : TE'} {τ : S'} {L : Lp} {Q : VK'} : wFz t τ L Q = t τ L fun d L1 => frzK d L1 Q := rfl
def wFg (t : TE') : TE' := fun τ L Q => t τ L fun d L1 => Dn (Q d) L1
theorem wFg_e {t : TE'} {τ : S'} {L : Lp} {Q : VK'} : wFg t τ L Q = t τ L fun d L1 => Dn (Q d) L1 := rfl
section
variable {X : Cx}
theorem q_fz {e : Expr} {t : TE'} (h : QE X e t) : QE X e (wFz t) := PE.str (pe_frz h) fun σ H Q h => by
  obtain ⟨τ, L, Q', a, b, c, k⟩ := h
  exact ⟨τ, L, _, a, b, c, fun d L1 v H1 q kp rh rd => frz_rel rd rh q fun d2 L2 v2 H2 q2 kp2 => k d2 L2 v2 H2 q2 (kp.trans kp2)⟩
/-- less is known from here on -/
theorem q_fg {e : Expr} {t : TE'} (h : QE X e t) : QE X e (wFg t) := PE.str h fun σ H Q h => by
  obtain ⟨τ, L, Q', a, b, c, k⟩ := h
  exact ⟨τ, L, _, a, b, c, fun d L1 v H1 ⟨L2, l, q⟩ kp rh rd => k d L2 v H1 q kp (rh.le l) rd⟩
def wLstF (t : TA') : TE' := fun τ L Q => t τ L fun ds L1 => Q (.ilst ds) L1
theorem wLstF_e {t : TA'} {τ : S'} {L : Lp} {Q : VK'} : wLstF t τ L Q = t τ L fun ds L1 => Q (.ilst ds) L1 := rfl
theorem q_lstF {es : List Expr} {pos} {t : TA'} (h : QA X es t) (hz : Nat.ble es.length 1000 = true := by rfl) : QE X (.List es pos) (wLstF t) := PE.str (pe_frz (pe_lst h)) fun σ H Q h => by
  obtain ⟨τ, L, Q', a, b, c, k⟩ := h
  refine ⟨τ, L, _, a, b, c, fun ds L1 vs H1 q hl kp rh rd => ⟨?_, fun p np => ?_⟩⟩
  · rw [← rd.length, hl]
    exact Nat.le_of_lt (small1000 (Nat.le_of_ble_eq_true hz))
  · exact frz_lst rh np rd q fun d2 L2 v2 H2 q2 kp2 => k d2 L2 v2 H2 q2 (kp.trans kp2)
/-! operators, built-ins that freeze -/
def LR2F (K : PySem.W.Frag) (r' : R2') (r : R2) : Prop := LR2 K r' fun v u H Q => r v u H (frzQ Q)
theorem q_opF {op : Operator} {r : R2} {r' : R2'} {a b : Expr} {pos} {ta tb : TE'} (ho : OpR X (binaryOp op) r) (hr : LR2F X.K r' r) (ha : QE X a ta) (hb : QE X b tb) : QE X (.BinOp a op b pos) (wOp r' ta tb) := PE.str (pe_frz (pe_op ho ha hb)) fun σ H Q h => tOp_l (r := fun v u H Q => r v u H (frzQ Q)) hr σ H Q h
def LRAF (K : PySem.W.Frag) (r' : RA') (r : List V → Hp → VK → Prop) : Prop := LRA K r' fun vs H Q => r vs H (frzQ Q)
theorem q_cbF {id : String} {x : Str} {e : Expr} {es : List Expr} {p pos : Pos} {t : TA'} {r : List V → Hp → VK → Prop} {r' : RA'} (hc : CallR X (.builtin id) r) (hr : LRAF X.K r' r) (hg : Gl X x) (hm : X.mg x = none) (hv : bootBuiltins x = some (.builtin id)) (ha : QA X (e :: es) t)
    (hn : x ≠ "__name__" := by decide) (hdb : (x == ("__debug__" : Str)) = false := by decide)
    (he : starEach (e :: es) X.env = (false, eval e X.env) :: starEach es X.env := by rfl) (hpl : (backTo pos (starEach es X.env)).any (·.1) = false := by rfl) : QE X (.Call (.Name x p) (e :: es) [] pos) (wCB r' t) :=
  PE.str (pe_frz (pe_callB hc hg hm hv ha hn hdb he hpl)) fun σ H Q h => tCB_l (r := fun vs H Q => r vs H (frzQ Q)) hr σ H Q h
theorem q_ctyF {T : String} {x : Str} {e : Expr} {es : List Expr} {p pos : Pos} {t : TA'} {r : List V → Hp → VK → Prop} {r' : RA'} (hc : CallR X (.type T) r) (hr : LRAF X.K r' r) (hg : Gl X x) (hm : X.mg x = none) (hv : bootBuiltins x = some (.type T)) (ha : QA X (e :: es) t)
    (hn : x ≠ "__name__" := by decide) (hdb : (x == ("__debug__" : Str)) = false := by decide)
    (he : starEach (e :: es) X.env = (false, eval e X.env) :: starEach es X.env := by rfl) (hpl : (backTo pos (starEach es X.env)).any (·.1) = false := by rfl) : QE X (.Call (.Name x p) (e :: es) [] pos) (wCB r' t) :=
  PE.str (pe_frz (pe_callTy hc hg hm hv ha hn hdb he hpl)) fun σ H Q h => tCB_l (r := fun vs H Q => r vs H (frzQ Q)) hr σ H Q h
end
/-- a list's items -/
def seqL (d : D) (L : Lp) : Option (List D) := match d with
  | .ilst ds => some ds
  | .ref a => (match L a with
    | some (.lst ds) => some ds
    | _ => none)
  | _ => none
theorem seqL_ilst {ds : List D} {L : Lp} : seqL (.ilst ds) L = some ds := rfl
theorem seqL_ref {a : Addr} {ds : List D} {L : Lp} (h : L a = some (.lst ds)) : seqL (.ref a) L = some ds := by unfold seqL; simp only [h]
theorem seqL_rel {K : PySem.W.Frag} {H : Hp} {L : Lp} {d : D} {v : V} {ds : List D} (rh : RepH K H L) (rd : RelD K H d v) (e : seqL d L = some ds) : ∃ a vs, v = .ref a ∧ RelDs K H ds vs ∧ Rd H a (.lst vs) := by
  unfold seqL at e
  split at e
  · cases e
    cases rd with
    | ilst s r => exact ⟨_, _, rfl, r, .inr s⟩
  · cases rd
    split at e
    · cases e
      rename_i q
      obtain ⟨vs, e2, r⟩ := rh _ _ q
      exact ⟨_, vs, rfl, r, .inl e2⟩
    · cases e
  · cases e
theorem seqL_D {d : D} {L : Lp} {ds : List D} (e : seqL d L = some ds) : seqD d L = some ds := by
  unfold seqL at e
  unfold seqD
  split at e
  · exact e
  · exact e
  · cases e
def sq2 (o o' : Option (List D)) (P : List D → List D → Prop) : Prop := match o, o' with
  | some x, some y => P x y
  | _, _ => False
theorem sq2_some {x y : List D} {P : List D → List D → Prop} : sq2 (some x) (some y) P = P x y := rfl
def rAddR (K : PySem.W.Frag) : R2 := rOr (rI0 fun i j => .int (i + j)) (rOr rAddS (rOr (rCatA K) rCatR))
theorem o_addR {X : Cx} : OpR X (binaryOp .Add) (rAddR X.K) := OpR.or op_add (OpR.or op_add_str (OpR.or op_catA op_catR))
def addF : R2' := fun d e L Q => match d, e with
  | .int i, .int j => Q (.int (i + j)) L
  | .str a, .str b => a.length + b.length ≤ sizeLine ∧ Q (.str (a ++ b)) L
  | .tup as, .tup bs => as.length + bs.length ≤ sizeLine ∧ Q (.tup (as ++ bs)) L
  | d, e => sq2 (seqL d L) (seqL e L) fun xs ys => xs.length + ys.length ≤ sizeLine ∧ Q (.ilst (xs ++ ys)) L
theorem l_addF {K : PySem.W.Frag} : LR2F K addF (rAddR K) := fun d e L v u H Q Q' rd re rh q k => by
  have kk : PostD K H Q' (frzQ Q) := fun d1 L1 v1 H1 a b c d => .inl (k d1 L1 v1 H1 a b c d)
  unfold addF at q
  split at q
  · cases rd; cases re; exact .inl ⟨_, _, rfl, rfl, kk _ L _ H q (Kp.refl H) rh (.int _)⟩
  · cases rd; cases re; exact .inr (.inl ⟨_, _, rfl, rfl, q.1, kk _ L _ H q.2 (Kp.refl H) rh (.str _)⟩)
  · rename_i as bs
    cases rd with
    | tup h1 r1 =>
      cases re with
      | tup h2 r2 =>
        refine .inr (.inr (.inl ⟨_, _, _, _, rfl, rfl, .inl (.inl h1), .inl (.inl h2), by rw [← r1.length, ← r2.length]; exact q.1, fun e => ?_, fun _ e => ?_, fun _ _ p np => ?_⟩))
        · subst e
          cases r1
          exact kk _ L _ H q.2 (Kp.refl H) rh (.tup h2 r2)
        · subst e
          cases r2
          have q2 := q.2
          rw [List.append_nil] at q2
          exact kk _ L _ H q2 (Kp.refl H) rh (.tup h1 r1)
        · exact kk _ L _ _ q.2 (Kp.new np) (rh.hid np) (.tup upd_same ((r1.app r2).mono (Kp.new np)))
  · cases e1 : seqL d L with
    | none => rw [e1] at q; exact q.elim
    | some xs =>
      cases e2 : seqL e L with
      | none => rw [e1, e2] at q; exact q.elim
      | some ys =>
        rw [e1, e2, sq2_some] at q
        obtain ⟨a1, vs, rfl, r1, h1⟩ := seqL_rel rh rd e1
        obtain ⟨a2, us, rfl, r2, h2⟩ := seqL_rel rh re e2
        exact .inr (.inr (.inr ⟨_, _, _, _, rfl, rfl, h1, h2, by rw [← r1.length, ← r2.length]; exact q.1, fun p np => frz_lst rh np (r1.app r2) q.2 k⟩))
theorem addF_int {i j : Int} {L : Lp} {Q : VK'} : addF (.int i) (.int j) L Q = Q (.int (i + j)) L := rfl
theorem addF_str {a b : Str} {L : Lp} {Q : VK'} : addF (.str a) (.str b) L Q = (a.length + b.length ≤ sizeLine ∧ Q (.str (a ++ b)) L) := rfl
theorem addF_tup {as bs : List D} {L : Lp} {Q : VK'} : addF (.tup as) (.tup bs) L Q = (as.length + bs.length ≤ sizeLine ∧ Q (.tup (as ++ bs)) L) := rfl
theorem addF_l {as bs : List D} {L : Lp} {Q : VK'} : addF (.ilst as) (.ilst bs) L Q = (as.length + bs.length ≤ sizeLine ∧ Q (.ilst (as ++ bs)) L) := rfl
def rMulR : R2 := rOr (rI CMulW fun i j => .int (i * j)) rRepR
theorem o_mulR {X : Cx} : OpR X (binaryOp .Mult) rMulR := OpR.or op_mulW op_repR
def mulF : R2' := fun d e L Q => match d, e with
  | .int i, .int j => CMulW i j ∧ Q (.int (i * j)) L
  | d, .int k => sqK (seqL d L) fun xs => -(2 ^ 63) ≤ k ∧ k < 2 ^ 63 ∧ xs.length * k.toNat ≤ sizeLine ∧ Q (.ilst (List.replicate k.toNat xs).flatten) L
  | _, _ => False
theorem l_mulF {K : PySem.W.Frag} : LR2F K mulF rMulR := fun d e L v u H Q Q' rd re rh q k => by
  unfold mulF at q
  split at q
  · cases rd; cases re; exact .inl ⟨_, _, rfl, rfl, q.1, .inl (k _ L _ H q.2 (Kp.refl H) rh (.int _))⟩
  · cases e1 : seqL d L with
    | none => rw [e1] at q; exact q.elim
    | some xs =>
      rw [e1, sqK_some] at q
      obtain ⟨z1, z2, z3, q⟩ := q
      obtain ⟨a1, vs, rfl, r1, h1⟩ := seqL_rel rh rd e1
      cases re
      exact .inr ⟨_, _, vs, rfl, rfl, h1, z1, z2, by rw [← r1.length]; exact z3, fun p np => frz_lst rh np (r1.rep _) q k⟩
  · exact q.elim
theorem mulF_int {i j : Int} {L : Lp} {Q : VK'} : mulF (.int i) (.int j) L Q = (CMulW i j ∧ Q (.int (i * j)) L) := rfl
theorem mulF_l {xs : List D} {k : Int} {L : Lp} {Q : VK'} : mulF (.ilst xs) (.int k) L Q = (-(2 ^ 63) ≤ k ∧ k < 2 ^ 63 ∧ xs.length * k.toNat ≤ sizeLine ∧ Q (.ilst (List.replicate k.toNat xs).flatten) L) := rfl
/-! slices -/
def slF (d : D) (lo hi : Option Int) (L : Lp) (Q : VK') : Prop := match d with
  | .tup ds => Q (.tup (cutD ds lo hi)) L
  | .str z => z.length ≤ sizeLine ∧ Q (.str (cutS z lo hi)) L
  | .scr ns => Q (.ilst (cutD (ns.map D.int) lo hi)) L
  | d => sqK (seqL d L) fun ds => Q (.ilst (cutD ds lo hi)) L
theorem slF_tup {ds : List D} {lo hi : Option Int} {L : Lp} {Q : VK'} : slF (.tup ds) lo hi L Q = Q (.tup (cutD ds lo hi)) L := rfl
theorem slF_str {z : Str} {lo hi : Option Int} {L : Lp} {Q : VK'} : slF (.str z) lo hi L Q = (z.length ≤ sizeLine ∧ Q (.str (cutS z lo hi)) L) := rfl
theorem slF_scr {ns : List Int} {lo hi : Option Int} {L : Lp} {Q : VK'} : slF (.scr ns) lo hi L Q = Q (.ilst (cutD (ns.map D.int) lo hi)) L := rfl
theorem slF_l {ds : List D} {lo hi : Option Int} {L : Lp} {Q : VK'} : slF (.ilst ds) lo hi L Q = Q (.ilst (cutD ds lo hi)) L := rfl
theorem slF_ref {a : Addr} {lo hi : Option Int} {L : Lp} {Q : VK'} : slF (.ref a) lo hi L Q = sqK (seqL (.ref a) L) fun ds => Q (.ilst (cutD ds lo hi)) L := rfl
def wSlF (te : TE') (tl th : TO') : TE' := fun τ L Q => te τ L fun d L1 => tl τ L1 fun l L2 => th τ L2 fun u L3 => slF d l u L3 Q
theorem wSlF_e {te : TE'} {tl th : TO'} {τ : S'} {L : Lp} {Q : VK'} : wSlF te tl th τ L Q = te τ L fun d L1 => tl τ L1 fun l L2 => th τ L2 fun u L3 => slF d l u L3 Q := rfl
section
variable {X : Cx}
theorem q_slF {e : Expr} {lo hi : Option Expr} {p2 pos} {te : TE'} {tl th : TO'} (he : QE X e te) (hl : QO X lo tl) (hu : QO X hi th) : QE X (.Subscript e (.Slice lo hi none p2) pos) (wSlF te tl th) := PE.str (pe_frz (pe_slice sl_G he hl hu)) fun σ H Q h => by
  obtain ⟨τ, L, Q', a, b, c, k⟩ := h
  refine ⟨τ, L, _, a, b, c, fun d L1 v H1 q kp rh rd => ?_⟩
  refine ⟨τ, L1, _, a.mono kp, rh, q, fun l L2 H2 q2 kp2 rh2 => ?_⟩
  refine ⟨τ, L2, _, a.mono (kp.trans kp2), rh2, q2, fun u L3 H3 q3 kp3 rh3 => ?_⟩
  have rd3 := rd.mono (kp2.trans kp3)
  have kp4 := (kp.trans kp2).trans kp3
  have k4 : PostD X.K H3 Q' Q := fun d2 L2 v2 H2 q2 kp2 => k d2 L2 v2 H2 q2 (kp4.trans kp2)
  unfold slF at q3
  split at q3
  · rename_i ds
    cases rd3 with
    | tup s r =>
      refine .inl ⟨_, _, rfl, .inl (.inl s), fun e => ?_, fun _ p np => ?_⟩
      · have e1 : cutD ds l u = ds := by
          unfold cutD
          rw [r.length, e.1, e.2, ← r.length]
          simp
        rw [e1] at q3
        exact .inl (k4 _ L3 _ H3 q3 (Kp.refl _) rh3 (.tup s r))
      · exact .inl (k4 _ L3 _ _ q3 (Kp.new np) (rh3.hid np) (.tup upd_same ((r.cut l u).mono (Kp.new np))))
  · cases rd3
    exact .inr (.inr ⟨_, rfl, q3.1, .inl (k4 _ L3 _ H3 q3.2 (Kp.refl _) rh3 (.str _))⟩)
  · cases rd3 with
    | scr hs => exact .inr (.inl ⟨_, _, rfl, hs H3, fun p np => frz_lst rh3 np ((RelDs.of_ints _).cut l u) q3 k4⟩)
  · cases e1 : seqL d L3 with
    | none => rw [e1] at q3; exact q3.elim
    | some ds =>
      rw [e1, sqK_some] at q3
      obtain ⟨a1, vs, rfl, r1, h1⟩ := seqL_rel rh3 rd3 e1
      exact .inr (.inl ⟨_, _, rfl, .inl h1, fun p np => frz_lst rh3 np (r1.cut l u) q3 k4⟩)
end
/-! list(x), sorted(x), sum, all -/
def listF : RA' := fun ds L Q => match ds with
  | [d] => sqK (seqD d L) fun xs => Q (.ilst xs) L
  | _ => False
theorem listF_eq {d : D} {L : Lp} {Q : VK'} : listF [d] L Q = sqK (seqD d L) fun xs => Q (.ilst xs) L := rfl
theorem l_listF {K : PySem.W.Frag} : LRAF K listF (fun xs H Q => ∃ p ys, xs = [.ref p] ∧ (SqL K H p ys ∨ SqT K H p ys) ∧ ∀ l, H l = none → Q (.ref l) (upd H l (.lst ys))) := fun ds L vs H Q Q' rd rh q k => by
  unfold listF at q
  split at q
  · rename_i d
    cases rd with
    | cons r1 r2 =>
      cases r2
      cases es : seqD d L with
      | none => rw [es] at q; exact q.elim
      | some xs =>
        simp only [es, sqK] at q
        obtain ⟨a, ws, rfl, r, s⟩ := seqD_rel rh r1 es
        exact ⟨a, ws, rfl, s, fun p np => frz_lst rh np r q k⟩
  · exact q.elim
def listdF : RA' := fun ds L Q => match ds with
  | [.ref a] => ∃ kvs, L a = some (.dT kvs) ∧ Q (.ilst (kvs.map fun kv => .tup (kv.1.map kD))) L
  | _ => False
theorem listdF_eq {a : Addr} {L : Lp} {Q : VK'} : listdF [.ref a] L Q = ∃ kvs, L a = some (.dT kvs) ∧ Q (.ilst (kvs.map fun kv => .tup (kv.1.map kD))) L := rfl
theorem l_listdF {K : PySem.W.Frag} : LRAF K listdF (fun xs H Q => ∃ d kvs, xs = [V.ref d] ∧ Rd H d (.dT kvs) ∧ ∀ p bs, H p = none → IsKeys H kvs bs → Q (.ref p) (upd H p (.lst (bs.map V.ref)))) := fun ds L vs H Q Q' rd rh q k => by
  unfold listdF at q
  split at q
  · cases rd with
    | cons r1 r2 =>
      cases r1; cases r2
      obtain ⟨kvs, e, q⟩ := q
      obtain ⟨ws, e2, r⟩ := rh _ _ e
      exact ⟨_, ws, rfl, .inl e2, fun p bs np ik => frz_lst rh np (keys_rel r ik) q k⟩
  · exact q.elim
def sortedF : RA' := fun ds L Q => match ds with
  | [d] => ∃ ns : List Int, seqL d L = some (ns.map D.int) ∧ ∀ ms : List Int, ms.Perm ns → ms.Pairwise (· ≤ ·) → Q (.ilst (ms.map D.int)) L
  | _ => False
theorem sortedF_eq {d : D} {L : Lp} {Q : VK'} : sortedF [d] L Q = ∃ ns : List Int, seqL d L = some (ns.map D.int) ∧ ∀ ms : List Int, ms.Perm ns → ms.Pairwise (· ≤ ·) → Q (.ilst (ms.map D.int)) L := rfl
theorem l_sortedF {K : PySem.W.Frag} : LRAF K sortedF (rSortedI K) := fun ds L vs H Q Q' rd rh q k => by
  unfold sortedF at q
  split at q
  · cases rd with
    | cons r1 r2 =>
      cases r2
      obtain ⟨ns, e, q⟩ := q
      obtain ⟨a, ws, rfl, r, h⟩ := seqL_rel rh r1 e
      have e3 := r.ints
      subst e3
      exact ⟨_, ns, rfl, .inl h, fun ms p h1 h2 np => frz_lst rh np (RelDs.of_ints ms) (q ms h1 h2) k⟩
  · exact q.elim
def allF (f : List Bool → Bool) : RA' := fun ds L Q => match ds with
  | [d] => ∃ bs : List Bool, seqL d L = some (bs.map D.bl) ∧ Q (.bl (f bs)) L
  | _ => False
theorem allF_eq {f : List Bool → Bool} {d : D} {L : Lp} {Q : VK'} : allF f [d] L Q = ∃ bs : List Bool, seqL d L = some (bs.map D.bl) ∧ Q (.bl (f bs)) L := rfl
theorem l_allF {K : PySem.W.Frag} : LRA K (allF fun bs => bs.all id) (rAll K) := fun ds L vs H Q Q' rd rh q k => by
  unfold allF at q
  split at q
  · cases rd with
    | cons r1 r2 =>
      cases r2
      obtain ⟨bs, e, q⟩ := q
      obtain ⟨a, ws, rfl, r, h⟩ := seqL_rel rh r1 e
      have e3 := r.bls
      subst e3
      exact ⟨_, bs, rfl, .inl h, k _ L _ H q (Kp.refl H) rh (.bl _)⟩
  · exact q.elim
theorem l_anyF {K : PySem.W.Frag} : LRA K (allF fun bs => bs.any id) (rAny K) := fun ds L vs H Q Q' rd rh q k => by
  unfold allF at q
  split at q
  · cases rd with
    | cons r1 r2 =>
      cases r2
      obtain ⟨bs, e, q⟩ := q
      obtain ⟨a, ws, rfl, r, h⟩ := seqL_rel rh r1 e
      have e3 := r.bls
      subst e3
      exact ⟨_, bs, rfl, .inl h, k _ L _ H q (Kp.refl H) rh (.bl _)⟩
  · exact q.elim
def sumF : RA' := fun ds L Q => match ds with
  | [d] => ∃ ns : List Int, seqL d L = some (ns.map D.int) ∧ Q (.int ns.sum) L
  | _ => False
theorem sumF_eq {d : D} {L : Lp} {Q : VK'} : sumF [d] L Q = ∃ ns : List Int, seqL d L = some (ns.map D.int) ∧ Q (.int ns.sum) L := rfl
theorem l_sumF {K : PySem.W.Frag} : LRA K sumF (rSum K) := fun ds L vs H Q Q' rd rh q k => by
  unfold sumF at q
  split at q
  · cases rd with
    | cons r1 r2 =>
      cases r2
      obtain ⟨bs, e, q⟩ := q
      obtain ⟨a, ws, rfl, r, h⟩ := seqL_rel rh r1 e
      have e3 := r.ints
      subst e3
      exact ⟨_, bs, rfl, .inl h, k _ L _ H q (Kp.refl H) rh (.int _)⟩
  · exact q.elim
/-! extend -/
def rExtG : V → List V → Hp → VK → Prop := fun x vs H Q => rExtR x vs H Q ∨ rExtT x vs H Q
theorem mt_extG {X : Cx} : MtM X "list.extend" rExtG := fun pins s σ H x vs v us Q I rx rv h => h.elim (mt_extR pins s σ H x vs v us Q I rx rv) (mt_extT pins s σ H x vs v us Q I rx rv)
def extF : RM' := fun d ds L Q => match d, ds with
  | .ref a, [e] => ∃ xs ys, L a = some (.lst xs) ∧ seqD e L = some ys ∧ xs.length + ys.length ≤ sizeLine ∧ Q .non (up L a (.lst (xs ++ ys)))
  | _, _ => False
theorem extF_eq {a : Addr} {e : D} {L : Lp} {Q : VK'} : extF (.ref a) [e] L Q = ∃ xs ys, L a = some (.lst xs) ∧ seqD e L = some ys ∧ xs.length + ys.length ≤ sizeLine ∧ Q .non (up L a (.lst (xs ++ ys))) := rfl
theorem l_extF {K : PySem.W.Frag} : LRM K "list" extF rExtG := fun d ds L v vs H Q Q' rd rds rh q k => by
  unfold extF at q
  split at q
  · rename_i a e
    obtain ⟨xs, ys, e1, es, z, q⟩ := q
    obtain ⟨ws, e2, r⟩ := rh _ _ e1
    cases rd
    cases rds with
    | cons r1 r2 =>
      cases r2
      cases e with
      | tup ds =>
        cases es
        cases r1 with
        | tup hb s =>
          obtain ⟨kp, rh2⟩ := put_lst rh e2 (r.app s)
          exact .inr ⟨a, _, ws, _, rfl, rfl, e2, hb, by rw [← r.length, ← s.length]; exact z, k _ _ _ _ q kp rh2 .non⟩
      | ilst ds =>
        obtain ⟨b, us, rfl, s, hb⟩ := seqL_rel rh r1 (show seqL (.ilst ds) L = some ys from es)
        obtain ⟨kp, rh2⟩ := put_lst rh e2 (r.app s)
        exact .inl ⟨a, _, ws, _, rfl, rfl, e2, hb, by rw [← r.length, ← s.length]; exact z, k _ _ _ _ q kp rh2 .non⟩
      | ref c =>
        obtain ⟨b, us, rfl, s, hb⟩ := seqL_rel rh r1 (show seqL (.ref c) L = some ys from es)
        obtain ⟨kp, rh2⟩ := put_lst rh e2 (r.app s)
        exact .inl ⟨a, _, ws, _, rfl, rfl, e2, hb, by rw [← r.length, ← s.length]; exact z, k _ _ _ _ q kp rh2 .non⟩
      | _ => cases es
  · exact q.elim
/-! enumerate -/
def enF (d : D) (L1 : Lp) (R : List D → (Lp → Prop) → Lp → Prop) : Prop := sqK (seqL d L1) fun ds => R (enD 0 ds) (fun L => seqL d L = some ds) L1
def vEnumF (t : TE') : TI' := fun τ L R => t τ L fun d L1 => enF d L1 R
theorem vEnumF_e {t : TE'} {τ : S'} {L : Lp} {R : List D → (Lp → Prop) → Lp → Prop} : vEnumF t τ L R = t τ L fun d L1 => enF d L1 R := rfl
theorem enF_l {ds : List D} {L : Lp} {R : List D → (Lp → Prop) → Lp → Prop} : enF (.ilst ds) L R = R (enD 0 ds) (fun _ => some ds = some ds) L := rfl
theorem i_enumF {X : Cx} {e : Expr} {t : TE'} {p pos tpos : Pos} {elts : List Expr} {kk : Nat} (ha : QE X e t) (hg : Gl X "enumerate") (hm : X.mg "enumerate" = none) (hs : starEach [e] X.env = [(false, eval e X.env)] := by rfl) :
    QI X (.Tuple elts kk tpos) (.Call (.Name "enumerate" p) [e] [] pos) (vEnumF t) := PI.str (pi_enum hg hm (pa_cons ha pa_nil hs) hs) fun σ H R h => by
  obtain ⟨τ, L, R', a, b, c, k⟩ := h
  refine ⟨τ, L, _, a, b, c, fun d L1 v H1 q kp rh rd => ?_⟩
  unfold enF at q
  cases es : seqL d L1 with
  | none => rw [es] at q; exact q.elim
  | some ds =>
    rw [es, sqK_some] at q
    obtain ⟨p, vs, rfl, r, h⟩ := seqL_rel rh rd es
    exact ⟨_, vs, rfl, .inl h, k _ _ L1 _ H1 q kp rh (itOk_e _ fun H L k2 rh2 e3 => by
      obtain ⟨b2, ws, e4, r4, h4⟩ := seqL_rel rh2 (rd.mono k2) e3
      cases e4
      exact ⟨ws, .inl h4, r4⟩)⟩
/-! attributes -/
def fldF (K : PySem.W.Frag) (d : D) (f : Str) (L : Lp) (Q : D → Prop) : Prop := match d with
  | .obj C fs => Cls K C ∧ NoAttr K C f ∧ ∃ v, fs.lookup f = some v ∧ Q v
  | .ref a => ∃ C fs v, L a = some (.ins C fs) ∧ Cls K C ∧ NoAttr K C f ∧ fs.lookup f = some v ∧ Q v
  | _ => False
theorem fldF_obj {K : PySem.W.Frag} {C : Addr} {fs : List (Str × D)} {f : Str} {L : Lp} {Q : D → Prop} : fldF K (.obj C fs) f L Q = (Cls K C ∧ NoAttr K C f ∧ ∃ v, fs.lookup f = some v ∧ Q v) := rfl
theorem fldF_ref {K : PySem.W.Frag} {a : Addr} {f : Str} {L : Lp} {Q : D → Prop} : fldF K (.ref a) f L Q = ∃ C fs v, L a = some (.ins C fs) ∧ Cls K C ∧ NoAttr K C f ∧ fs.lookup f = some v ∧ Q v := rfl
def wFldF (K : PySem.W.Frag) (t : TE') (f : Str) : TE' := fun τ L Q => t τ L fun d L1 => fldF K d f L1 fun v => Q v L1
theorem wFldF_e {K : PySem.W.Frag} {t : TE'} {f : Str} {τ : S'} {L : Lp} {Q : VK'} : wFldF K t f τ L Q = t τ L fun d L1 => fldF K d f L1 fun v => Q v L1 := rfl
theorem q_fldF {X : Cx} {e : Expr} {f : Str} {pos : Pos} {t : TE'} (he : QE X e t) (hb : attributeBase e f X.env (eval e X.env) = eval e X.env := by rfl) : QE X (.Attribute e f pos) (wFldF X.K t f) := PE.str (pe_fldR he hb) fun σ H Q h => by
  obtain ⟨τ, L, Q', a, b, c, k⟩ := h
  refine ⟨τ, L, _, a, b, c, fun d L1 v H1 q kp rh rd => ?_⟩
  unfold fldF at q
  split at q
  · obtain ⟨h1, h2, w, h3, q⟩ := q
    cases rd with
    | obj e2 r =>
      obtain ⟨u, h4, r2⟩ := RelK.lookup r.k h3
      exact ⟨_, _, _, _, u, rfl, .inr ⟨_, e2⟩, h1, h2, h4, k _ L1 _ H1 q kp rh r2⟩
  · obtain ⟨C, fs, w, e1, h1, h2, h3, q⟩ := q
    cases rd
    obtain ⟨dx, gs, e2, r⟩ := rh _ _ e1
    obtain ⟨u, h4, r2⟩ := RelK.lookup r h3
    exact ⟨_, C, dx, gs, u, rfl, .inl e2, h1, h2, h4, k _ L1 _ H1 q kp rh r2⟩
  · exact q.elim
end Z

/-! comprehensions that give values -/
namespace Z
open PySem PySem.Spec PyProof.Rows L2
/-- what data lean on -/
def Kw (H H' : Hp) : Prop := (∀ a xs, H a = some (.tup xs) → H' a = some (.tup xs)) ∧ (∀ a ob xs, H a = some (.frz ob (.lst xs)) → H' a = some (.frz ob (.lst xs))) ∧ ∀ a ob C dx gs, H a = some (.frz ob (.ins C dx gs)) → H' a = some (.frz ob (.ins C dx gs))
section
variable {K : PySem.W.Frag} {H H' : Hp}
mutual
theorem RelD.monoW (k : Kw H H') : ∀ {d : D} {v : V}, RelD K H d v → RelD K H' d v
  | _, _, .non => .non
  | _, _, .bl b => .bl b
  | _, _, .int i => .int i
  | _, _, .str x => .str x
  | _, _, .ref a => .ref a
  | _, _, .ty n => .ty n
  | _, _, .tup h r => .tup (k.1 _ _ h) (RelDs.monoW k r)
  | _, _, .ilst ⟨ob, h⟩ r => .ilst ⟨ob, k.2.1 _ _ _ h⟩ (RelDs.monoW k r)
  | _, _, .obj h r => .obj (k.2.2 _ _ _ _ _ h) (RelFs.monoW k r)
  | _, _, .scr h => .scr h
theorem RelDs.monoW (k : Kw H H') : ∀ {ds : List D} {vs : List V}, RelDs K H ds vs → RelDs K H' ds vs
  | _, _, .nil => .nil
  | _, _, .cons h r => .cons (RelD.monoW k h) (RelDs.monoW k r)
theorem RelFs.monoW (k : Kw H H') : ∀ {ds : List (Str × D)} {vs : List (Str × V)}, RelFs K H ds vs → RelFs K H' ds vs
  | _, _, .nil => .nil
  | _, _, .cons h r => .cons (RelD.monoW k h) (RelFs.monoW k r)
end
theorem RelK.monoW {κ : Type} (k : Kw H H') : ∀ {fs : List (κ × D)} {gs : List (κ × V)}, RelK K H fs gs → RelK K H' fs gs
  | _, _, .nil => .nil
  | _, _, .cons h r => .cons ⟨h.1, h.2.monoW k⟩ (RelK.monoW k r)
theorem RepO.monoW {a : Addr} {o : O} (h : RepO K H a o) (k : Kw H H') (e : H' a = H a) (hx : ∀ b φ, H b = some (.ext φ) → H' b = some (.ext φ)) : RepO K H' a o := by
  cases o with
  | lst ds => obtain ⟨vs, q, r⟩ := h; exact ⟨vs, e.trans q, r.monoW k⟩
  | ins C fs => obtain ⟨dx, gs, q, r⟩ := h; exact ⟨dx, gs, e.trans q, RelK.monoW k r⟩
  | dT kvs => obtain ⟨ws, q, r⟩ := h; exact ⟨ws, e.trans q, RelK.monoW k r⟩
  | dK kvs => obtain ⟨ws, q, r⟩ := h; exact ⟨ws, e.trans q, RelK.monoW k r⟩
  | tab t =>
    obtain ⟨ps, h1, h2, h3⟩ := h
    refine ⟨ps, e.trans h1, h2, fun pos cv hc => ?_⟩
    obtain ⟨c, e1, e2⟩ := h3 pos cv hc
    exact ⟨c, e1, hx _ _ e2⟩
  | xd fs => obtain ⟨gs, q, r⟩ := h; exact ⟨gs, e.trans q, RelK.monoW k r⟩
theorem RepS.monoW {τ : S'} {σ : L2.St} (h : RepS K H τ σ) (k : Kw H H') : RepS K H' τ σ := ⟨h.1, fun i d e => by
  obtain ⟨v, a, b⟩ := h.2 i d e
  exact ⟨v, a, b.monoW k⟩⟩
end
theorem kw_lk {H : Hp} {p : Addr} {od : Obj} {u o : HO} (h : H p = some (lk od u)) : Kw H (upd H p o) := by
  refine ⟨fun a xs e => ?_, fun a ob xs e => ?_, fun a ob C dx gs e => ?_⟩
  all_goals
    have ne : a ≠ p := fun z => by
      subst z
      rw [h] at e
      cases e
    rw [upd_ne ne]
    exact e
/-- behind a time under lock -/
theorem kp_lk {H H2 : Hp} {p : Addr} {x o : HO} (h : ¬ isFix (H p)) (k : Kp (upd H p x) H2) : Kp H (upd H2 p o) := by
  refine ⟨fun a xs e => ?_, fun a ob u e => ?_⟩
  all_goals
    have ne : a ≠ p := fun z => by
      subst z
      rw [e] at h
      exact h trivial
    rw [upd_ne ne]
  · exact k.1 a xs (by rw [upd_ne ne]; exact e)
  · exact k.2 a ob u (by rw [upd_ne ne]; exact e)
theorem rep_lk {K : PySem.W.Frag} {H : Hp} {L : Lp} {p : Addr} {od : Obj} {u o : HO} (h : H p = some (lk od u)) (rh : RepH K H L) : L p = none ∧ RepH K (upd H p o) L := by
  have np : L p = none := by
    cases e : L p with
    | none => rfl
    | some o =>
      have r := rh p o e
      cases o with
      | lst ds => obtain ⟨_, q, _⟩ := r; rw [h] at q; cases q
      | ins C fs => obtain ⟨_, _, q, _⟩ := r; rw [h] at q; cases q
      | dT kvs => obtain ⟨_, q, _⟩ := r; rw [h] at q; cases q
      | dK kvs => obtain ⟨_, q, _⟩ := r; rw [h] at q; cases q
      | tab t => obtain ⟨_, q, _⟩ := r; rw [h] at q; cases q
      | xd fs => obtain ⟨_, q, _⟩ := r; rw [h] at q; cases q
  refine ⟨np, fun a u e => (rh a u e).monoW (kw_lk h) ?_ fun b φ z => by
    have nb : b ≠ p := fun w => by subst w; rw [h] at z; cases z
    rw [upd_ne nb]; exact z⟩
  have ne : a ≠ p := fun z => by subst z; rw [np] at e; cases e
  rw [upd_ne ne]
/-! targets as functions -/
abbrev PG' := D → S' → Option S'
abbrev PGs' := List D → S' → Option S'
def pName (i : Nat) : PG' := fun d τ => some (τ.set i (some d))
def pNil : PGs' := fun ds τ => match ds with
  | [] => some τ
  | _ => none
def obind (o : Option S') (f : S' → Option S') : Option S' := match o with
  | some τ => f τ
  | none => none
def pCons (t : PG') (u : PGs') : PGs' := fun ds τ => match ds with
  | d :: es => obind (t d τ) (u es)
  | _ => none
def pTup (n : Nat) (t : PGs') : PG' := fun d τ => match d with
  | .tup ds => if ds.length = n then t ds τ else none
  | _ => none
theorem pName_e {i : Nat} {d : D} {τ : S'} : pName i d τ = some (τ.set i (some d)) := rfl
theorem pNil_e {τ : S'} : pNil [] τ = some τ := rfl
theorem pCons_e {t : PG'} {u : PGs'} {d : D} {ds : List D} {τ : S'} : pCons t u (d :: ds) τ = obind (t d τ) (u ds) := rfl
theorem obind_e {τ : S'} {f : S' → Option S'} : obind (some τ) f = f τ := rfl
theorem pTup_e {n : Nat} {t : PGs'} {ds : List D} {τ : S'} : pTup n t (.tup ds) τ = if ds.length = n then t ds τ else none := rfl
def gK (o : Option S') (P : S' → Prop) : Prop := match o with
  | some τ => P τ
  | none => False
theorem gK_some {τ : S'} {P : S' → Prop} : gK (some τ) P = P τ := rfl
def lGp (K : PySem.W.Frag) (vs : List Nat) (g : PG') : TG := fun v σ H Q => ∃ d τ τ2, RelD K H d v ∧ RepS K H τ σ ∧ g d τ = some τ2 ∧ ∀ σ1, RepS K H τ2 σ1 → wipe σ1 vs = wipe σ vs → Q σ1 H
def lGps (K : PySem.W.Frag) (vs : List Nat) (g : PGs') : TGs := fun ws σ H Q => ∃ ds τ τ2, RelDs K H ds ws ∧ RepS K H τ σ ∧ g ds τ = some τ2 ∧ ∀ σ1, RepS K H τ2 σ1 → wipe σ1 vs = wipe σ vs → Q σ1 H
def QGp (X : Cx) (vs : List Nat) (tg : Expr) (g : PG') : Prop := PG X tg (lGp X.K vs g)
def QGps (X : Cx) (vs : List Nat) (tg : List Expr) (g : PGs') : Prop := PGs X tg (lGps X.K vs g)
section
variable {X : Cx} {vs : List Nat}
theorem gp_name {i : Nat} {x : Str} {pos} (hN : X.N.Nodup) (hi : X.N[i]? = some x) (hx : Loc X.env.scope x) (hv : i ∈ vs) (hf : X.fn x = true ∨ X.env.scope.names.lookup x = some .local := by first | exact .inl rfl | exact .inr rfl | assumption) : QGp X vs (.Name x pos) (pName i) :=
  PG.str (pg_name hN hi hx hf) fun v σ H Q h => by
    obtain ⟨d, τ, τ2, rd, a, e, k⟩ := h
    cases e
    exact k _ (a.set rd i) (wipe_set hv)
theorem gp_nil : QGps X vs [] pNil := PGs.str pgs_nil fun v σ H Q h => by
  obtain ⟨ds, τ, τ2, rd, a, e, k⟩ := h
  cases ds with
  | nil => cases rd; cases e; exact ⟨rfl, k σ a rfl⟩
  | cons d es => cases e
theorem gp_cons {e : Expr} {es : List Expr} {t : PG'} {u : PGs'} (h1 : QGp X vs e t) (h2 : QGps X vs es u) (hs : (assignEach (e :: es) X.env).map (·.2) = assign e X.env :: (assignEach es X.env).map (·.2) := by rfl) : QGps X vs (e :: es) (pCons t u) := PGs.str (pgs_cons h1 h2 hs) fun v σ H Q h => by
  obtain ⟨ds, τ, τ2, rd, a, e, k⟩ := h
  cases ds with
  | nil => cases e
  | cons d es =>
    rw [pCons_e] at e
    cases e1 : t d τ with
    | none => rw [e1] at e; cases e
    | some τ1 =>
      rw [e1, obind_e] at e
      cases rd with
      | cons r1 r2 => exact ⟨_, _, rfl, d, τ, τ1, r1, a, e1, fun σ1 rs w1 => ⟨es, τ1, τ2, r2, rs, e, fun σ2 rs2 w2 => k σ2 rs2 (w2.trans w1)⟩⟩
theorem gp_tup {es : List Expr} {k : Nat} {pos} {t : PGs'} {n : Nat} (hc : X.calm = true) (h : QGps X vs es t) (hn : (assignEach es X.env).length = n := by rfl) (hst : (assignEach es X.env).findIdx? (·.1) = none := by rfl) : QGp X vs (.Tuple es k pos) (pTup n t) :=
  PG.str (pg_tup hc h hn hst) fun v σ H Q h => by
    obtain ⟨d, τ, τ2, rd, a, e, k⟩ := h
    cases d with
    | tup ds =>
      rw [pTup_e] at e
      by_cases hl : ds.length = n
      · rw [if_pos hl] at e
        cases rd with
        | tup hs rs => exact ⟨_, _, rfl, .inl (.inl hs), by rw [← rs.length]; exact hl, ds, τ, τ2, rs, a, e, k⟩
      · rw [if_neg hl] at e; cases e
    | _ => cases e
end
/-- the turns -/
def lcF (g : PG') (tt : TT') (te : TE') (vs : List Nat) (τ : S') (Q : VK') (xs : List D) (st : Lp → Prop) (L1 : Lp) : Prop := ∃ Pv : Nat → List D → Lp → Prop, Pv 0 [] L1 ∧ (∀ i acc L, i ≤ xs.length → Pv i acc L → ∀ L', Le L L' → st L') ∧
  (∀ i x acc L, xs[i]? = some x → Pv i acc L → gK (g x (wipeD τ vs)) fun τ2 => tt τ2 L fun b L3 => if b = true then te τ2 L3 fun y L4 => Dn (Pv (i + 1) (acc ++ [y])) L4 else Dn (Pv (i + 1) acc) L3) ∧ xs.length ≤ sizeLine ∧ ∀ acc L, Pv xs.length acc L → Q (.ilst acc) L
/-- [elt for g in wi if tt], a value -/
def wLcF (wi : TI') (g : PG') (tt : TT') (te : TE') (vs : List Nat) : TE' := fun τ L Q => wi τ L (lcF g tt te vs τ Q)
theorem wLcF_e {wi : TI'} {g : PG'} {tt : TT'} {te : TE'} {vs : List Nat} {τ : S'} {L : Lp} {Q : VK'} : wLcF wi g tt te vs τ L Q = wi τ L (lcF g tt te vs τ Q) := rfl
section
variable {X : Cx}
theorem tLcF_l {K : PySem.W.Frag} {wi : TI'} {g : PG'} {tt : TT'} {te : TE'} {vs : List Nat} (σ : L2.St) (H : Hp) (Q : VK) (h : lE K (wLcF wi g tt te vs) σ H Q) : tLc (lI K wi) (lGp K vs g) (tLkT (lT K tt)) (tLk (lE K te)) vs σ H (frzQ Q) := by
  obtain ⟨τ, L, Q', a, b, c, k⟩ := h
  refine ⟨τ, L, _, a, b, c, fun xs st L1 J H1 q kp rh ok => ?_⟩
  intro p np
  obtain ⟨Pv, p0, ps, pt, hz, pd⟩ := q
  have kn : Kp H1 (upd H1 p (.lst [])) := Kp.new np
  refine ⟨fun i m H => m = xs.length - i ∧ i ≤ xs.length ∧ ∃ L acc vs, Kp H1 H ∧ RepH K H L ∧ L p = none ∧ H p = some (.lst vs) ∧ RelDs K H acc vs ∧ acc.length ≤ i ∧ Pv i acc L, ⟨xs.length, by simp, Nat.zero_le _, L1, [], [], kn, rh.hid np, rh.no np, upd_same, .nil, Nat.le_refl _, p0⟩, ?_⟩
  rintro i m H2 ⟨rfl, hi2, L2, acc, vs2, kp2, rh2, np2, hp2, ra2, hl2, p2⟩
  have rhp : RepH K H2 (Z.up L2 p (.lst acc)) := fun a' o' e' => by
    by_cases z : a' = p
    · subst z; rw [up_same] at e'; cases e'; exact ⟨_, hp2, ra2⟩
    · rw [up_ne z] at e'; exact rh2 _ _ e'
  have s2 : st (Z.up L2 p (.lst acc)) := ps i acc L2 hi2 p2 _ (Le.new1 np2)
  by_cases hlt : i < xs.length
  · refine .inr ⟨ok.go i H2 _ kp2 rhp s2 hlt, fun H' => ∃ L acc vs, Kp H1 H' ∧ RepH K H' L ∧ L p = none ∧ H' p = some (.lst vs) ∧ RelDs K H' acc vs ∧ acc.length ≤ i + 1 ∧ Pv (i + 1) acc L, fun H' p' => ⟨xs.length - (i + 1), by omega, rfl, hlt, p'⟩, fun x H' y => ?_⟩
    obtain ⟨d, ed, rd, kp3, rh3p⟩ := ok.yld i H2 _ x H' kp2 rhp s2 hlt y
    obtain ⟨vs3, hp3, ra3⟩ := rh3p p (.lst acc) up_same
    have rh3 : RepH K H' L2 := rh3p.le (Le.new1 np2)
    have step := pt i d acc L2 ed p2
    cases eg : g d (wipeD τ vs) with
    | none => rw [eg] at step; exact step.elim
    | some τ2 =>
      rw [eg, gK_some] at step
      have rs3 : RepS K H' (wipeD τ vs) (wipe σ vs) := (a.wipe vs).mono (kp.trans (kp2.trans kp3))
      refine ⟨d, wipeD τ vs, τ2, rd, rs3, eg, fun σ4 rs4 w4 => ⟨by rw [w4]; exact wipe_idem vs σ, ?_⟩⟩
      refine ⟨p, .lst vs3, hp3, trivial, fun od => ?_⟩
      have nf3 : ¬ isFix (H' p) := by rw [hp3]; exact id
      have kl : Kp H' (upd H' p (lk od (.lst vs3))) := Kp.upd nf3
      refine ⟨τ2, L2, _, rs4.mono kl, rh3.hid2 np2 kl nf3, step, fun bb L5 H5 q5 kp5 rh5 => ⟨kp5.2 _ _ _ upd_same, ?_⟩⟩
      have e5 : H5 p = some (lk od (.lst vs3)) := kp5.2 _ _ _ upd_same
      obtain ⟨np5, rh6⟩ := rep_lk (o := .lst vs3) e5 rh5
      have kp6 : Kp H' (upd H5 p (.lst vs3)) := kp_lk nf3 kp5
      have kp26 := (kp2.trans kp3).trans kp6
      cases bb with
      | true =>
        simp only [if_true] at q5 ⊢
        refine ⟨p, .lst vs3, upd_same, trivial, fun od2 => ?_⟩
        have nf6 : ¬ isFix (upd H5 p (.lst vs3) p) := by rw [upd_same]; exact id
        have kl6 : Kp (upd H5 p (.lst vs3)) (upd (upd H5 p (.lst vs3)) p (lk od2 (.lst vs3))) := Kp.upd nf6
        refine ⟨τ2, L5, _, (rs4.mono kp6).mono kl6, rh6.hid2 np5 kl6 nf6, q5, fun y L6 v H7 q6 kp7 rh7 ry => ⟨kp7.2 _ _ _ upd_same, ?_⟩⟩
        have e7 : H7 p = some (lk od2 (.lst vs3)) := kp7.2 _ _ _ upd_same
        obtain ⟨L7, l7, q7⟩ := q6
        refine ⟨vs3, upd_same, by rw [← ra3.length]; omega, ?_⟩
        rw [upd_upd]
        obtain ⟨np7, rh8⟩ := rep_lk (o := .lst (vs3 ++ [v])) e7 (rh7.le l7)
        have kp8 : Kp (upd H5 p (.lst vs3)) (upd H7 p (.lst (vs3 ++ [v]))) := kp_lk nf6 kp7
        exact ⟨L7, acc ++ [y], vs3 ++ [v], kp26.trans kp8, rh8, np7, upd_same, (ra3.mono (kp6.trans kp8)).app (.cons (ry.monoW (kw_lk e7)) .nil), by simp; omega, q7⟩
      | false =>
        simp only [Bool.false_eq_true, if_false] at q5 ⊢
        obtain ⟨L7, l7, q7⟩ := q5
        refine ⟨L7, acc, vs3, kp26, rh6.le l7, ?_, upd_same, ra3.mono kp6, by omega, q7⟩
        cases z : L7 p with
        | none => rfl
        | some o => have := l7 _ _ z; rw [np5] at this; cases this
  · have e : i = xs.length := by omega
    subst e
    refine .inl ⟨ok.stop _ H2 _ kp2 rhp s2 (Nat.le_refl _), .inr ⟨p, _, hp2, trivial, fun od => ?_⟩⟩
    have kl : Kp H2 (upd H2 p (.frz od (.lst vs2))) := Kp.upd (by rw [hp2]; exact id)
    exact k _ L2 _ _ (pd acc L2 p2) ((kp.trans kp2).trans kl) (rh2.hid2 np2 kl (by rw [hp2]; exact id)) (.ilst ⟨od, upd_same⟩ (ra2.mono kl))
theorem q_lcF {elt tg iter : Expr} {ifs : List Expr} {scope : Scope} (own : List (Str × Nat)) {pos : Pos} {wi : TI'} {g : PG'} {tt : TT'} {te : TE'} (hc : X.calm = true) (hN : X.N.Nodup) (hi : QI X tg iter wi) (ok : BlkOk X.N X.env.scope scope own)
    (hg : ∀ (s : Shared) (H : Hp) (C : Addr) (cl : List (Str × Addr)) (fp : List Addr), QGp (X.blk s H scope (compEnvC scope cl C X.env) fp) (own.map (·.2)) tg g) (ht : ∀ (s : Shared) (H : Hp) (C : Addr) (cl : List (Str × Addr)) (fp : List Addr), QTs (X.blk s H scope (compEnvC scope cl C X.env) fp) ifs tt)
    (he : ∀ (s : Shared) (H : Hp) (C : Addr) (cl : List (Str × Addr)) (fp : List Addr), QE (X.blk s H scope (compEnvC scope cl C X.env) fp) elt te) (hs : ∀ x, foldedSetIterable iter X.env x = pure x := by intro _; rfl) :
    QE X (.ListComp elt [⟨tg, iter, ifs, 0⟩] scope pos) (wLcF wi g tt te (own.map (·.2))) := PE.str (pe_frz (pe_lc (g := lGp X.K (own.map fun x : Str × Nat => x.2) g) (tt := tLkT (lT X.K tt)) (te := tLk (lE X.K te)) hc hN hi ok hg (fun s H C cl fp => pts_lk (ht s H C cl fp)) (fun s H C cl fp => pe_lk (he s H C cl fp)) hs)) tLcF_l
/-- y = [..]: the statement of its own; the list is frozen where it is stored -/
theorem ps_frz {st : Stmt} {t : TS} (h : PS X st t) : PS X st (fun D σ H => t { D with nx := fun σ1 H1 => D.nx σ1 H1 ∨ ∃ d u, H1 d = some u ∧ Mut (some u) ∧ ∀ od, D.nx σ1 (upd H1 d (.frz od u)) } σ H) := by
  refine ⟨fun pins s σ H D I hw => ?_⟩
  refine thn (h.run pins s σ H _ I hw) fun f s1 q => ?_
  cases f with
  | next =>
    obtain ⟨σ', H', I2, q⟩ := q
    rcases q with q | ⟨d, u, hd, mu, q⟩
    · exact ⟨σ', H', I2, q⟩
    · obtain ⟨od, I3⟩ := I2.lock hd mu
      exact ⟨σ', _, I3, q od⟩
  | brk => exact q
  | cont => exact q
  | ret v => exact q
theorem qs_setLcF {i : Nat} {y : Str} {py : Pos} {elt tg iter : Expr} {ifs : List Expr} {scope : Scope} (own : List (Str × Nat)) {pos spos : Pos} {wi : TI'} {g : PG'} {tt : TT'} {te : TE'} (hc : X.calm = true) (hN : X.N.Nodup) (hy : X.N[i]? = some y) (hyl : X.env.scope.names.lookup y = some .local)
    (hsw : swapsWith (.ListComp elt [⟨tg, iter, ifs, 0⟩] scope pos) (some (.Name y py)) spos.line X.env = pure true) (hi : QI X tg iter wi) (ok : BlkOk X.N X.env.scope scope own)
    (hg : ∀ (s : Shared) (H : Hp) (C : Addr) (cl : List (Str × Addr)) (fp : List Addr), QGp (X.blk s H scope (compEnvC scope cl C X.env) fp) (own.map (·.2)) tg g) (ht : ∀ (s : Shared) (H : Hp) (C : Addr) (cl : List (Str × Addr)) (fp : List Addr), QTs (X.blk s H scope (compEnvC scope cl C X.env) fp) ifs tt)
    (he : ∀ (s : Shared) (H : Hp) (C : Addr) (cl : List (Str × Addr)) (fp : List Addr), QE (X.blk s H scope (compEnvC scope cl C X.env) fp) elt te) (hs : ∀ x, foldedSetIterable iter X.env x = pure x := by intro _; rfl) :
    QS X (.Assign [.Name y py] (.ListComp elt [⟨tg, iter, ifs, 0⟩] scope pos) spos) (wAsg (wLcF wi g tt te (own.map (·.2))) (hName i)) := PS.str (ps_frz (ps_setLc (g := lGp X.K (own.map fun x : Str × Nat => x.2) g) (tt := tLkT (lT X.K tt)) (te := tLk (lE X.K te)) hc hN hy hyl hsw hi ok hg (fun s H C cl fp => pts_lk (ht s H C cl fp)) (fun s H C cl fp => pe_lk (he s H C cl fp)) hs)) fun E σ H h => by
  obtain ⟨τ, L, E', a, b, c, k1, k2, k3, k4⟩ := h
  refine tLcF_l (wi := wi) (g := g) (tt := tt) (te := te) σ H (fun x H1 => gName i x σ H1 E.nx) ?_
  exact ⟨τ, L, _, a, b, c, fun d L1 v H1 q kp rh rd => k1 _ L1 _ H1 q kp rh ((a.mono kp).set rd i)⟩
end
end Z

namespace Z
open PySem PySem.Spec PyProof.Rows L2
/-- a list and a list: a new one that may change -/
def addM : R2' := fun d e L Q => sq2 (seqL d L) (seqL e L) fun xs ys => xs.length + ys.length ≤ sizeLine ∧ ∀ p, L p = none → Q (.ref p) (up L p (.lst (xs ++ ys)))
theorem l_addM {K : PySem.W.Frag} : LR2 K addM (rAddR K) := fun d e L v u H Q Q' rd re rh q k => by
  unfold addM at q
  cases e1 : seqL d L with
  | none => rw [e1] at q; exact q.elim
  | some xs =>
    cases e2 : seqL e L with
    | none => rw [e1, e2] at q; exact q.elim
    | some ys =>
      rw [e1, e2, sq2_some] at q
      obtain ⟨a1, vs, rfl, r1, h1⟩ := seqL_rel rh rd e1
      obtain ⟨a2, us, rfl, r2, h2⟩ := seqL_rel rh re e2
      exact .inr (.inr (.inr ⟨_, _, _, _, rfl, rfl, h1, h2, by rw [← r1.length, ← r2.length]; exact q.1, fun p np => k _ _ _ _ (q.2 p (rh.no np)) (Kp.new np) (rh.new np ⟨_, upd_same, (r1.app r2).mono (Kp.new np)⟩) (.ref p)⟩))
theorem addM_eq {d e : D} {L : Lp} {Q : VK'} : addM d e L Q = sq2 (seqL d L) (seqL e L) fun xs ys => xs.length + ys.length ≤ sizeLine ∧ ∀ p, L p = none → Q (.ref p) (up L p (.lst (xs ++ ys))) := rfl
theorem gK_imp {o : Option S'} {P P' : S' → Prop} (h : gK o P) (k : ∀ τ, P τ → P' τ) : gK o P' := by
  cases o with
  | none => exact h
  | some τ => exact k τ h
theorem yes_e {τ : S'} {L : Lp} {te : TE'} {Q : VK'} {R : Lp → Prop} (h : te τ L Q) : wYes τ L fun b L3 => if b = true then te τ L3 Q else R L3 := by
  show if true = true then te τ L Q else R L
  rw [if_pos rfl]
  exact h
/-- walks over what is frozen -/
theorem lcF_m {α : Type} {g : PG'} {tt : TT'} {te : TE'} {vs : List Nat} {τ : S'} {L1 : Lp} {Q : VK'} {st : Lp → Prop} (zs : List α) (enc : α → D) (F : α → Option D) (hz : zs.length ≤ sizeLine) (hst : ∀ L', Le L1 L' → st L')
    (step : ∀ (z : α) (Q' : VK') (R' : Lp → Prop), z ∈ zs → (∀ y, F z = some y → Q' y L1) → (F z = none → R' L1) →
      gK (g (enc z) (wipeD τ vs)) fun τ2 => tt τ2 L1 fun b L3 => if b = true then te τ2 L3 Q' else R' L3)
    (hq : Q (.ilst (zs.filterMap F)) L1) : lcF g tt te vs τ Q (zs.map enc) st L1 := by
  refine ⟨fun i acc L => acc = (zs.take i).filterMap F ∧ L = L1, ⟨by simp, rfl⟩, fun i acc L _ e L' l => hst L' (by rw [← e.2]; exact l), fun i x acc L hx e => ?_, by rw [List.length_map]; exact hz, fun acc L e => ?_⟩
  · obtain ⟨rfl, rfl⟩ := e
    rw [List.getElem?_map] at hx
    cases hz2 : zs[i]? with
    | none => rw [hz2] at hx; cases hx
    | some z =>
      rw [hz2] at hx
      cases hx
      have et : zs.take (i + 1) = zs.take i ++ [z] := by
        rw [List.take_add_one, hz2]; rfl
      refine step z _ _ (List.mem_of_getElem? hz2) (fun y hy => .mk ⟨?_, rfl⟩) (fun hn => .mk ⟨?_, rfl⟩)
      · rw [et, List.filterMap_append, List.filterMap_cons, hy]; rfl
      · rw [et, List.filterMap_append, List.filterMap_cons, hn]; simp
  · obtain ⟨rfl, rfl⟩ := e
    rw [List.length_map, List.take_length]
    exact hq
theorem lcF_f {α : Type} {g : PG'} {te : TE'} {vs : List Nat} {τ : S'} {L1 : Lp} {Q : VK'} {st : Lp → Prop} (zs : List α) (enc : α → D) (f : α → D) (hz : zs.length ≤ sizeLine) (hst : ∀ L', Le L1 L' → st L')
    (step : ∀ (z : α) (Q' : VK'), z ∈ zs → Q' (f z) L1 → gK (g (enc z) (wipeD τ vs)) fun τ2 => te τ2 L1 Q')
    (hq : Q (.ilst (zs.map f)) L1) : lcF g wYes te vs τ Q (zs.map enc) st L1 := by
  refine lcF_m zs enc (fun z => some (f z)) hz hst (fun z Q' R' hm hy _ => ?_) (by rw [List.filterMap_eq_map']; exact hq)
  exact gK_imp (step z Q' hm (hy _ rfl)) fun τ h => yes_e h
/-- walks that change what stands at b -/
theorem lcF_b {α β : Type} {g : PG'} {te : TE'} {vs : List Nat} {τ : S'} {L1 : Lp} {Q : VK'} {st : Lp → Prop} {b : Addr} (zs : List α) (enc : α → D) (enc2 : β → D) (A : Nat → List β → O → Prop) (hz : zs.length ≤ sizeLine)
    (hst : ∀ o L', Le (up L1 b o) L' → st L') (o0 : O) (hb : L1 b = some o0) (a0 : A 0 [] o0)
    (step : ∀ (i : Nat) (z : α) (bs : List β) (o : O) (Q' : VK'), zs[i]? = some z → A i bs o → (∀ y o', A (i + 1) (bs ++ [y]) o' → Q' (enc2 y) (up L1 b o')) → gK (g (enc z) (wipeD τ vs)) fun τ2 => te τ2 (up L1 b o) Q')
    (hq : ∀ bs o, A zs.length bs o → bs.length = zs.length → Q (.ilst (bs.map enc2)) (up L1 b o)) : lcF g wYes te vs τ Q (zs.map enc) st L1 := by
  refine ⟨fun i acc L => i ≤ zs.length ∧ ∃ bs o, acc = bs.map enc2 ∧ bs.length = i ∧ L = up L1 b o ∧ A i bs o, ⟨Nat.zero_le _, [], o0, rfl, rfl, ?_, a0⟩, ?_, fun i x acc L hx e => ?_, by rw [List.length_map]; exact hz, fun acc L e => ?_⟩
  · funext c
    by_cases h : c = b
    · subst h; rw [up_same, hb]
    · rw [up_ne h]
  · rintro i acc L _ ⟨_, bs, o, _, _, rfl, _⟩ L' l
    exact hst o L' l
  · obtain ⟨hi, bs, o, rfl, hl, rfl, ha⟩ := e
    rw [List.getElem?_map] at hx
    cases hz2 : zs[i]? with
    | none => rw [hz2] at hx; cases hx
    | some z =>
      rw [hz2] at hx
      cases hx
      have hlt : i < zs.length := by
        rcases Nat.lt_or_ge i zs.length with h | h
        · exact h
        · rw [List.getElem?_eq_none h] at hz2; cases hz2
      exact gK_imp (step i z bs o _ hz2 ha fun y o' ha' => .mk ⟨hlt, bs ++ [y], o', by simp, by simp [hl], rfl, ha'⟩) fun τ h => yes_e h
  · rw [List.length_map] at e
    obtain ⟨hi, bs, o, rfl, hl, rfl, ha⟩ := e
    exact hq bs o ha hl
theorem seqD_up {L : Lp} {b : Addr} {xs : List D} : seqD (.ref b) (up L b (.lst xs)) = some xs := seq_ref up_same
theorem seqL_up {L : Lp} {b : Addr} {xs : List D} : seqL (.ref b) (up L b (.lst xs)) = some xs := seqL_ref up_same
theorem len_ilst {L : Lp} {Q : VK'} {ds : List D} : lenD [.ilst ds] L Q = Q (.int ds.length) L := rfl
theorem len_up {L : Lp} {b : Addr} {Q : VK'} {ds : List D} : lenD [.ref b] (up L b (.lst ds)) Q = Q (.int ds.length) (up L b (.lst ds)) := len_seq seqD_up
theorem truD_ilst {L : Lp} {ds : List D} {R : Bool → Lp → Prop} : truD (.ilst ds) L R = R (!ds.isEmpty) L := rfl
/-- held back; the kernel does not look into it -/
noncomputable def hld {α : Type} (x : α) : α := Classical.choose (⟨x, rfl⟩ : ∃ y, y = x)
theorem hld_eq {α : Type} (x : α) : hld x = x := Classical.choose_spec (⟨x, rfl⟩ : ∃ y, y = x)
/-! statements at ends that are written out -/
section
variable {nx bk ct : S' → Lp → Prop} {rt : VK'} {τ : S'} {L : Lp} {K : PySem.W.Frag}
theorem wNext_m : wNext ⟨nx, rt, bk, ct⟩ τ L = nx τ L := rfl
theorem wSeq_m {t u : TS'} : wSeq t u ⟨nx, rt, bk, ct⟩ τ L = t ⟨hld (u ⟨nx, rt, bk, ct⟩), rt, bk, ct⟩ τ L := by rw [hld_eq]; rfl
theorem wBreak_m : wBreak ⟨nx, rt, bk, ct⟩ τ L = bk τ L := rfl
theorem wCont_m : wCont ⟨nx, rt, bk, ct⟩ τ L = ct τ L := rfl
theorem wDrop_m {t : TE'} : wDrop t ⟨nx, rt, bk, ct⟩ τ L = t τ L fun _ L1 => nx τ L1 := rfl
theorem wRet_m {t : TE'} : wRet t ⟨nx, rt, bk, ct⟩ τ L = t τ L rt := rfl
theorem wRetN_m : wRetN ⟨nx, rt, bk, ct⟩ τ L = rt .non L := rfl
theorem wIfS_m {c : TT'} {t u : TS'} : wIfS c t u ⟨nx, rt, bk, ct⟩ τ L = c τ L fun b L1 => if b = true then hld (t ⟨nx, rt, bk, ct⟩) τ L1 else hld (u ⟨nx, rt, bk, ct⟩) τ L1 := by rw [hld_eq, hld_eq]; rfl
theorem wAsg_m {t : TE'} {g : TG'} : wAsg t g ⟨nx, rt, bk, ct⟩ τ L = t τ L fun d L1 => g d τ L1 nx := rfl
theorem wPar_m {i j : Nat} {ta : TA'} : wPar i j ta ⟨nx, rt, bk, ct⟩ τ L = ta τ L fun ds L1 => pairK ds fun v w => nx ((τ.set i (some v)).set j (some w)) L1 := rfl
theorem wPar3_m {i j l : Nat} {ta : TA'} : wPar3 i j l ta ⟨nx, rt, bk, ct⟩ τ L = ta τ L fun ds L1 => trioK ds fun u v w => nx (((τ.set i (some u)).set j (some v)).set l (some w)) L1 := rfl
theorem wFldS_m {to tv : TE'} {f : Str} : wFldS K to tv f ⟨nx, rt, bk, ct⟩ τ L = tv τ L fun v L1 => to τ L1 fun d L2 => sfldK K d f v L2 fun L3 => nx τ L3 := rfl
theorem wDput_m {td tk tv : TE'} : wDput td tk tv ⟨nx, rt, bk, ct⟩ τ L = tv τ L fun v L1 => td τ L1 fun x L2 => tk τ L2 fun y L3 => dkK x y L3 fun a kvs k => kvs.length < sizeLine ∧ nx τ (up L3 a (.dT (putD kvs k v))) := rfl
/-- the turns of a for -/
def forB (g : TG') (tb : TS') (nx : S' → Lp → Prop) (rt : VK') (τ : S') (xs : List D) (st : Lp → Prop) (L1 : Lp) : Prop := ∃ Pv : Nat → S' → Lp → Prop, Pv 0 τ L1 ∧ (∀ i τ L, i ≤ xs.length → Pv i τ L → st L) ∧
  (∀ i x τ L, xs[i]? = some x → Pv i τ L → g x τ L fun τ2 L2 => tb ⟨DnS (Pv (i + 1)), rt, nx, DnS (Pv (i + 1))⟩ τ2 L2) ∧ ∀ τ L, Pv xs.length τ L → nx τ L
theorem wFor_m {wi : TI'} {g : TG'} {tb : TS'} : wFor wi g tb ⟨nx, rt, bk, ct⟩ τ L = wi τ L (forB g tb nx rt τ) := rfl
theorem for_t {α : Type} {g : TG'} {tb : TS'} {st : Lp → Prop} (zs : List α) (enc : α → D) (Pv : Nat → S' → Lp → Prop) (h0 : Pv 0 τ L) (hst : ∀ i τ L, i ≤ zs.length → Pv i τ L → st L)
    (step : ∀ i z τ L, zs[i]? = some z → Pv i τ L → g (enc z) τ L fun τ2 L2 => tb ⟨DnS (Pv (i + 1)), rt, nx, DnS (Pv (i + 1))⟩ τ2 L2) (done : ∀ τ L, Pv zs.length τ L → nx τ L) : forB g tb nx rt τ (zs.map enc) st L := by
  refine ⟨Pv, h0, fun i τ L hi p => hst i τ L (by rw [List.length_map] at hi; exact hi) p, fun i x τ L hx p => ?_, fun τ L p => done τ L (by rw [List.length_map] at p; exact p)⟩
  rw [List.getElem?_map] at hx
  cases hz : zs[i]? with
  | none => rw [hz] at hx; cases hx
  | some z =>
    rw [hz] at hx
    cases hx
    exact step i z τ L hz p
theorem for_r {g : TG'} {tb : TS'} {st : Lp → Prop} {lo : Int} {n : Nat} (Pv : Nat → S' → Lp → Prop) (h0 : Pv 0 τ L) (hst : ∀ i τ L, i ≤ n → Pv i τ L → st L)
    (step : ∀ (i : Nat) τ L, i < n → Pv i τ L → g (.int (lo + i)) τ L fun τ2 L2 => tb ⟨DnS (Pv (i + 1)), rt, nx, DnS (Pv (i + 1))⟩ τ2 L2) (done : ∀ τ L, Pv n τ L → nx τ L) : forB g tb nx rt τ (rgD lo n) st L := by
  refine ⟨Pv, h0, fun i τ L hi p => hst i τ L (by rw [rgD_len] at hi; exact hi) p, fun i x τ L hx p => ?_, fun τ L p => done τ L (by rw [rgD_len] at p; exact p)⟩
  have hi : i < n := by
    rcases Nat.lt_or_ge i (rgD lo n).length with h | h
    · rw [rgD_len] at h; exact h
    · rw [List.getElem?_eq_none h] at hx; cases hx
  rw [rgD_get hi] at hx
  cases hx
  exact step i τ L hi p
theorem wWhile_m {c : TT'} {tb : TS'} (Pv : Nat → S' → Lp → Prop) (h0 : ∃ m, Pv m τ L) (step : ∀ m τ L, Pv m τ L → c τ L fun b L1 => if b = true then hld (tb ⟨DnS fun τ' L' => ∃ m', m' < m ∧ Pv m' τ' L', rt, nx, DnS fun τ' L' => ∃ m', m' < m ∧ Pv m' τ' L'⟩) τ L1 else hld nx τ L1) : wWhile c tb ⟨nx, rt, bk, ct⟩ τ L := ⟨Pv, h0, fun m τ L p => by have := step m τ L p; rw [hld_eq, hld_eq] at this; exact this⟩
end
theorem frzK_up {L : Lp} {a : Addr} {ds : List D} {Q : VK'} : frzK (.ref a) (up L a (.lst ds)) Q = Q (.ilst ds) (del L a) := by rw [frzK_lst up_same, del_up]
theorem frzK_upi {L : Lp} {a C : Addr} {fs : List (Str × D)} {Q : VK'} : frzK (.ref a) (up L a (.ins C fs)) Q = Q (.obj C fs) (del L a) := by rw [frzK_ins up_same, del_up]
theorem en_at {ds : List D} {i : Nat} {x : D} (h : (enD 0 ds)[i]? = some x) : ∃ d, ds[i]? = some d ∧ x = .tup [.int i, d] := by
  cases e : ds[i]? with
  | none =>
    have : ds.length ≤ i := List.getElem?_eq_none_iff.mp e
    rw [List.getElem?_eq_none (by rw [enD_len]; exact this)] at h
    cases h
  | some d =>
    rw [enD_get 0 ds i d e] at h
    cases h
    exact ⟨d, rfl, by rw [Nat.zero_add]⟩
theorem app_ref {L : Lp} {a : Addr} {e : D} {Q : VK'} : appendD (.ref a) [e] L Q = ∃ xs, L a = some (.lst xs) ∧ xs.length < sizeLine ∧ Q .non (up L a (.lst (xs ++ [e]))) := rfl
theorem app_up {L : Lp} {a : Addr} {e : D} {xs : List D} {Q : VK'} (h : xs.length < sizeLine) (q : Q .non (up L a (.lst (xs ++ [e])))) : appendD (.ref a) [e] (up L a (.lst xs)) Q := ⟨xs, up_same, h, by rw [up_up]; exact q⟩
theorem kind_up {L : Lp} {a : Addr} {xs : List D} : kindD "list" (.ref a) (up L a (.lst xs)) := .inl ⟨rfl, xs, up_same⟩
theorem hld_i {t : S' → Lp → Prop} {τ : S'} {L : Lp} (h : t τ L) : hld t τ L := by rw [hld_eq]; exact h
theorem up_id {L : Lp} {b : Addr} {o : O} (h : L b = some o) : up L b o = L := by
  funext c
  by_cases e : c = b
  · subst e; rw [up_same, h]
  · rw [up_ne e]
end Z

/-! errors by data: raised, passed on, caught; lambdas that are handed to a def -/
namespace Z
open PySem PySem.Spec PyProof.Rows L2
abbrev WX' := S' → XK'
def LinkE (K : PySem.W.Frag) (H : Hp) (E' : XK') (E : XK) : Prop := ∀ C fs L1 od H1, E' C fs L1 → Kp H H1 → RepH K H1 L1 → ExcAt K H1 L1 od fs → E (.ref C) od H1
def LinkW (K : PySem.W.Frag) (H : Hp) (W' : WX') (W : WX) : Prop := ∀ τ1 C fs L1 σ1 od H1, W' τ1 C fs L1 → Kp H H1 → RepH K H1 L1 → RepS K H1 τ1 σ1 → ExcAt K H1 L1 od fs → W (.ref C) od σ1 H1
theorem LinkE.mono {K : PySem.W.Frag} {H H1 : Hp} {E' : XK'} {E : XK} (h : LinkE K H E' E) (k : Kp H H1) : LinkE K H1 E' E := fun C fs L1 od H2 q kp rh ex => h C fs L1 od H2 q (k.trans kp) rh ex
theorem LinkW.mono {K : PySem.W.Frag} {H H1 : Hp} {E' : WX'} {E : WX} (h : LinkW K H E' E) (k : Kp H H1) : LinkW K H1 E' E := fun τ C fs L1 σ od H2 q kp rh rs ex => h τ C fs L1 σ od H2 q (k.trans kp) rh rs ex
theorem inv_kp {X : Cx} {pins : List (Addr × Obj)} {σ : L2.St} {H : Hp} {s : Shared} (I : Inv X pins σ H s) : Kp X.H_0 H := ⟨I.base.tups, I.base.frzs⟩
/-- an expression that may raise -/
def lX (K : PySem.W.Frag) (W : WX) (t : WX' → TE') : TE := fun σ H Q => ∃ τ L Q' W', RepS K H τ σ ∧ RepH K H L ∧ t W' τ L Q' ∧ (∀ d L1 v H1, Q' d L1 → Kp H H1 → RepH K H1 L1 → RelD K H1 d v → Q v H1) ∧ LinkW K H W' W
def lXE (K : PySem.W.Frag) (E : XK) (t : XK' → TE') : TE := fun σ H Q => ∃ τ L Q' E', RepS K H τ σ ∧ RepH K H L ∧ t E' τ L Q' ∧ (∀ d L1 v H1, Q' d L1 → Kp H H1 → RepH K H1 L1 → RelD K H1 d v → Q v H1) ∧ LinkE K H E' E
def wCallX (sp : Sp') (t : TA') : WX' → TE' := fun W' τ L Q => t τ L fun ds L1 => sp ds L1 Q (W' τ)
theorem wCallX_e {sp : Sp'} {t : TA'} {W' : WX'} {τ : S'} {L : Lp} {Q : VK'} : wCallX sp t W' τ L Q = t τ L fun ds L1 => sp ds L1 Q (W' τ) := rfl
section
variable {X : Cx} {k : Nat} {f : Addr} {fd : FuncData} {ps : List Str} {sp : Sp'} {x : Str} {p pos : Pos} {e : Expr} {es : List Expr} {t : TA'}
theorem px_call {W : WX} (F : FnOk X.prog X.w X.K X.mg X.base (L2.CX X.prog X.w) k f fd ps (lSp X.K sp)) (tk : Takes X W) (hr : Room k X.A) (hg : Gl X x) (hm : X.mg x = some (.ref f)) (hk : PySem.W.keepIn X.K (.ref f) = true) (hb : Binds X.K fd ps []) (ha : QA X (e :: es) t)
    (hdb : (x == ("__debug__" : Str)) = false := by decide) (he : starEach (e :: es) X.env = (false, eval e X.env) :: starEach es X.env := by rfl) (hpl : (backTo pos (starEach es X.env)).any (·.1) = false := by rfl) :
    PE X (.Call (.Name x p) (e :: es) [] pos) (lX X.K W (wCallX sp t)) := PE.str (pe_callS F hr hg hm hk hb (fun σ => passAt tk σ) ha hdb he hpl) fun σ H Q h => by
  obtain ⟨τ, L, Q', W', a, b, c, k, kw⟩ := h
  refine ⟨τ, L, _, a, b, c, fun ds L1 vs H1 q hl kp rh rd => ?_⟩
  exact ⟨ds, L1, Q', W' τ, rd, rh, q, fun d L2 v H2 q2 kp2 => k d L2 v H2 q2 (kp.trans kp2), fun C fs L2 od H2 q2 kp2 rh2 ex => kw τ C fs L2 σ od H2 q2 (kp.trans kp2) rh2 (a.mono (kp.trans kp2)) ex⟩
/-- .. in a lambda's body, in a def -/
theorem px_e {E : XK} {t : WX' → TE'} (h : PE X e (lX X.K (fun cls d _ H => E cls d H) t)) : PE X e (lXE X.K E fun E' => t fun _ => E') := PE.str h fun σ H Q q => by
  obtain ⟨τ, L, Q', E', a, b, c, k, ke⟩ := q
  exact ⟨τ, L, Q', fun _ => E', a, b, c, k, fun τ1 C fs L1 σ1 od H1 q kp rh _ ex => ke C fs L1 od H1 q kp rh ex⟩
theorem q_px {E : XK} {E' : XK'} {t : XK' → TE'} (h : PE X e (lXE X.K E t)) (l : LinkE X.K X.H_0 E' E) : QE X e (t E') := ⟨fun pins s σ H Q I q => by
  obtain ⟨τ, L, Q', a, b, c, k⟩ := q
  exact h.run pins s σ H Q I ⟨τ, L, Q', E', a, b, c, k, l.mono (inv_kp I)⟩⟩
end
/-! keywords -/
section
variable {X : Cx} {k : Nat} {f : Addr} {fd : FuncData} {ps ks : List Str} {sp : Sp'} {x : Str} {p pos : Pos} {kws : List Keyword} {t : TA'}
def wCallKX (sp : Sp') (g : {α : Type} → List α → List α) (t : TA') : XK' → TE' := fun E' τ L Q => t τ L fun ds L1 => sp (g ds) L1 Q E'
theorem wCallKX_e {sp : Sp'} {g : {α : Type} → List α → List α} {t : TA'} {E' : XK'} {τ : S'} {L : Lp} {Q : VK'} : wCallKX sp g t E' τ L Q = t τ L fun ds L1 => sp (g ds) L1 Q E' := rfl
end
/-! ### raise -/
section
variable {X : Cx} {C : Addr} {bmB : List Value} {B newId initId : String}
/-- X() -/
theorem pmk_own0 {x : Str} {p pos : Pos} (F : ExcBaseFacts B newId initId bmB) (q : PySem.W.excIn X.K C bmB newId = true) (gC : X.mg x = some (.ref C)) (kC : PySem.W.keepIn X.K (.ref C) = true) (r : Raises X (.ref C)) (hg : Gl X x)
    (hdb : (x == ("__debug__" : Str)) = false := by decide) : PMk X (.Call (.Name x p) [] [] pos) (fun _ H Q => Q (.ref C) none H) := by
  intro pins s σ H Q I h
  refine wpAny_Call_Name_kw (ld_glob I hg gC ?_ hdb)
  refine PySem.W.callWith_K0 I.kIn kC ?_
  show wpAny _ _ (call (.ref C) []) _ _ _
  obtain ⟨bm, N, nm, qn, bs, hdct, sn, sub, ab, col, dd, k0, k1, k2, k3, k5, mN, hC, hN, hni, T⟩ := exc_obj I.kIn q
  refine wpAny_call_exc_subT F T hC hN hni (fun h' e hm => ?_) (Nat.zero_le _)
  exact mk_of I hm r h (I.hok.gone hm.new)
/-- raise X(): nothing is told -/
def wRaise0 (E' : XK') (C : Addr) : TS' := fun _ _ L => E' C [] L
theorem wRaise0_e {E' : XK'} {C : Addr} {D : Ends'} {τ : S'} {L : Lp} : wRaise0 E' C D τ L = E' C [] L := rfl
theorem qs_raise0 {e : Expr} {pos : Pos} {E : XK} {E' : XK'} (hc : X.calm = true) (tk : Takes X (fun cls d _ H => E cls d H)) (l : LinkE X.K X.H_0 E' E) (he : PMk X e (fun _ H Q => Q (.ref C) none H)) : QS X (.Raise (some e) none pos) (wRaise0 E' C) :=
  ⟨fun pins s σ H D I q => by
    obtain ⟨τ, L, D', a, b, c, _⟩ := q
    exact (ps_raise hc tk he).run pins s σ H D I (l C [] L none H c (inv_kp I) b (.inl ⟨rfl, rfl⟩))⟩
end
section
variable {P : Program} {w : World} {K : PySem.W.Frag} {mg : Str → Option Value} {base : Heap} {x qual : Str} {params : Arguments} {body : List Stmt} {scope : Scope} {dvs : List V} {kws : List (Str × V)} {f : Addr} {fd : FuncData}
/-- a def that may raise -/
theorem okDX {N ps : List Str} {k : Nat} {sp : Sp'} {t : XK' → TS'} (F : FunD K x qual params body scope dvs kws f fd) (S : FnScope N ps scope) (len : ∀ ds L Q E, sp ds L Q E → ds.length = ps.length)
    (hb : ∀ (cdv : Value) (A : Around) (outer : List Env) (s : Shared) (H : Hp) (E : XK) (E' : XK'), Room k (A.deeper (envOfC qual scope s.heap.objs.size f cdv)) → LinkE K H E' E → QSs (cxOf (L2.CX P w) P w K mg base N qual scope f cdv A outer s H E) body (t E'))
    (hs : ∀ ds L Q E', sp ds L Q E' → t E' { nx := fun _ L1 => Dn (Q .non) L1, rt := fun d L1 => Dn (Q d) L1 } (start' N ds) L) : FnOk P w K mg base (L2.CX P w) (k + 1) f fd ps (lSp K sp) := by
  refine F.ok S (fun vs H Q E h => ?_) (fun cdv A outer s H vs Q E hr h => ?_)
  · obtain ⟨ds, L, Q', E', r, _, q, _⟩ := h
    rw [← r.length]
    exact len _ _ _ _ q
  · obtain ⟨ds, L, Q', E', r, rh, q, k1, k2⟩ := h
    refine ⟨_, hb cdv A outer s H E E' hr k2, start' N ds, L, _, start_rep r N, rh, hs _ _ _ _ q, ?_, ?_, fun _ _ _ _ z => z.elim, fun _ _ _ _ z => z.elim⟩
    · rintro τ1 L1 σ1 H1 ⟨L2, l, q2⟩ kp rh1 _
      exact k1 _ L2 _ H1 q2 kp (rh1.le l) .non
    · rintro d L1 v H1 ⟨L2, l, q2⟩ kp rh1 rd
      exact k1 _ L2 _ H1 q2 kp (rh1.le l) rd
theorem takes_def {N : List Str} {cdv : Value} {A : Around} {outer : List Env} {s : Shared} {H : Hp} {E : XK} : Takes (cxOf (L2.CX P w) P w K mg base N qual scope f cdv A outer s H E) (fun cls d _ H => E cls d H) := takes_of rfl rfl rfl rfl
end
end Z

/-! lambdas that are handed to a def -/
namespace Z
open PySem PySem.Spec PyProof.Rows L2
section
variable {X : Cx} {k : Nat} {f : Addr} {fd : FuncData} {ps ks : List Str} {sp : Sp'} {x : Str} {p pos : Pos} {kws : List Keyword} {t : TA'}
theorem px_callK {E : XK} (g : {α : Type} → List α → List α) (R : Rg g)
    (F : FnOk X.prog X.w X.K X.mg X.base (L2.CX X.prog X.w) k f fd ps (lSp X.K sp)) (tk : Takes X (fun cls d _ H => E cls d H)) (hr : Room k X.A) (hg : Gl X x) (hm : X.mg x = some (.ref f)) (hk : PySem.W.keepIn X.K (.ref f) = true) (hb : KBinds X.K fd ps ks (fun us ws => us ++ g ws) (fun vs zs => vs ++ g zs))
    (hkw : QK X kws t) (hall : (backToKw pos (keywordEach kws X.env)).all (·.1.isSome) = true := by rfl) (hks : (backToKw pos (keywordEach kws X.env)).filterMap (·.1) = ks := by rfl)
    (hdb : (x == ("__debug__" : Str)) = false := by decide)
    (hpl : ((backTo pos (starEach [] X.env)).any (·.1) || (backToKw pos (keywordEach kws X.env)).any (·.1.isNone)) = false := by rfl) :
    PE X (.Call (.Name x p) [] kws pos) (lXE X.K E (wCallKX sp g t)) := PE.str (pe_callK0 F hr hg hm hk hb (passes_call tk fun _ _ _ _ h => h) hkw hall hks hdb hpl) fun σ H Q h => by
  obtain ⟨τ, L, Q', E', a, b, c, k, ke⟩ := h
  refine ⟨τ, L, _, a, b, c, fun ds L1 vs H1 q hl kp rh rd => ?_⟩
  exact ⟨g ds, L1, Q', E', R.rels rd, rh, q, fun d L2 v H2 q2 kp2 => k d L2 v H2 q2 (kp.trans kp2), fun C fs L2 od H2 q2 kp2 rh2 ex => ke C fs L2 od H2 q2 (kp.trans kp2) rh2 ex⟩
end
/-! ### try: return ("", a()) / except X as n: suite; rest -/
def upx (L : Lp) (od : Option Addr) (fs : List (Str × D)) : Lp := match od with
  | none => L
  | some d => up L d (.xd fs)
theorem le_upx {L : Lp} {od : Option Addr} {fs : List (Str × D)} (h : ∀ d, od = some d → L d = none) : Le L (upx L od fs) := by
  cases od with
  | none => exact Le.refl L
  | some d => exact (Le.refl L).new (h d rfl)
abbrev TsX := Addr → Addr → Option Addr → TS'
/-- what the maker of the lambda is told -/
def TTd (K : PySem.W.Frag) (CS : Addr) (ts : TsX) (tr : TS') (tl : XK' → Lp → VK' → Prop) : Lp → VK' → Prop := fun L Q =>
  tl (fun C fs L' => PySem.W.exmOne K (.ref C) (.ref CS) = some true ∧ ∀ (a : Addr) (od : Option Addr), L' a = none → (∀ d, od = some d → L' d = none) → (od = none ↔ fs = []) →
    ts a C od { nx := fun τ' L2 => tr { nx := fun _ L3 => Dn (Q .non) L3, rt := fun d L3 => Dn (Q d) L3 } (τ'.set 1 none) L2, rt := fun d L3 => Dn (Q d) L3 } [none, some (.ref a)] (upx L' od fs)) L (fun d L1 => Q (.tup [.str "", d]) L1)
/-- the same at the hand layer -/
def TTh (K : PySem.W.Frag) (CS : Addr) (ts : TsX) (tr : TS') : (XK → Hp → VK → Prop) → Hp → VK → Prop := fun tl H Q =>
  tl (fun cls d H' => PySem.W.exmOne K cls (.ref CS) = some true ∧ ∀ (a : Addr) (z : Option V), H' a = none → ∃ C, cls = .ref C ∧ lS K (ts a C d) { nx := fun σ' H2 => lS K tr { nx := fun _ H3 => Q .non H3, rt := Q } (σ'.set 1 none) H2, rt := Q } [z, some (.ref a)] H') H
    (fun v H1 => ([V.str "", v] : List V).length ≤ sizeLine ∧ ∀ p, H1 p = none → Q (.ref p) (upd H1 p (.tup [.str "", v])))
theorem tth_of {K : PySem.W.Frag} {CS : Addr} {ts : TsX} {tr : TS'} {t' : XK' → TE'} {τ : S'} {σ : L2.St} {L : Lp} {H : Hp} {Q' : VK'} {Q : VK} (a : RepS K H τ σ) (b : RepH K H L) (c : TTd K CS ts tr (fun E' L' Q' => t' E' τ L' Q') L Q')
    (k : ∀ d L1 v H1, Q' d L1 → Kp H H1 → RepH K H1 L1 → RelD K H1 d v → Q v H1) : TTh K CS ts tr (fun E H' Q2 => lXE K E t' σ H' Q2) H Q := by
  refine ⟨τ, L, _, _, a, b, c, fun d L1 v H1 q kp rh rd => ⟨by rw [sizeLine_eq]; exact (by decide : 2 ≤ 16777216), fun p np => ?_⟩, fun C fs L' od H1 q kp rh ex => ⟨q.1, fun aa z na => ⟨C, rfl, ?_⟩⟩⟩
  · exact k _ L1 _ _ q (kp.trans (Kp.new np)) (rh.hid np) (.tup upd_same (.cons (.str _) (.cons (rd.mono (Kp.new np)) .nil)))
  · have dn : ∀ (d : D) (L2 : Lp) (v : V) (H2 : Hp), Dn (Q' d) L2 → Kp H H2 → RepH K H2 L2 → RelD K H2 d v → Q v H2 := fun d L2 v H2 ⟨L3, l, q3⟩ kp2 rh2 rd => k d L3 v H2 q3 kp2 (rh2.le l) rd
    have nd : ∀ d, od = some d → L' d = none := fun d e => by
      rcases ex with ⟨e2, _⟩ | ⟨d2, gs, e2, e3, _⟩
      · rw [e] at e2; cases e2
      · rw [e] at e2; cases e2; exact e3
    have z0 : od = none ↔ fs = [] := by
      rcases ex with ⟨e1, e2⟩ | ⟨d2, gs, e2, _, _, _, e3⟩
      · exact ⟨fun _ => e2, fun _ => e1⟩
      · exact ⟨fun e => (by rw [e] at e2; cases e2), fun e => absurd e e3⟩
    have rx : RepH K H1 (upx L' od fs) := by
      cases od with
      | none => exact rh
      | some d =>
        rcases ex with ⟨e2, _⟩ | ⟨d2, gs, e2, e3, e4, r, _⟩
        · cases e2
        · cases e2
          intro b o e
          by_cases hb : b = d
          · subst hb
            have z : Z.up L' b (.xd fs) b = some (.xd fs) := up_same
            rw [show upx L' (some b) fs = Z.up L' b (.xd fs) from rfl, z] at e
            cases e
            exact ⟨gs, e4, r⟩
          · rw [show upx L' (some d) fs = Z.up L' d (.xd fs) from rfl, up_ne hb] at e
            exact rh b o e
    refine ⟨[none, some (.ref aa)], upx L' od fs, _, ⟨rfl, fun i d e => ?_⟩, rx, q.2 aa od (rh.no na) nd z0, ?_, ?_, fun _ _ _ _ z => z.elim, fun _ _ _ _ z => z.elim⟩
    · match i, e with
      | 0, e => cases e
      | 1, e => cases e; exact ⟨_, rfl, .ref _⟩
    · intro τ2 L2 σ2 H2 q2 kp2 rh2 rs2
      refine ⟨_, L2, _, rs2.none 1, rh2, q2, ?_, ?_, fun _ _ _ _ z => z.elim, fun _ _ _ _ z => z.elim⟩
      · intro τ3 L3 σ3 H3 q3 kp3 rh3 _
        exact dn _ L3 _ H3 q3 ((kp.trans kp2).trans kp3) rh3 .non
      · intro d L3 v H3 q3 kp3 rh3 rd
        exact dn _ L3 _ H3 q3 ((kp.trans kp2).trans kp3) rh3 rd
    · intro d L3 v H3 q3 kp3 rh3 rd
      exact dn _ L3 _ H3 q3 (kp.trans kp3) rh3 rd
theorem takes_len {X : Cx} {W : WX} (tk : Takes X W) : Takes X (fun c d σ H => σ.length = X.N.length → W c d σ H) := fun u s' ⟨a, B, sI, pins, σ, H, cls, d, e, I, nb, up, sky, na, os, ag, w⟩ => tk u s' ⟨a, B, sI, pins, σ, H, cls, d, e, I, nb, up, sky, na, os, ag, w I.len⟩
/-- the def that is handed the lambda -/
theorem told_as {X : Cx} {x a n e q : Str} {sg : Scope} {g CS : Addr} {cdg : Value} {j kk : Nat} {p0 p1 p2 p3 p4 p5 p6 p7 : Pos} {b₀ : Stmt} {suite rest : List Stmt} {ts : TsX} {tr : TS'}
    (hge : sg.names.lookup e = some .globalImplicit) (hme : X.mg e = some (.ref CS)) (hde : (e == ("__debug__" : Str)) = false) (hN : ([a, n] : List Str).Nodup) (hln : sg.names.lookup n = some .local)
    (hsu : ∀ (A : Around) (outer : List Env) (s : Shared) (H : Hp) (aa : Addr) (oe : Obj) (C : Addr) (d : Option Addr) (pn : List (Addr × Obj)), Zc (.ref C) d oe → (∃ vs, oe.data = .fields vs) → QSs ((cxOf C8.CX0 X.prog X.w X.K X.mg X.base [a, n] x sg g cdg A outer s H C8.E0).nox.suite aa ((aa, oe) :: pn)) (b₀ :: suite) (ts aa C d))
    (hre : ∀ (A : Around) (outer : List Env) (s : Shared) (H : Hp), QSs (cxOf C8.CX0 X.prog X.w X.K X.mg X.base [a, n] x sg g cdg A outer s H C8.E0).nox rest tr) :
    LamX.GivesTo X [a, n] x sg g cdg (.Try [.Return (some (.Tuple [.Constant (.str "") j p0, .Call (.Name a p1) [] [] p2] kk p3)) p4] [.ExceptHandler (some (.Name e p5)) (some n) (b₀ :: suite) p6] [] [] p7 :: rest) a q (TTh X.K CS ts tr) := by
  intro f c' s H Q tl act hc h
  have hgl : Gl (cxOf C8.CX0 X.prog X.w X.K X.mg X.base [a, n] x sg g cdg X.A X.stack s H C8.E0).nox e := hge
  refine ⟨_, pss_cons (ps_try_as (X := (cxOf C8.CX0 X.prog X.w X.K X.mg X.base [a, n] x sg g cdg X.A X.stack s H C8.E0).nox) (c := .ref CS) (i := 1) (n := n)
      (tb := fun W D σ H => ∃ Ech : XK, (∀ cls d σ' H', Ech cls d H' → σ'.length = 2 → W cls d σ' H') ∧ σ[0]? = some (some (.ref f)) ∧ H c' = some (LamX.CodeO c' q) ∧ tl Ech H fun v H1 => ([V.str "", v] : List V).length ≤ sizeLine ∧ ∀ p, H1 p = none → D.rt (.ref p) (upd H1 p (.tup [.str "", v])))
      (ts := fun aa cls d D σ H => ∃ C, cls = .ref C ∧ lS X.K (ts aa C d) D σ H)
      rfl rfl hN rfl hln ⟨hgl, hde, .inl hme⟩ takes0 (fun W pn xe tk _ => ?_) (fun aa oe cls d pn hz hf => ?_)) (hre X.A X.stack s H), ?_⟩
  · refine ⟨fun pins s' σ H' D I h' => ?_⟩
    obtain ⟨Ech, hW, h1, h2, h3⟩ := h'
    have hp := act _ pn xe Ech p1 p2 (takes_len tk) fun cls d σ' H' q l => hW cls d σ' H' q l
    refine (pss_one (ps_ret (pos := p4) (pe_tup (x1 := kk) (pos := p3) (pa_cons (pe_str (pos := p0) (j := j)) (pa_cons hp pa_nil))))).run pins s' σ H' D I ?_
    exact ⟨h1, h2, h3⟩
  · refine ⟨fun pins s' σ H' D I h' => ?_⟩
    obtain ⟨C, e, h'⟩ := h'
    subst e
    exact (hsu X.A X.stack s H aa oe C d pn hz hf).run pins s' σ H' D I h'
  · refine ⟨_, fun cls d σ' H' q l => ?_, rfl, hc, h⟩
    obtain ⟨q1, q2⟩ := q
    refine ⟨true, q1, fun _ aa na => ?_, fun z => nomatch z⟩
    match σ', l with
    | [z, y], _ => exact q2 aa z na
/-! ### x(lambda: body) -/
def TabsAre (T : List (Addr × Str)) (L : Lp) : Prop := (∀ p ∈ T, L p.1 = some (.tab p.2)) ∧ ∀ P q, L P = some (.tab q) → (P, q) ∈ T
theorem TabsAre.up {T : List (Addr × Str)} {L : Lp} {a : Addr} {o : O} (h : TabsAre T L) (n : ∀ q, L a ≠ some (.tab q)) (m : ∀ q, o ≠ .tab q) : TabsAre T (up L a o) := by
  refine ⟨fun p hp => ?_, fun P q e => ?_⟩
  · rw [up_ne (fun z => n p.2 (by rw [← z]; exact h.1 p hp))]
    exact h.1 p hp
  · by_cases z : P = a
    · subst z
      rw [up_same] at e
      cases e
      exact absurd rfl (m q)
    · rw [up_ne z] at e
      exact h.2 P q e
def wLam (T : List (Addr × Str)) (K : PySem.W.Frag) (CS : Addr) (ts : TsX) (tr : TS') (t' : XK' → TE') : TE' := fun τ L Q => TabsAre T L ∧ TTd K CS ts tr (fun E' L' Q' => t' E' τ L' Q') L Q
theorem wLam_e {T : List (Addr × Str)} {K : PySem.W.Frag} {CS : Addr} {ts : TsX} {tr : TS'} {t' : XK' → TE'} {τ : S'} {L : Lp} {Q : VK'} : wLam T K CS ts tr t' τ L Q = (TabsAre T L ∧ TTd K CS ts tr (fun E' L' Q' => t' E' τ L' Q') L Q) := rfl
section
variable {X : Cx}
theorem q_lamcall {T : List (Addr × Str)} {CS : Addr} {ts : TsX} {tr : TS'} {x a : Str} {g c P : Addr} {k : Nat} {pg : Arguments} {bg : List Stmt} {sg : Scope} {dV kV doc pm cdv ct oc : Value} {an od : Option Addr} {osl : Array (Option Value)} {Ng : List Str}
    {params : Arguments} {body : Expr} {scope : Scope} {t' : XK' → TE'} {p lpos pos : Pos} (hg : Gl X x) (hm : X.mg x = some (.ref g)) (hk : PySem.W.keepIn X.K (.ref g) = true)
    (lk : X.K.lookup g = some ⟨oc, od, .func (PySem.W.fnOf x x pg bg sg dV kV doc pm an cdv ct), osl⟩) (hcg : PySem.W.codeIn X.K cdv x = true) (hb : L2.Binds X.K (PySem.W.fnOf x x pg bg sg dV kV doc pm an cdv ct) [a] []) (Sg : FnScope Ng [a] sg) (hNg : Ng[0]? = some a) (hva : Vis sg a)
    (hG : LamX.GivesTo X Ng x sg g cdv bg a (X.env.qual ++ "<lambda>") (TTh X.K CS ts tr))
    (TB : LamX.TabB X.base X.mg c P) (hcode : X.env.code = .ref c) (hmT : (P, X.env.qual ++ "<lambda>") ∈ T) (hu : ∀ p ∈ T, p.1 = P → p.2 = X.env.qual ++ "<lambda>") (hr : Room (k + 2) X.A) (L : LamX.LamS X.env.scope scope) (hdef : defaultsOf params X.env = ([], []))
    (hbind : ∀ (q : Str) (cl : List (Str × Addr)) (pm cv ctv : Value), bindArgs (PySem.W.kla_fn "<lambda>" q params body scope cl pm cv ctv) ⟨[], []⟩ = pure [])
    (hbody : ∀ (A : Around) (outer : List Env) (s : Shared) (H : Hp) (E : XK) (f c' : Addr), Room k (A.deeper (LamX.lamEnv X scope s.heap.objs.size f c')) → Takes (LamX.lamCx X A outer s H E scope f c') (fun cls d _ H => E cls d H) → PE (LamX.lamCx X A outer s H E scope f c') body (lXE X.K E t'))
    (hdb : (x == ("__debug__" : Str)) = false := by decide) (hd : (a == ("__debug__" : Str)) = false := by decide) (hcd : (a == ("__classdict__" : Str)) = false := by decide) :
    QE X (.Call (.Name x p) [.Lambda params body scope lpos] [] pos) (wLam T X.K CS ts tr t') :=
  PE.str (LamX.pe_lamcall (T := T) (TT := TTh X.K CS ts tr) (t := fun E => lXE X.K E t') hg hm hk lk hcg hb Sg hNg hva hG TB hcode hmT hu hr L hdef hbind (fun A outer s H E f c' hr2 => hbody A outer s H E f c' hr2 (takes_of rfl rfl rfl rfl)) hdb hd hcd) fun σ H Q h => by
    obtain ⟨τ, L, Q', a, b, ⟨hT, c⟩, k⟩ := h
    refine ⟨fun q hq => b _ _ (hT.1 q hq), fun H1 eN T1 => ?_⟩
    have kp1 : Kp H H1 := ⟨fun a xs e => eN _ _ e (fun _ z => nomatch z), fun a ob u e => eN _ _ e (fun _ z => nomatch z)⟩
    have rh1 : RepH X.K H1 L := fun a o e => by
      have ro := b a o e
      cases o with
      | lst ds => obtain ⟨vs, e, r⟩ := ro; exact ⟨vs, eN _ _ e (fun _ z => nomatch z), r.mono kp1⟩
      | ins C fs => obtain ⟨dx, gs, e, r⟩ := ro; exact ⟨dx, gs, eN _ _ e (fun _ z => nomatch z), RelK.mono kp1 r⟩
      | dT kvs => obtain ⟨ws, e, r⟩ := ro; exact ⟨ws, eN _ _ e (fun _ z => nomatch z), RelK.mono kp1 r⟩
      | dK kvs => obtain ⟨ws, e, r⟩ := ro; exact ⟨ws, eN _ _ e (fun _ z => nomatch z), RelK.mono kp1 r⟩
      | xd fs => obtain ⟨ws, e, r⟩ := ro; exact ⟨ws, eN _ _ e (fun _ z => nomatch z), RelK.mono kp1 r⟩
      | tab q => exact T1 _ (hT.2 _ _ e)
    exact tth_of (a.mono kp1) rh1 c fun d L1 v H1 q kp => k d L1 v H1 q (kp1.trans kp)
end
end Z

/-! errors by data: isinstance, defs that make lambdas -/
namespace Z
open PySem PySem.Spec PyProof.Rows L2
theorem hpX {CX : CXT} {P : Program} {w : World} {K : PySem.W.Frag} {mg : Str → Option Value} {base : Heap} {N : List Str} {qual : Str} {scope : Scope} {f : Addr} {cdv : Value} {A : Around} {outer : List Env} {s : Shared} {H : Hp} {E : XK} :
    PassesOwn (model (cxOf CX P w K mg base N qual scope f cdv A outer s H E).prog (cxOf CX P w K mg base N qual scope f cdv A outer s H E).w) (cxOf CX P w K mg base N qual scope f cdv A outer s H E).A (cxOf CX P w K mg base N qual scope f cdv A outer s H E).env (cxOf CX P w K mg base N qual scope f cdv A outer s H E).xe := PassesOwn.leaving
section
variable {X : Cx} {k : Nat} {f : Addr} {fd : FuncData} {ps : List Str} {sp : Sp'} {x : Str} {p pos : Pos} {e : Expr} {es : List Expr} {t : TA'}
/-- a def that may raise, called where it does not -/
theorem q_callX0 (F : FnOk X.prog X.w X.K X.mg X.base (L2.CX X.prog X.w) k f fd ps (lSp X.K sp)) (hr : Room k X.A) (hg : Gl X x) (hm : X.mg x = some (.ref f)) (hk : PySem.W.keepIn X.K (.ref f) = true) (hb : Binds X.K fd ps []) (ha : QA X (e :: es) t)
    (hdb : (x == ("__debug__" : Str)) = false := by decide) (he : starEach (e :: es) X.env = (false, eval e X.env) :: starEach es X.env := by rfl) (hpl : (backTo pos (starEach es X.env)).any (·.1) = false := by rfl) :
    QE X (.Call (.Name x p) (e :: es) [] pos) (wCallX sp t fun _ => X0) := PE.str (px_call F takes0 hr hg hm hk hb ha hdb he hpl) fun σ H Q h => by
  obtain ⟨τ, L, Q', a, b, c, k⟩ := h
  exact ⟨τ, L, Q', fun _ => X0, a, b, c, k, fun _ _ _ _ _ _ _ z => z.elim⟩
/-- isinstance(e, T), e the error that the suite holds -/
def wIsE (K : PySem.W.Frag) (a C : Addr) (od : Option Addr) (cv : Value) (te : TE') : TE' := fun τ L Q => od = none ∧ ExcC K C ∧ te τ L fun d L1 => d = .ref a ∧ ∃ b, PySem.W.kitOne K (.ref C) cv = some b ∧ Q (.bl b) L1
theorem wIsE_e {K : PySem.W.Frag} {a C : Addr} {od : Option Addr} {cv : Value} {te : TE'} {τ : S'} {L : Lp} {Q : VK'} : wIsE K a C od cv te τ L Q = (od = none ∧ ExcC K C ∧ te τ L fun d L1 => d = .ref a ∧ ∃ b, PySem.W.kitOne K (.ref C) cv = some b ∧ Q (.bl b) L1) := rfl
theorem q_isE {a C : Addr} {oe : Obj} {od : Option Addr} {pn : List (Addr × Obj)} {T : Expr} {cv : Value} {v : V} {te : TE'} (hz : Zc (.ref C) od oe) (hf : ∃ vs, oe.data = .fields vs) (hT : PE (X.suite a ((a, oe) :: pn)) T (tC v)) (hv : ∀ u, RelV v u → u = cv)
    (hg : Gl (X.suite a ((a, oe) :: pn)) "isinstance") (hm : X.mg "isinstance" = none) (h1 : QE (X.suite a ((a, oe) :: pn)) e te)
    (he : starEach (e :: [T]) X.env = (false, eval e X.env) :: starEach [T] X.env := by rfl) (he2 : starEach (T :: []) X.env = (false, eval T X.env) :: starEach [] X.env := by rfl) (hpl : (backTo pos (starEach [T] X.env)).any (·.1) = false := by rfl) :
    QE (X.suite a ((a, oe) :: pn)) (.Call (.Name "isinstance" p) [e, T] [] pos) (wIsE X.K a C od cv te) := ⟨fun pins s σ H Q I h => by
  obtain ⟨τ, L, Q', ra, rb, ⟨e0, EC, c⟩, k⟩ := h
  subst e0
  refine (pe_callB (call_isE EC hz hf) hg hm (by decide +kernel) (pa_cons h1 (pa_cons hT pa_nil he2) he) (by decide) (by decide) he hpl).run pins s σ H Q I ?_
  refine ⟨τ, L, _, ra, rb, c, fun d L1 x H1 q kp rh rd => ?_⟩
  obtain ⟨q1, b, q3, q4⟩ := q
  subst q1
  cases rd
  exact ⟨v, cv, b, rfl, hv, q3, k _ L1 _ H1 q4 kp rh (.bl b)⟩⟩
end
section
variable {P : Program} {w : World} {K : PySem.W.Frag} {mg : Str → Option Value} {base : Heap} {x qual : Str} {params : Arguments} {body : List Stmt} {scope : Scope} {dvs : List V} {kws : List (Str × V)} {fd : FuncData} {pt : Str × Option Str}
/-- a def that makes lambdas: its code object is known -/
theorem okDL {N ps : List Str} {k : Nat} {sp : Sp'} {t : TS'} (F : FunD K x qual params body scope dvs kws (He.fAd K pt) fd) (S : FnScope N ps scope) (len : ∀ ds L Q E, sp ds L Q E → ds.length = ps.length)
    (hb : ∀ (A : Around) (outer : List Env) (s : Shared) (H : Hp) (E : XK), Room k (A.deeper (envOfC qual scope s.heap.objs.size (He.fAd K pt) (.ref (He.codeOf K pt)))) → QSs (cxOf CX0 P w K mg base N qual scope (He.fAd K pt) (.ref (He.codeOf K pt)) A outer s H E) body t)
    (hs : ∀ ds L Q E, sp ds L Q E → t { nx := fun _ L1 => Dn (Q .non) L1, rt := fun d L1 => Dn (Q d) L1 } (start' N ds) L) : FnOk P w K mg base CX0 (k + 1) (He.fAd K pt) fd ps (lSp K sp) := by
  obtain ⟨oc, od, dV, kV, doc, pm, an, cdv, ct, osl, rfl, lk, hcd, _, _⟩ := F.ex
  obtain ⟨c, rfl⟩ := He.codeIn_ref hcd
  have ec := He.codeOf_eq lk (c := c) rfl
  subst ec
  refine fn_of lk hcd S (fun vs H Q E h => ?_) fun A outer s H vs Q E hr h => ?_
  · obtain ⟨ds, L, Q', E', r, _, q, _⟩ := h
    rw [← r.length]
    exact len _ _ _ _ q
  · obtain ⟨ds, L, Q', E', r, rh, q, k1, k2⟩ := h
    refine ⟨_, hb A outer s H E hr, start' N ds, L, _, start_rep r N, rh, hs _ _ _ _ q, ?_, ?_, fun _ _ _ _ z => z.elim, fun _ _ _ _ z => z.elim⟩
    · rintro τ1 L1 σ1 H1 ⟨L2, l, q2⟩ kp rh1 _
      exact k1 _ L2 _ H1 q2 kp (rh1.le l) .non
    · rintro d L1 v H1 ⟨L2, l, q2⟩ kp rh1 rd
      exact k1 _ L2 _ H1 q2 kp (rh1.le l) rd
end
section
variable {X : Cx}
theorem q_lamF {T : List (Addr × Str)} {CS : Addr} {ts : TsX} {tr : TS'} {x a : Str} {g c P : Addr} {k : Nat} {pg : Arguments} {bg : List Stmt} {sg : Scope} {fd : FuncData} {Ng : List Str}
    {params : Arguments} {body : Expr} {scope : Scope} {t' : XK' → TE'} {p lpos pos : Pos} (hg : Gl X x) (hm : X.mg x = some (.ref g)) (F : FunD X.K x x pg bg sg [] [] g fd) (hb : L2.Binds X.K fd [a] []) (Sg : FnScope Ng [a] sg) (hNg : Ng[0]? = some a) (hva : Vis sg a)
    (hG : ∀ cdv, LamX.GivesTo X Ng x sg g cdv bg a (X.env.qual ++ "<lambda>") (TTh X.K CS ts tr))
    (TB : LamX.TabB X.base X.mg c P) (hcode : X.env.code = .ref c) (hmT : (P, X.env.qual ++ "<lambda>") ∈ T) (hu : ∀ p ∈ T, p.1 = P → p.2 = X.env.qual ++ "<lambda>") (hr : Room (k + 2) X.A) (L : LamX.LamS X.env.scope scope) (hdef : defaultsOf params X.env = ([], []))
    (hbind : ∀ (q : Str) (cl : List (Str × Addr)) (pm cv ctv : Value), bindArgs (PySem.W.kla_fn "<lambda>" q params body scope cl pm cv ctv) ⟨[], []⟩ = pure [])
    (hbody : ∀ (A : Around) (outer : List Env) (s : Shared) (H : Hp) (E : XK) (f c' : Addr), Room k (A.deeper (LamX.lamEnv X scope s.heap.objs.size f c')) → Takes (LamX.lamCx X A outer s H E scope f c') (fun cls d _ H => E cls d H) → PE (LamX.lamCx X A outer s H E scope f c') body (lXE X.K E t'))
    (hdb : (x == ("__debug__" : Str)) = false := by decide) (hd : (a == ("__debug__" : Str)) = false := by decide) (hcd : (a == ("__classdict__" : Str)) = false := by decide) :
    QE X (.Call (.Name x p) [.Lambda params body scope lpos] [] pos) (wLam T X.K CS ts tr t') := by
  obtain ⟨oc, od, dV, kV, doc, pm, an, cdv, ct, osl, e, lk, hcd2, _, _⟩ := F.ex
  subst e
  exact q_lamcall hg hm F.kp lk hcd2 hb Sg hNg hva (hG cdv) TB hcode hmT hu hr L hdef hbind hbody hdb hd hcd
end
theorem excC_ok {K : PySem.W.Frag} {D : Addr} (h : excCB K D = true) : ExcC K D := by
  obtain ⟨h1, h⟩ := He.ba h
  obtain ⟨h2, h⟩ := He.ba h
  obtain ⟨h3, h⟩ := He.ba h
  obtain ⟨h4, h⟩ := He.ba h
  obtain ⟨h5, h⟩ := He.ba h
  obtain ⟨h6, h⟩ := He.ba h
  obtain ⟨h7, h8⟩ := He.ba h
  exact ⟨of_decide_eq_true h1, of_decide_eq_true h2, of_decide_eq_true h3, h4, of_decide_eq_true h5, of_decide_eq_true h6, of_decide_eq_true h7, of_decide_eq_true h8⟩
theorem rg_rev : Rg List.reverse := ⟨fun h => h.reverse, fun h => h.rev⟩
end Z

namespace Hd
open PySem PySem.Spec PyProof.Rows L2 Z
/-! what the defs promise -/
abbrev numD (q : Rat) : D := .tup [.int q.num, .int (q.den : Int)]
abbrev C3 : Type := Rat × Rat × Rat
abbrev F3 : Type := Int × Int × Int
abbrev cD (c : C3) : D := .tup [numD c.1, numD c.2.1, numD c.2.2]
abbrev ptD (p : Rat × Rat) : D := .tup [numD p.1, numD p.2]
abbrev fD (f : F3) : D := .tup [.int f.1, .int f.2.1, .int f.2.2]
abbrev prD (p : Int × Int) : D := .tup [.int p.1, .int p.2]
/-- small enough for a product -/
def Sm (q : Rat) : Prop := q.num.natAbs < 2 ^ 4000 ∧ q.den < 2 ^ 4000
/-- a number with a denominator that divides d, below b -/
def Wd (d b : Nat) (q : Rat) : Prop := ∃ x : Int, q = mkRat x d ∧ x.natAbs < b
/-- a coordinate -/
abbrev Ok1 (q : Rat) : Prop := Wd 27720 (2 ^ 60) q
def Ok3 (c : C3) : Prop := Ok1 c.1 ∧ Ok1 c.2.1 ∧ Ok1 c.2.2
/-- as it is passed -/
def Hnd (q : Rat) (d : D) : Prop := d = numD q ∨ (q.den = 1 ∧ d = .int q.num)
def HC (c : C3) (d : D) : Prop := ∃ d1 d2 d3, d = .tup [d1, d2, d3] ∧ Hnd c.1 d1 ∧ Hnd c.2.1 d2 ∧ Hnd c.2.2 d3
inductive All2 {α β : Type} (R : α → β → Prop) : List α → List β → Prop where
  | nil : All2 R [] []
  | cons {a : α} {b : β} {as : List α} {bs : List β} : R a b → All2 R as bs → All2 R (a :: as) (b :: bs)
def sp_is_integer : Sp' := fun ds L Q E => match ds with
  | [d] => tyK (tyD d L) fun n => Q (.bl (n == "int")) L
  | _ => False
def sp_lowest : Sp' := fun ds L Q E => match ds with
  | [.int n, .int d] => 0 < d ∧ d.natAbs < 2 ^ 8500 ∧ Q (numD (mkRat n d.toNat)) L
  | _ => False
def sp_exact : Sp' := fun ds L Q E => match ds with
  | [d] => (∃ q : Rat, Hnd q d ∧ q.den < 2 ^ 8500 ∧ Q (numD q) L) ∨ ∃ n e : Int, d = .tup [.int n, .int e] ∧ 0 < e ∧ e.natAbs < 2 ^ 8500 ∧ Q (numD (mkRat n e.toNat)) L
  | _ => False
def sp_is_number : Sp' := fun ds L Q E => match ds with
  | [d] => ∃ q : Rat, Hnd q d ∧ Q (.bl true) L
  | _ => False
def sp_is_corner : Sp' := fun ds L Q E => match ds with
  | [d] => ∃ c, HC c d ∧ Q (.bl true) L
  | _ => False
def sp_is_index : Sp' := fun ds L Q E => match ds with
  | [.int i, .int m] => (0 ≤ i ∧ i < m) ∧ Q (.bl true) L
  | _ => False
def InF (m : Int) (f : F3) : Prop := (0 ≤ f.1 ∧ f.1 < m) ∧ (0 ≤ f.2.1 ∧ f.2.1 < m) ∧ (0 ≤ f.2.2 ∧ f.2.2 < m)
def sp_is_face : Sp' := fun ds L Q E => match ds with
  | [d, .int m] => ∃ f, d = fD f ∧ InF m f ∧ Q (.bl true) L
  | _ => False
/-- a net -/
abbrev netO (K : PySem.W.Frag) (cs : List C3) (fs : List F3) : O := .ins (He.ga K "Net") [("corners", .tup (cs.map cD)), ("faces", .tup (fs.map fD))]
abbrev netD (K : PySem.W.Frag) (cs : List C3) (fs : List F3) : D := .obj (He.ga K "Net") [("corners", .tup (cs.map cD)), ("faces", .tup (fs.map fD))]
structure Good (cs : List C3) (fs : List F3) : Prop where
  nums : ∀ c ∈ cs, Ok3 c
  ins : ∀ f ∈ fs, InF cs.length f
  lc : cs.length ≤ 40
  lf : fs.length ≤ 90
def sp_Net_init (K : PySem.W.Frag) : Sp' := fun ds L Q E => match ds with
  | [.ref x, a, b] => ∃ cs fs dcs, Good cs fs ∧ All2 HC cs dcs ∧ seqL a L = some dcs ∧ seqL b L = some (fs.map fD) ∧ L x = some (.ins (He.ga K "Net") []) ∧ Q .non (up L x (netO K cs fs))
  | _ => False
def scl (cs : List C3) : Nat := cs.foldl (fun s c => Nat.lcm (Nat.lcm (Nat.lcm s c.1.den) c.2.1.den) c.2.2.den) 1
def tms (S : Nat) (q : Rat) : Int := q.num * ((S : Int) / (q.den : Int))
abbrev scD (S : Nat) (c : C3) : D := .tup [.int (tms S c.1), .int (tms S c.2.1), .int (tms S c.2.2)]
def sp_scaled : Sp' := fun ds L Q E => match ds with
  | [d] => ∃ cs, d = .tup (cs.map cD) ∧ cs.length ≤ 40 ∧ (∀ c ∈ cs, Ok3 c) ∧ Q (.tup [.ilst (cs.map (scD (scl cs))), .int (scl cs)]) L
  | _ => False
def det9 (a b c d e f g h k : Int) : Int := a * (e * k - f * h) - b * (d * k - f * g) + c * (d * h - e * g)
def sp_determinant : Sp' := fun ds L Q E => match ds with
  | [.tup [.int a, .int b, .int c], .tup [.int d, .int e, .int f], .tup [.int g, .int h, .int k]] => (∀ x ∈ [a, b, c, d, e, f, g, h, k], x.natAbs < 2 ^ 2000) ∧ Q (.int (det9 a b c d e f g h k)) L
  | _ => False
def stp (f : F3) : List (Int × Int) := [(f.1, f.2.1), (f.2.1, f.2.2), (f.2.2, f.1)].filter fun p => p.1 ≠ p.2
def sp_steps : Sp' := fun ds L Q E => match ds with
  | [d] => ∃ f, d = fD f ∧ Q (.ilst ((stp f).map prD)) L
  | _ => False
def edg (p : Int × Int) : Int × Int := if p.1 < p.2 then p else (p.2, p.1)
def sp_edge_of : Sp' := fun ds L Q E => match ds with
  | [.int p, .int q] => Q (prD (edg (p, q))) L
  | _ => False
/-- the surplus of an edge, one more step -/
def val3 (es : List T3) (k : Int × Int) : Option Int := (es.find? fun e => decide ((e.1, e.2.1) = k)).map (·.2.2)
def put3 (es : List T3) (k : Int × Int) (s : Int) : List T3 := if es.any fun e => decide ((e.1, e.2.1) = k) then es.map fun e => if (e.1, e.2.1) = k then (e.1, e.2.1, s) else e else es ++ [(k.1, k.2, s)]
def bump (es : List T3) (k : Int × Int) (s : Int) : List T3 := put3 es k ((val3 es k).getD 0 + s)
def stepB (es : List T3) (p : Int × Int) : List T3 := bump es (edg p) (if p.1 < p.2 then 1 else -1)
def surp (fs : List F3) : List T3 := (fs.flatMap stp).foldl stepB []
def sp_surpluses : Sp' := fun ds L Q E => match ds with
  | [d] => ∃ fs, d = .tup (fs.map fD) ∧ fs.length ≤ 90 ∧ ∀ p, L p = none → Q (.ref p) (up L p (.dT ((surp fs).map ent3D)))
  | _ => False
def opn (fs : List F3) : List T3 := ((surp fs).mergeSort le3).filter fun e => e.2.2 ≠ 0
def sp_open_edges (K : PySem.W.Frag) : Sp' := fun ds L Q E => match ds with
  | [d] => ∃ cs fs, d = netD K cs fs ∧ fs.length ≤ 90 ∧ ∀ p, L p = none → Q (.ref p) (up L p (.lst ((opn fs).map fD)))
  | _ => False
def sp_is_closed (K : PySem.W.Frag) : Sp' := fun ds L Q E => match ds with
  | [d] => ∃ cs fs, d = netD K cs fs ∧ fs.length ≤ 90 ∧ Q (.bl (opn fs).isEmpty) L
  | _ => False
def det3 (a b c : C3) : Rat := a.1 * (b.2.1 * c.2.2 - b.2.2 * c.2.1) + a.2.1 * (b.2.2 * c.1 - b.1 * c.2.2) + a.2.2 * (b.1 * c.2.1 - b.2.1 * c.1)
def cAt (cs : List C3) (i : Int) : C3 := (cs[i.toNat]?).getD (0, 0, 0)
def vol6 (cs : List C3) (fs : List F3) : Rat := fs.foldl (fun s f => s + det3 (cAt cs f.1) (cAt cs f.2.1) (cAt cs f.2.2)) 0
def vol (cs : List C3) (fs : List F3) : Rat := vol6 cs fs * mkRat 1 6
def sp_volume (K : PySem.W.Frag) : Sp' := fun ds L Q E => match ds with
  | [d] => ∃ cs fs, d = netD K cs fs ∧ Good cs fs ∧ Q (numD (vol cs fs)) L
  | _ => False
def shf (n : Nat) (f : F3) : F3 := (f.1 + n, f.2.1 + n, f.2.2 + n)
def unite : List (List C3 × List F3) → List C3 × List F3 := fun ps => ps.foldl (fun a p => (a.1 ++ p.1, a.2 ++ p.2.map (shf a.1.length))) ([], [])
/-! the law's -/
abbrev bagO (ns : List Int) (i r m t : Int) : O := .lst [.ilst (ns.map D.int), .int i, .int r, .int m, .int t]
/-- a bag, at most T draws -/
def IsBag (T : Nat) (o : O) : Prop := ∃ (ns : List Int) (i r m t : Int), o = bagO ns i r m t ∧ ns.length < 64 ∧ 0 ≤ i ∧ 0 ≤ r ∧ 0 ≤ m ∧ m < 2 ^ 64 ∧ 0 ≤ t ∧ t ≤ T
abbrev TTX : Nat := 1099511627776
def sp_law_draw : Sp' := fun ds L Q E => match ds with
  | [.ref b, .int m] => ∃ o T, L b = some o ∧ IsBag T o ∧ T < 1099511627776 ∧ 0 < m ∧ m < 2 ^ 60 ∧ ∀ (n : Nat) o', (n : Int) < m → IsBag (T + 1) o' → Q (.int n) (up L b o')
  | _ => False
def sp_law_of : Sp' := fun ds L Q E => match ds with
  | [.ref b, d] => ∃ o T xs, L b = some o ∧ IsBag T o ∧ T < 1099511627776 ∧ d = .ilst xs ∧ xs ≠ [] ∧ xs.length < 1000 ∧ ∀ x ∈ xs, ∀ o', IsBag (T + 1) o' → Q x (up L b o')
  | _ => False
def Same : Nat → Lp → D → D → Prop
  | 0, _, _, _ => False
  | n + 1, L, d, e => match d, e with
    | .int i, .int j => i = j
    | .bl i, .bl j => i = j
    | .str i, .str j => i = j
    | .tup ds, .tup es => ds.length ≤ sizeLine ∧ All2 (Same n L) ds es
    | .ilst ds, .ilst es => ds.length ≤ sizeLine ∧ All2 (Same n L) ds es
    | .ref a, .ilst es => ∃ ds, L a = some (.lst ds) ∧ ds.length ≤ sizeLine ∧ All2 (Same n L) ds es
    | _, _ => False
def sp_law_sameN (n : Nat) : Sp' := fun ds L Q E => match ds with
  | [d, e] => Same n L d e ∧ Q (.bl true) L
  | _ => False
def sp_law_same : Sp' := sp_law_sameN 6
def sp_law_low : Sp' := fun ds L Q E => match ds with
  | [.int n, .int d] => 0 < d ∧ d.natAbs < 2 ^ 8500 ∧ Q (numD (mkRat n d.toNat)) L
  | _ => False
def sp_law_add : Sp' := fun ds L Q E => match ds with
  | [d, e] => ∃ p q, d = numD p ∧ e = numD q ∧ Sm p ∧ Sm q ∧ Q (numD (p + q)) L
  | _ => False
def sp_law_sub : Sp' := fun ds L Q E => match ds with
  | [d, e] => ∃ p q, d = numD p ∧ e = numD q ∧ Sm p ∧ Sm q ∧ Q (numD (p - q)) L
  | _ => False
def sp_law_mul : Sp' := fun ds L Q E => match ds with
  | [d, e] => ∃ p q, d = numD p ∧ e = numD q ∧ Sm p ∧ Sm q ∧ Q (numD (p * q)) L
  | _ => False
def sp_law_hand : Sp' := fun ds L Q E => match ds with
  | [.ref b, d] => ∃ o T q, L b = some o ∧ IsBag T o ∧ T < 1099511627776 ∧ d = numD q ∧ ∀ e o', Hnd q e → IsBag (T + 1) o' → Q e (up L b o')
  | _ => False
def sp_law_number : Sp' := fun ds L Q E => match ds with
  | [.ref b] => ∃ o T, L b = some o ∧ IsBag T o ∧ T + 9 < 1099511627776 ∧ ∀ q o', Ok1 q → IsBag (T + 9) o' → Q (numD q) (up L b o')
  | _ => False
/-- a coordinate of a ring -/
abbrev Ok6 (q : Rat) : Prop := Wd 6 1000 q
def sp_law_ring : Sp' := fun ds L Q E => match ds with
  | [.ref b] => ∃ o T, L b = some o ∧ IsBag T o ∧ T + 20 < 1099511627776 ∧ ∀ (xs : List (Rat × Rat)) o', (3 ≤ xs.length ∧ xs.length ≤ 5) → (∀ x ∈ xs, Ok6 x.1 ∧ Ok6 x.2) → IsBag (T + 20) o' → Q (.ilst (xs.map ptD)) (up L b o')
  | _ => False
def boxR (x y w t : Int) : List (Int × Int) := [(x, y), (x + w, y), (x + w, y + t), (x, y + t)]
abbrev iiD (p : Int × Int) : D := .tup [.tup [.int p.1, .int 1], .tup [.int p.2, .int 1]]
def loftC (xs ys : List (Rat × Rat)) (lo hi : Rat) : List C3 := xs.map (fun x => (x.1, x.2, lo)) ++ ys.map fun x => (x.1, x.2, hi)
/-- corners and faces as the law holds them -/
abbrev pairD (cs : List C3) (fs : List F3) : D := .ilst [.ilst (cs.map cD), .ilst (fs.map fD)]
def loftA (m : Nat) (i : Nat) : List F3 := (List.range i).flatMap fun (k : Nat) => [((k : Int), ((k : Int) + 1) % m, (m : Int) + ((k : Int) + 1) % m), ((k : Int), (m : Int) + ((k : Int) + 1) % m, (m : Int) + k)]
def fanL (k : Nat) : List F3 := (List.range k).map fun (j : Nat) => ((0 : Int), (1 + (j : Int)) + 1, 1 + (j : Int))
def fanU (m k : Nat) : List F3 := (List.range k).map fun (j : Nat) => ((m : Int), (m : Int) + (1 + (j : Int)), (m : Int) + (1 + (j : Int)) + 1)
def loftF (m : Nat) : List F3 := loftA m m ++ fanL (m - 2) ++ fanU m (m - 2)
def sp_law_loft : Sp' := fun ds L Q E => match ds with
  | [du, dl, dv, dh] => ∃ xs ys lo hi, du = .ilst (xs.map ptD) ∧ dv = .ilst (ys.map ptD) ∧ dl = numD lo ∧ dh = numD hi ∧ (3 ≤ xs.length ∧ xs.length ≤ 7 ∧ ys.length = xs.length) ∧ Q (pairD (loftC xs ys lo hi) (loftF xs.length)) L
  | _ => False
def trn (f : F3) : F3 := (f.1, f.2.2, f.2.1)
def sp_law_det : Sp' := fun ds L Q E => match ds with
  | [d, e, f] => ∃ a b c, d = cD a ∧ e = cD b ∧ f = cD c ∧ Ok3 a ∧ Ok3 b ∧ Ok3 c ∧ Q (numD (det3 a b c)) L
  | _ => False
def sp_law_volume : Sp' := fun ds L Q E => match ds with
  | [d] => ∃ cs fs, d = pairD cs fs ∧ Good cs fs ∧ Q (numD (vol cs fs)) L
  | _ => False
def stpL (f : F3) : List (Int × Int) := [(f.2.2, f.1), (f.1, f.2.1), (f.2.1, f.2.2)].filter fun p => p.1 ≠ p.2
def surpL (fs : List F3) : List T3 := (fs.flatMap stpL).foldl stepB []
/-! k24 -/
def lamT (K : PySem.W.Frag) : List (Addr × Str) := [((He.cT K (("_law_once", none))).2, (envOfC "_law_once" ⟨.function, [], false, false, []⟩ 0 0 .none).qual ++ "<lambda>")]
def HP (x : Rat × Rat) (d : D) : Prop := ∃ d1 d2, d = .tup [d1, d2] ∧ Hnd x.1 d1 ∧ Hnd x.2 d2
abbrev Ok2 (x : Rat × Rat) : Prop := Ok1 x.1 ∧ Ok1 x.2
def sp_law_bag : Sp' := fun ds L Q E => match ds with
  | [d] => ∃ ns : List Int, (d = .ilst (ns.map D.int) ∨ d = .scr ns ∨ ∃ a, d = .ref a ∧ L a = some (.lst (ns.map D.int))) ∧ ∀ b o, L b = none → IsBag 0 o → Q (.ref b) (up L b o)
  | _ => False
def sp_as_number : Sp' := fun ds L Q E => match ds with
  | [d] => ∃ q, Hnd q d ∧ Q (numD q) L
  | _ => False
def cmpR (p q : Rat) : Int := if p < q then -1 else if q < p then 1 else 0
def sp_compare : Sp' := fun ds L Q E => match ds with
  | [d, e] => ∃ p q, Hnd p d ∧ Hnd q e ∧ Sm p ∧ Sm q ∧ Q (.int (cmpR p q)) L
  | _ => False
/-- where a loft is refused -/
def BadL (xs ys : List (Rat × Rat)) (lo hi : Rat) : Bool := xs.length != ys.length || decide (xs.length < 3) || !decide (lo < hi)
def sp_loft (K : PySem.W.Frag) : Sp' := fun ds L Q E => match ds with
  | [du, dl, dv, dh] => ∃ xs ys lo hi dxs dys, seqD du L = some dxs ∧ seqD dv L = some dys ∧ All2 HP xs dxs ∧ All2 HP ys dys ∧ Hnd lo dl ∧ Hnd hi dh ∧ (∀ x ∈ xs, Ok2 x) ∧ (∀ x ∈ ys, Ok2 x) ∧ Ok1 lo ∧ Ok1 hi ∧ xs.length ≤ 7 ∧ ys.length ≤ 8 ∧
      (BadL xs ys lo hi = true → E (He.ga K "BadLoft") [] L) ∧ (BadL xs ys lo hi = false → Q (netD K (loftC xs ys lo hi) (loftF xs.length)) L)
  | _ => False
def sp_law_handed : Sp' := fun ds L Q E => match ds with
  | [.ref b, d] => ∃ o T xs, L b = some o ∧ IsBag T o ∧ T + 200 < 1099511627776 ∧ d = .ilst (xs.map ptD) ∧ xs.length ≤ 40 ∧ ∀ ds o' p, IsBag (T + 200) o' → All2 HP xs ds → L p = none → Q (.ref p) (up (up L b o') p (.lst ds))
  | _ => False
def sp_law_lt : Sp' := fun ds L Q E => match ds with
  | [d, e] => ∃ p q, d = numD p ∧ e = numD q ∧ Sm p ∧ Sm q ∧ Q (.bl (decide (p < q))) L
  | _ => False
/-- twice the area -/
def trm (z : (Rat × Rat) × (Rat × Rat)) : Rat := z.2.1 * z.1.2 - z.1.1 * z.2.2
def prv (xs : List (Rat × Rat)) : List ((Rat × Rat) × (Rat × Rat)) := xs.zip (xs.getLastD (0, 0) :: xs)
def area2 (xs : List (Rat × Rat)) : Rat := (prv xs).foldl (fun s z => s + trm z) 0
def sp_law_area : Sp' := fun ds L Q E => match ds with
  | [d] => ∃ xs, d = .ilst (xs.map ptD) ∧ 1 ≤ xs.length ∧ xs.length ≤ 5 ∧ (∀ x ∈ xs, Ok6 x.1 ∧ Ok6 x.2) ∧ Q (numD (area2 xs * mkRat 1 2)) L
  | _ => False
def sp_law_spots : Sp' := fun ds L Q E => match ds with
  | [.ref b, .int m] => ∃ o T, L b = some o ∧ IsBag T o ∧ T + 200 < 1099511627776 ∧ 0 ≤ m ∧ m ≤ 7 ∧ ∀ (xs : List (Rat × Rat)) o', (xs.length : Int) = m → (∀ x ∈ xs, Ok2 x) → IsBag (T + 200) o' → Q (.ilst (xs.map ptD)) (up L b o')
  | _ => False
def sp_law_heights : Sp' := fun ds L Q E => match ds with
  | [.ref b] => ∃ o T, L b = some o ∧ IsBag T o ∧ T + 20 < 1099511627776 ∧ ∀ (lo hi : Rat) o', Ok1 lo → Ok1 hi → IsBag (T + 20) o' → Q (.tup [numD lo, numD hi]) (up L b o')
  | _ => False
def sp_law_right (K : PySem.W.Frag) : Sp' := fun ds L Q E => match ds with
  | [d, e] => ∃ cs fs, d = netD K cs fs ∧ e = pairD cs fs ∧ Good cs fs ∧ opn fs = [] ∧ Q (.bl true) L
  | _ => False
def sp_law_any : Sp' := fun ds L Q E => match ds with
  | [.ref b] => ∃ o T, L b = some o ∧ IsBag T o ∧ T + 500 < 1099511627776 ∧ ∀ (xs ys : List (Rat × Rat)) (lo hi : Rat) o', (∀ x ∈ xs, Ok2 x) → (∀ x ∈ ys, Ok2 x) → Ok1 lo → Ok1 hi → xs.length ≤ 7 → ys.length ≤ 8 → IsBag (T + 500) o' →
      Q (.tup [.ilst (xs.map ptD), numD lo, .ilst (ys.map ptD), numD hi]) (up L b o')
  | _ => False
def sp_law_once (K : PySem.W.Frag) : Sp' := fun ds L Q E => match ds with
  | [.ref b] => ∃ o T, L b = some o ∧ IsBag T o ∧ T + 2000 < 1099511627776 ∧ TabsAre (lamT K) L ∧ ∀ o', IsBag (T + 2000) o' → Q (.bl true) (up L b o')
  | _ => False
def sp_law_prism (K : PySem.W.Frag) : Sp' := fun ds L Q E => match ds with
  | [.ref b] => ∃ o T, L b = some o ∧ IsBag T o ∧ T + 2000 < 1099511627776 ∧ ∀ o', IsBag (T + 2000) o' → Q (.bl true) (up L b o')
  | _ => False
/-- the law -/
def sp_law (K : PySem.W.Frag) : Sp' := fun ds L Q E => match ds with
  | [d] => ∃ ns : List Int, (d = .ilst (ns.map D.int) ∨ d = .scr ns ∨ ∃ a, d = .ref a ∧ L a = some (.lst (ns.map D.int))) ∧ TabsAre (lamT K) L ∧ ∀ L', Q (.bl true) L'
  | _ => False
end Hd

/-! the edges' surpluses: any order of the steps -/
namespace Hd
open Z
abbrev P2 : Type := Int × Int
def ky (e : T3) : P2 := (e.1, e.2.1)
def sg (p : P2) : Int := if p.1 < p.2 then 1 else -1
def tot : List P2 → P2 → Int
  | [], _ => 0
  | p :: ps, k => (if edg p = k then sg p else 0) + tot ps k
theorem tot_perm {ps qs : List P2} (h : ps.Perm qs) (k : P2) : tot ps k = tot qs k := by
  induction h with
  | nil => rfl
  | cons p _ ih => simp only [tot, ih]
  | swap p q l => simp only [tot]; omega
  | trans _ _ a b => exact a.trans b
theorem val3_nil (k : P2) : val3 [] k = none := rfl
theorem val3_cons (e : T3) (es : List T3) (k : P2) : val3 (e :: es) k = if ky e = k then some e.2.2 else val3 es k := by
  unfold val3
  rw [List.find?_cons]
  by_cases h : ky e = k
  · rw [if_pos h]
    have : decide ((e.1, e.2.1) = k) = true := decide_eq_true h
    rw [this]
    rfl
  · rw [if_neg h]
    have : decide ((e.1, e.2.1) = k) = false := decide_eq_false h
    rw [this]
theorem val3_app (es fs : List T3) (k : P2) : val3 (es ++ fs) k = (val3 es k).or (val3 fs k) := by
  induction es with
  | nil => simp [val3_nil]
  | cons e es ih =>
    rw [List.cons_append, val3_cons, val3_cons, ih]
    split <;> simp
theorem val3_none {es : List T3} {k : P2} : val3 es k = none ↔ k ∉ es.map ky := by
  induction es with
  | nil => simp [val3_nil]
  | cons e es ih =>
    rw [val3_cons, List.map_cons, List.mem_cons]
    by_cases h : ky e = k
    · rw [if_pos h]; simp [h]
    · rw [if_neg h, ih]
      constructor
      · rintro a (b | b)
        · exact h b.symm
        · exact a b
      · exact fun a b => a (.inr b)
theorem any_key {es : List T3} {k : P2} : (es.any fun e => decide ((e.1, e.2.1) = k)) = true ↔ k ∈ es.map ky := by
  rw [List.any_eq_true, List.mem_map]
  constructor
  · rintro ⟨e, h1, h2⟩; exact ⟨e, h1, of_decide_eq_true h2⟩
  · rintro ⟨e, h1, h2⟩; exact ⟨e, h1, decide_eq_true h2⟩
theorem upd_keys (es : List T3) (k : P2) (s : Int) : (es.map fun e => if (e.1, e.2.1) = k then (e.1, e.2.1, s) else e).map ky = es.map ky := by
  rw [List.map_map]
  apply List.map_congr_left
  intro e _
  show ky (if (e.1, e.2.1) = k then (e.1, e.2.1, s) else e) = ky e
  split <;> rfl
theorem put3_keys (es : List T3) (k : P2) (s : Int) : (put3 es k s).map ky = if k ∈ es.map ky then es.map ky else es.map ky ++ [k] := by
  unfold put3
  by_cases h : k ∈ es.map ky
  · rw [if_pos h, if_pos (any_key.mpr h), upd_keys]
  · rw [if_neg h, if_neg (fun z => h (any_key.mp z)), List.map_append]
    rfl
theorem upd_val {es : List T3} {k : P2} {s : Int} (j : P2) : val3 (es.map fun e => if (e.1, e.2.1) = k then (e.1, e.2.1, s) else e) j = if j = k then (val3 es k).map (fun _ => s) else val3 es j := by
  induction es with
  | nil => simp [val3_nil]
  | cons e es ih =>
    rw [List.map_cons, val3_cons, ih, val3_cons, val3_cons]
    by_cases h : (e.1, e.2.1) = k
    · rw [if_pos h]
      have hk : ky e = k := h
      by_cases hj : j = k
      · subst hj
        rw [if_pos (show ky (e.1, e.2.1, s) = j from h), if_pos rfl, if_pos hk]
        rfl
      · have : ¬ ky (e.1, e.2.1, s) = j := fun z => hj (z.symm.trans h)
        rw [if_neg this, if_neg hj, if_neg hj, if_neg (fun z => hj (z.symm.trans hk))]
    · rw [if_neg h]
      have hk : ¬ ky e = k := h
      by_cases hj : j = k
      · subst hj
        rw [if_neg hk, if_pos rfl, if_pos rfl, if_neg hk]
      · rw [if_neg hj, if_neg hj]
theorem put3_val (es : List T3) (k : P2) (s : Int) (j : P2) : val3 (put3 es k s) j = if j = k then some s else val3 es j := by
  unfold put3
  by_cases h : k ∈ es.map ky
  · rw [if_pos (any_key.mpr h), upd_val]
    by_cases hj : j = k
    · rw [if_pos hj, if_pos hj]
      cases e : val3 es k with
      | none => exact absurd h (val3_none.mp e)
      | some x => rfl
    · rw [if_neg hj, if_neg hj]
  · rw [if_neg (fun z => h (any_key.mp z)), val3_app, val3_cons, val3_nil]
    have hn := val3_none.mpr h
    by_cases hj : j = k
    · subst hj
      rw [hn]
      simp [ky]
    · have : ¬ ky (k.1, k.2, s) = j := fun z => hj z.symm
      rw [if_neg hj, if_neg this]
      simp
theorem fold_val : ∀ (ps : List P2) (es : List T3) (k : P2), val3 (ps.foldl stepB es) k = if k ∈ ps.map edg ∨ k ∈ es.map ky then some ((val3 es k).getD 0 + tot ps k) else none
  | [], es, k => by
    simp only [List.foldl_nil, List.map_nil, List.not_mem_nil, false_or, tot]
    by_cases h : k ∈ es.map ky
    · rw [if_pos h]
      cases e : val3 es k with
      | none => exact absurd h (val3_none.mp e)
      | some x => simp
    · rw [if_neg h]; exact val3_none.mpr h
  | p :: ps, es, k => by
    rw [List.foldl_cons, fold_val ps]
    have e1 : stepB es p = put3 es (edg p) ((val3 es (edg p)).getD 0 + sg p) := rfl
    rw [e1, put3_val, put3_keys]
    have m0 : (k ∈ (p :: ps).map edg ∨ k ∈ es.map ky) ↔ ((k = edg p ∨ k ∈ ps.map edg) ∨ k ∈ es.map ky) := by rw [List.map_cons, List.mem_cons]
    have m : (k ∈ ps.map edg ∨ k ∈ (if edg p ∈ es.map ky then es.map ky else es.map ky ++ [edg p])) ↔ ((k = edg p ∨ k ∈ ps.map edg) ∨ k ∈ es.map ky) := by
      by_cases h : edg p ∈ es.map ky
      · rw [if_pos h]
        constructor
        · rintro (a | a)
          · exact .inl (.inr a)
          · exact .inr a
        · rintro ((a | a) | a)
          · subst a; exact .inr h
          · exact .inl a
          · exact .inr a
      · rw [if_neg h, List.mem_append, List.mem_singleton]
        constructor
        · rintro (a | a | a)
          · exact .inl (.inr a)
          · exact .inr a
          · exact .inl (.inl a)
        · rintro ((a | a) | a)
          · exact .inr (.inr a)
          · exact .inl a
          · exact .inr (.inl a)
    by_cases c : (k = edg p ∨ k ∈ ps.map edg) ∨ k ∈ es.map ky
    · rw [if_pos (m.mpr c), if_pos (m0.mpr c)]
      congr 1
      simp only [tot]
      by_cases hk : k = edg p
      · subst hk
        rw [if_pos rfl, if_pos rfl]
        simp only [Option.getD_some]
        omega
      · rw [if_neg hk, if_neg (fun z => hk z.symm)]
        omega
    · rw [if_neg (fun z => c (m.mp z)), if_neg (fun z => c (m0.mp z))]
theorem fold_nodup : ∀ (ps : List P2) (es : List T3), (es.map ky).Nodup → ((ps.foldl stepB es).map ky).Nodup
  | [], es, h => h
  | p :: ps, es, h => by
    rw [List.foldl_cons]
    refine fold_nodup ps _ ?_
    have e1 : stepB es p = put3 es (edg p) ((val3 es (edg p)).getD 0 + sg p) := rfl
    rw [e1, put3_keys]
    by_cases c : edg p ∈ es.map ky
    · rw [if_pos c]; exact h
    · rw [if_neg c, List.nodup_append]
      exact ⟨h, by simp, by
        intro a ha b hb
        rw [List.mem_singleton] at hb
        subst hb
        exact fun z => c (z ▸ ha)⟩
theorem mem_val {es : List T3} (h : (es.map ky).Nodup) {e : T3} : e ∈ es ↔ val3 es (ky e) = some e.2.2 := by
  induction es with
  | nil => simp [val3_nil]
  | cons x es ih =>
    rw [List.map_cons, List.nodup_cons] at h
    rw [List.mem_cons, val3_cons]
    by_cases c : ky x = ky e
    · rw [if_pos c]
      constructor
      · rintro (a | a)
        · subst a; rfl
        · exact absurd (List.mem_map.mpr ⟨e, a, c.symm⟩) h.1
      · intro a
        left
        obtain ⟨e1, e2, e3⟩ := e
        obtain ⟨x1, x2, x3⟩ := x
        simp only [ky, Prod.mk.injEq, Option.some.injEq] at c a
        rw [c.1, c.2, a]
    · rw [if_neg c, ← ih h.2]
      constructor
      · rintro (a | a)
        · subst a; exact absurd rfl c
        · exact a
      · exact .inr
theorem nodup_keys {es : List T3} (h : (es.map ky).Nodup) : es.Nodup := by
  induction es with
  | nil => exact List.nodup_nil
  | cons x es ih =>
    rw [List.map_cons, List.nodup_cons] at h
    rw [List.nodup_cons]
    exact ⟨fun a => h.1 (List.mem_map.mpr ⟨x, a, rfl⟩), ih h.2⟩
theorem stp_perm (f : F3) : (stpL f).Perm (stp f) := by
  unfold stpL stp
  refine List.Perm.filter _ ?_
  exact (List.perm_append_comm (l₁ := [(f.2.2, f.1)]) (l₂ := [(f.1, f.2.1), (f.2.1, f.2.2)]))
theorem steps_perm : ∀ fs : List F3, (fs.flatMap stpL).Perm (fs.flatMap stp)
  | [] => .nil
  | f :: fs => by
    rw [List.flatMap_cons, List.flatMap_cons]
    exact (stp_perm f).append (steps_perm fs)
theorem nk (ps : List P2) : ((ps.foldl stepB []).map ky).Nodup := fold_nodup ps [] List.nodup_nil
theorem surp_perm (fs : List F3) : (surpL fs).Perm (surp fs) := by
  have h := steps_perm fs
  refine (List.perm_ext_iff_of_nodup (nodup_keys (nk _)) (nodup_keys (nk _))).mpr fun e => ?_
  rw [mem_val (nk _), mem_val (nk _)]
  rw [fold_val, fold_val]
  have m : ∀ k, k ∈ (fs.flatMap stpL).map edg ↔ k ∈ (fs.flatMap stp).map edg := fun k => (h.map edg).mem_iff
  rw [tot_perm h]
  simp only [m]
theorem edg_mem {fs : List F3} (hb : ∀ f ∈ fs, InF 1000 f) {k : P2} (h : k ∈ (fs.flatMap stpL).map edg) : 0 ≤ k.1 ∧ k.1 < 1000 ∧ 0 ≤ k.2 ∧ k.2 < 1000 := by
  obtain ⟨p, hp, rfl⟩ := List.mem_map.mp h
  obtain ⟨f, hf, hp⟩ := List.mem_flatMap.mp hp
  have hp := (List.mem_filter.mp hp).1
  obtain ⟨⟨a0, a1⟩, ⟨b0, b1⟩, ⟨c0, c1⟩⟩ := hb f hf
  simp only [List.mem_cons, List.not_mem_nil, or_false] at hp
  unfold edg
  rcases hp with rfl | rfl | rfl <;> dsimp only <;> split <;> dsimp only <;> omega
theorem key_mem {fs : List F3} {e : T3} (h : e ∈ surpL fs) : ky e ∈ (fs.flatMap stpL).map edg := by
  have h1 := (mem_val (nk _)).mp h
  unfold surpL at h1
  rw [fold_val] at h1
  by_cases c : ky e ∈ (fs.flatMap stpL).map edg ∨ ky e ∈ ([] : List T3).map ky
  · rcases c with c | c
    · exact c
    · simp at c
  · rw [if_neg c] at h1; cases h1
/-- a key as one number -/
def code (e : T3) : Int := e.1 * 1000 + e.2.1
theorem code_dec {fs : List F3} (hb : ∀ f ∈ fs, InF 1000 f) {e : T3} (h : e ∈ surpL fs) : code e / 1000 = e.1 ∧ code e % 1000 = e.2.1 := by
  obtain ⟨h1, h2, h3, h4⟩ := edg_mem hb (key_mem h)
  have h1 : 0 ≤ e.1 := h1
  have h3 : 0 ≤ e.2.1 := h3
  have h4 : e.2.1 < 1000 := h4
  unfold code
  omega
def rowOf (es : List T3) (c : Int) : T3 := (c / 1000, c % 1000, (val3 es (c / 1000, c % 1000)).getD 0)
theorem row_code {fs : List F3} (hb : ∀ f ∈ fs, InF 1000 f) {e : T3} (h : e ∈ surpL fs) : rowOf (surpL fs) (code e) = e ∧ val3 (surpL fs) (code e / 1000, code e % 1000) = some e.2.2 := by
  obtain ⟨h1, h2⟩ := code_dec hb h
  have h3 : val3 (surpL fs) (e.1, e.2.1) = some e.2.2 := (mem_val (nk _)).mp h
  refine ⟨?_, by rw [h1, h2]; exact h3⟩
  unfold rowOf
  rw [h1, h2, h3]
  rfl
theorem le3_trans (a b c : T3) (h : le3 a b = true) (k : le3 b c = true) : le3 a c = true := by
  unfold le3 at *
  simp only [decide_eq_true_eq] at *
  omega
theorem le3_total (a b : T3) : (le3 a b || le3 b a) = true := by
  unfold le3
  simp only [Bool.or_eq_true, decide_eq_true_eq]
  omega
theorem le3_anti (a b : T3) (h : le3 a b = true) (k : le3 b a = true) : a = b := by
  unfold le3 at *
  simp only [decide_eq_true_eq] at *
  obtain ⟨a1, a2, a3⟩ := a
  obtain ⟨b1, b2, b3⟩ := b
  simp only [Prod.mk.injEq] at *
  omega
theorem rows_eq {fs : List F3} (hb : ∀ f ∈ fs, InF 1000 f) {ms : List Int} (hp : ms.Perm ((surpL fs).map code)) (hs : ms.Pairwise (· ≤ ·)) : ms.map (rowOf (surpL fs)) = (surp fs).mergeSort le3 := by
  have p1 : (ms.map (rowOf (surpL fs))).Perm (surpL fs) := by
    have h := hp.map (rowOf (surpL fs))
    rw [List.map_map] at h
    have e : (surpL fs).map (rowOf (surpL fs) ∘ code) = surpL fs := by
      conv => rhs; rw [← List.map_id (surpL fs)]
      exact List.map_congr_left fun e he => (row_code hb he).1
    rw [e] at h
    exact h
  have p2 : (ms.map (rowOf (surpL fs))).Perm ((surp fs).mergeSort le3) := (p1.trans (surp_perm fs)).trans (List.mergeSort_perm _ _).symm
  have s1 : (ms.map (rowOf (surpL fs))).Pairwise fun a b => le3 a b = true := by
    rw [List.pairwise_map]
    refine hs.imp_of_mem fun {a b} ha hb' hab => ?_
    unfold le3 rowOf
    simp only [decide_eq_true_eq]
    by_cases c : a = b
    · subst c; omega
    · omega
  have s2 : ((surp fs).mergeSort le3).Pairwise fun a b => le3 a b = true := List.pairwise_mergeSort le3_trans le3_total _
  exact List.Perm.eq_of_pairwise (fun a b _ _ h k => le3_anti a b h k) s1 s2 p2
theorem opn_law {fs : List F3} (hb : ∀ f ∈ fs, InF 1000 f) {ms : List Int} (hp : ms.Perm ((surpL fs).map code)) (hs : ms.Pairwise (· ≤ ·)) : (ms.map (rowOf (surpL fs))).filter (fun e => e.2.2 ≠ 0) = opn fs := by
  rw [rows_eq hb hp hs]
  rfl
theorem row_val {fs : List F3} (hb : ∀ f ∈ fs, InF 1000 f) {ms : List Int} (hp : ms.Perm ((surpL fs).map code)) {c : Int} (hc : c ∈ ms) : val3 (surpL fs) (c / 1000, c % 1000) = some (rowOf (surpL fs) c).2.2 := by
  obtain ⟨e, he, rfl⟩ := List.mem_map.mp (hp.mem_iff.mp hc)
  obtain ⟨h1, h2⟩ := row_code hb he
  rw [h1, h2]
end Hd

/-! volumes by integers -/
namespace Hd
open Z
theorem nat_ne {n : Nat} (h : 0 < n) : (n : Rat) ≠ 0 := fun e => by
  have : (n : Rat) = ((0 : Nat) : Rat) := e
  rw [Rat.natCast_inj] at this
  omega
theorem num_eq (q : Rat) : q * (q.den : Rat) = (q.num : Rat) := by
  have h := nat_ne q.den_pos
  have e : q = (q.num : Rat) / (q.den : Rat) := by
    rw [← Rat.mkRat_eq_div, Rat.mkRat_self]
  conv => lhs; arg 1; rw [e]
  exact Rat.div_mul_cancel h
theorem tms_eq {S : Nat} {q : Rat} (h : q.den ∣ S) : ((tms S q : Int) : Rat) = (S : Rat) * q := by
  obtain ⟨k, rfl⟩ := h
  have hd := q.den_pos
  have e : tms (q.den * k) q = q.num * (k : Int) := by
    unfold tms
    rw [Int.natCast_mul, Int.mul_ediv_cancel_left _ (by omega)]
  rw [e, Rat.intCast_mul, Rat.natCast_mul, Rat.intCast_natCast]
  have := num_eq q
  grind
theorem det9_eq (S : Rat) {a b c d e f g h k : Int} {a' b' c' d' e' f' g' h' k' : Rat} (ha : (a : Rat) = S * a') (hb : (b : Rat) = S * b') (hc : (c : Rat) = S * c') (hd : (d : Rat) = S * d') (he : (e : Rat) = S * e') (hf : (f : Rat) = S * f')
    (hg : (g : Rat) = S * g') (hh : (h : Rat) = S * h') (hk : (k : Rat) = S * k') : ((det9 a b c d e f g h k : Int) : Rat) = S ^ 3 * det3 (a', b', c') (d', e', f') (g', h', k') := by
  unfold det9 det3
  simp only [Rat.intCast_add, Rat.intCast_sub, Rat.intCast_mul, ha, hb, hc, hd, he, hf, hg, hh, hk]
  grind
def dvC (S : Nat) (c : C3) : Prop := c.1.den ∣ S ∧ c.2.1.den ∣ S ∧ c.2.2.den ∣ S
def det9C (S : Nat) (a b c : C3) : Int := det9 (tms S a.1) (tms S a.2.1) (tms S a.2.2) (tms S b.1) (tms S b.2.1) (tms S b.2.2) (tms S c.1) (tms S c.2.1) (tms S c.2.2)
theorem det9C_eq {S : Nat} {a b c : C3} (ha : dvC S a) (hb : dvC S b) (hc : dvC S c) : ((det9C S a b c : Int) : Rat) = (S : Rat) ^ 3 * det3 a b c :=
  det9_eq (S : Rat) (tms_eq ha.1) (tms_eq ha.2.1) (tms_eq ha.2.2) (tms_eq hb.1) (tms_eq hb.2.1) (tms_eq hb.2.2) (tms_eq hc.1) (tms_eq hc.2.1) (tms_eq hc.2.2)
theorem sum_fold (S : Nat) (cs : List C3) (hd : ∀ i, dvC S (cAt cs i)) : ∀ (fs : List F3) (s : Rat) (z : Int), (z : Rat) = (S : Rat) ^ 3 * s → ((z + (fs.map fun f => det9C S (cAt cs f.1) (cAt cs f.2.1) (cAt cs f.2.2)).sum : Int) : Rat) = (S : Rat) ^ 3 * fs.foldl (fun s f => s + det3 (cAt cs f.1) (cAt cs f.2.1) (cAt cs f.2.2)) s
  | [], s, z, h => by simpa using h
  | f :: fs, s, z, h => by
    rw [List.map_cons, List.sum_cons, List.foldl_cons, ← Int.add_assoc]
    refine sum_fold S cs hd fs _ _ ?_
    rw [Rat.intCast_add, h, det9C_eq (hd _) (hd _) (hd _)]
    grind
theorem total_eq {S : Nat} {cs : List C3} {fs : List F3} (hS : 0 < S) (hd : ∀ i, dvC S (cAt cs i)) : mkRat (fs.map fun f => det9C S (cAt cs f.1) (cAt cs f.2.1) (cAt cs f.2.2)).sum (6 * S ^ 3) = vol cs fs := by
  have h := sum_fold S cs hd fs 0 0 (by simp)
  rw [Int.zero_add] at h
  have hS' := nat_ne hS
  rw [Rat.mkRat_eq_div, h]
  unfold vol vol6
  rw [Rat.mkRat_eq_div]
  have e : ((6 * S ^ 3 : Nat) : Rat) = 6 * (S : Rat) ^ 3 := by
    rw [Rat.natCast_mul, Rat.natCast_pow]
    rfl
  rw [e]
  have e6 : ((6 : Nat) : Rat) = 6 := rfl
  have e1 : ((1 : Int) : Rat) = 1 := rfl
  rw [e6, e1]
  grind
def lc3 (s : Nat) (c : C3) : Nat := Nat.lcm (Nat.lcm (Nat.lcm s c.1.den) c.2.1.den) c.2.2.den
theorem scl_eq (cs : List C3) : scl cs = cs.foldl lc3 1 := rfl
theorem lc3_dvd {s D : Nat} {c : C3} (hs : s ∣ D) (hc : c.1.den ∣ D ∧ c.2.1.den ∣ D ∧ c.2.2.den ∣ D) : lc3 s c ∣ D := Nat.lcm_dvd (Nat.lcm_dvd (Nat.lcm_dvd hs hc.1) hc.2.1) hc.2.2
theorem scl_dvd {D : Nat} : ∀ (cs : List C3) (s : Nat), s ∣ D → (∀ c ∈ cs, dvC D c) → cs.foldl lc3 s ∣ D
  | [], s, h, _ => h
  | c :: cs, s, h, hc => scl_dvd cs _ (lc3_dvd h (hc c (by simp))) fun d hd => hc d (by simp [hd])
theorem dvd_lc3 (s : Nat) (c : C3) : s ∣ lc3 s c ∧ dvC (lc3 s c) c := by
  have h1 : Nat.lcm s c.1.den ∣ Nat.lcm (Nat.lcm s c.1.den) c.2.1.den := Nat.dvd_lcm_left _ _
  have h2 : Nat.lcm (Nat.lcm s c.1.den) c.2.1.den ∣ lc3 s c := Nat.dvd_lcm_left _ _
  exact ⟨Nat.dvd_trans (Nat.dvd_trans (Nat.dvd_lcm_left _ _) h1) h2, Nat.dvd_trans (Nat.dvd_trans (Nat.dvd_lcm_right _ _) h1) h2, Nat.dvd_trans (Nat.dvd_lcm_right _ _) h2, Nat.dvd_lcm_right _ _⟩
theorem dvd_fold : ∀ (cs : List C3) (s : Nat), s ∣ cs.foldl lc3 s ∧ ∀ c ∈ cs, dvC (cs.foldl lc3 s) c
  | [], s => ⟨Nat.dvd_refl _, fun c h => by cases h⟩
  | c :: cs, s => by
    obtain ⟨h1, h2⟩ := dvd_lc3 s c
    obtain ⟨h3, h4⟩ := dvd_fold cs (lc3 s c)
    refine ⟨Nat.dvd_trans h1 h3, fun d hd => ?_⟩
    rcases List.mem_cons.mp hd with rfl | hd
    · exact ⟨Nat.dvd_trans h2.1 h3, Nat.dvd_trans h2.2.1 h3, Nat.dvd_trans h2.2.2 h3⟩
    · exact h4 d hd
theorem scl_c {cs : List C3} {c : C3} (h : c ∈ cs) : dvC (scl cs) c := (dvd_fold cs 1).2 c h
theorem scl_at (cs : List C3) (i : Int) : dvC (scl cs) (cAt cs i) := by
  unfold cAt
  cases e : cs[i.toNat]? with
  | none => exact ⟨Nat.one_dvd _, Nat.one_dvd _, Nat.one_dvd _⟩
  | some c => exact scl_c (List.mem_of_getElem? e)
theorem den_dvd {d b : Nat} {q : Rat} (hd : 0 < d) (h : Wd d b q) : q.den ∣ d := by
  obtain ⟨x, rfl, _⟩ := h
  rw [Rat.den_mkRat, if_neg (by omega)]
  exact Nat.div_dvd_of_dvd (Nat.gcd_dvd_left _ _)
theorem scl_le {cs : List C3} (h : ∀ c ∈ cs, Ok3 c) : 0 < scl cs ∧ scl cs ≤ 27720 := by
  have d : scl cs ∣ 27720 := scl_dvd cs 1 (Nat.one_dvd _) fun c hc => by
    obtain ⟨h1, h2, h3⟩ := h c hc
    exact ⟨den_dvd (by decide) h1, den_dvd (by decide) h2, den_dvd (by decide) h3⟩
  exact ⟨Nat.pos_of_dvd_of_pos d (by decide), Nat.le_of_dvd (by decide) d⟩
end Hd

namespace Hd
open PySem PySem.Spec PyProof.Rows L2 Z
def ts_law_try (K : PySem.W.Frag) : TsX := fun aa CC od => (wIfS (wAnd (zTru (wIsE K aa CC od (.ref (He.ga K "BadLoft")) (wVar 1))) (zTru (wIsE K aa CC od (.type "ValueError") (wVar 1)))) (wRet (wTup (wCons (wC (.str "BadLoft")) wNil))) wNext)
def tr_law_try (K : PySem.W.Frag) : TS' := (wRet (wTup (wCons (wC (.str "other")) wNil)))
def t_scaled_2 (K : PySem.W.Frag) : TS' := (wAsg (wCB lcmD (wCons (wVar 1) (wCons (wVar 4) wNil))) (hName 1))
def t_scaled_1 (K : PySem.W.Frag) : TS' := (wFor (vSeq (wVar 2)) (hTup 2 (hCons (hName 3) (hCons (hName 4) hNil))) (t_scaled_2 K))
def t_scaled_3 (K : PySem.W.Frag) : TS' := (wRet (wTup (wCons (wLcF (vSeq (wVar 0)) (pName 2) wYes (wCB tupleD (wCons (wLcF (vSeq (wVar 2)) (pTup 2 (pCons (pName 5) (pCons (pName 4) pNil))) wYes (wOp mulF (wVar 5) (wOp fdivD (wVar 1) (wVar 4))) [5, 4]) wNil)) [2]) (wCons (wVar 1) wNil))))
def t_scaled (K : PySem.W.Frag) : TS' := (wSeq (wAsg (wC (.int 1)) (hName 1))
  (wSeq (wFor (vSeq (wVar 0)) (hName 2) (t_scaled_1 K))
  (t_scaled_3 K)))
abbrev RD_scaled (K : PySem.W.Frag) : Prop := ∀ ds L Q E, sp_scaled ds L Q E → t_scaled K { nx := fun _ L1 => Dn (Q .non) L1, rt := fun d L1 => Dn (Q d) L1 } (start' ["rows", "scale", "row", "_", "under", "above"] ds) L
def t_determinant (K : PySem.W.Frag) : TS' := (wSeq (wAsg (wVar 0) (hTup 3 (hCons (hName 3) (hCons (hName 4) (hCons (hName 5) hNil)))))
  (wSeq (wAsg (wVar 1) (hTup 3 (hCons (hName 6) (hCons (hName 7) (hCons (hName 8) hNil)))))
  (wSeq (wAsg (wVar 2) (hTup 3 (hCons (hName 9) (hCons (hName 10) (hCons (hName 11) hNil)))))
  (wRet (wOp addF (wOp subD (wOp mulF (wVar 3) (wOp subD (wOp mulF (wVar 7) (wVar 11)) (wOp mulF (wVar 8) (wVar 10)))) (wOp mulF (wVar 4) (wOp subD (wOp mulF (wVar 6) (wVar 11)) (wOp mulF (wVar 8) (wVar 9))))) (wOp mulF (wVar 5) (wOp subD (wOp mulF (wVar 6) (wVar 10)) (wOp mulF (wVar 7) (wVar 9)))))))))
abbrev RD_determinant (K : PySem.W.Frag) : Prop := ∀ ds L Q E, sp_determinant ds L Q E → t_determinant K { nx := fun _ L1 => Dn (Q .non) L1, rt := fun d L1 => Dn (Q d) L1 } (start' ["first", "second", "third", "a", "b", "c", "d", "e", "f", "g", "h", "k"] ds) L
def t_steps (K : PySem.W.Frag) : TS' := (wSeq (wAsg (wVar 0) (hTup 3 (hCons (hName 1) (hCons (hName 2) (hCons (hName 3) hNil)))))
  (wRet (wLcF (vSeq (wTup (wCons (wTup (wCons (wVar 1) (wCons (wVar 2) wNil))) (wCons (wTup (wCons (wVar 2) (wCons (wVar 3) wNil))) (wCons (wTup (wCons (wVar 3) (wCons (wVar 1) wNil))) wNil))))) (pTup 2 (pCons (pName 4) (pCons (pName 5) pNil))) (wB (wOp (eqD true) (wVar 4) (wVar 5))) (wTup (wCons (wVar 4) (wCons (wVar 5) wNil))) [4, 5])))
abbrev RD_steps (K : PySem.W.Frag) : Prop := ∀ ds L Q E, sp_steps ds L Q E → t_steps K { nx := fun _ L1 => Dn (Q .non) L1, rt := fun d L1 => Dn (Q d) L1 } (start' ["face", "a", "b", "c", "p", "q"] ds) L
def t_edge_of (K : PySem.W.Frag) : TS' := (wRet (wIf (wB (wOp ltD (wVar 0) (wVar 1))) (wTup (wCons (wVar 0) (wCons (wVar 1) wNil))) (wTup (wCons (wVar 1) (wCons (wVar 0) wNil)))))
abbrev RD_edge_of (K : PySem.W.Frag) : Prop := ∀ ds L Q E, sp_edge_of ds L Q E → t_edge_of K { nx := fun _ L1 => Dn (Q .non) L1, rt := fun d L1 => Dn (Q d) L1 } (start' ["p", "q"] ds) L
def t_surpluses_2 (K : PySem.W.Frag) : TS' := (wSeq (wAsg (wCall sp_edge_of [] X0 (wCons (wVar 3) (wCons (wVar 4) wNil))) (hName 5))
  (wDput (wVar 1) (wVar 5) (wOp addF (wDget2 (wVar 1) (wVar 5) (wC (.int 0))) (wIf (wB (wOp ltD (wVar 3) (wVar 4))) (wC (.int 1)) (wUn negD (wC (.int 1)))))))
def t_surpluses_1 (K : PySem.W.Frag) : TS' := (wFor (vSeq (wCall sp_steps [] X0 (wCons (wVar 2) wNil))) (hTup 2 (hCons (hName 3) (hCons (hName 4) hNil))) (t_surpluses_2 K))
def t_surpluses (K : PySem.W.Frag) : TS' := (wSeq (wAsg wDnewT (hName 1))
  (wSeq (wFor (vSeq (wVar 0)) (hName 2) (t_surpluses_1 K))
  (wRet (wVar 1))))
abbrev RD_surpluses (K : PySem.W.Frag) : Prop := ∀ ds L Q E, sp_surpluses ds L Q E → t_surpluses K { nx := fun _ L1 => Dn (Q .non) L1, rt := fun d L1 => Dn (Q d) L1 } (start' ["faces", "found", "face", "p", "q", "edge"] ds) L
def t_is_integer (K : PySem.W.Frag) : TS' := (wRet (wAndV (wCB (isiW "int") (wCons (wVar 0) (wCons (wC (.ty "int")) wNil))) (wNotV (wCB (isiW "bool") (wCons (wVar 0) (wCons (wC (.ty "bool")) wNil))))))
abbrev RD_is_integer (K : PySem.W.Frag) : Prop := ∀ ds L Q E, sp_is_integer ds L Q E → t_is_integer K { nx := fun _ L1 => Dn (Q .non) L1, rt := fun d L1 => Dn (Q d) L1 } (start' ["value"] ds) L
def t_as_number (K : PySem.W.Frag) : TS' := (wSeq (wIfS (zTru (wCB (isiW "int") (wCons (wVar 0) (wCons (wC (.ty "int")) wNil)))) (wRet (wTup (wCons (wVar 0) (wCons (wC (.int 1)) wNil)))) wNext)
  (wRet (wVar 0)))
abbrev RD_as_number (K : PySem.W.Frag) : Prop := ∀ ds L Q E, sp_as_number ds L Q E → t_as_number K { nx := fun _ L1 => Dn (Q .non) L1, rt := fun d L1 => Dn (Q d) L1 } (start' ["value"] ds) L
def t_lowest_1 (K : PySem.W.Frag) : TS' := (wRet (wTup (wCons (wOp fdivD (wVar 0) (wVar 2)) (wCons (wOp fdivD (wVar 1) (wVar 2)) wNil))))
def t_lowest (K : PySem.W.Frag) : TS' := (wSeq (wAsg (wCB gcdD (wCons (wVar 0) (wCons (wVar 1) wNil))) (hName 2))
  (wSeq (wIfS (wB (wOp ltD (wVar 1) (wC (.int 0)))) (wAsg (wUn negD (wVar 2)) (hName 2)) wNext)
  (t_lowest_1 K)))
abbrev RD_lowest (K : PySem.W.Frag) : Prop := ∀ ds L Q E, sp_lowest ds L Q E → t_lowest K { nx := fun _ L1 => Dn (Q .non) L1, rt := fun d L1 => Dn (Q d) L1 } (start' ["n", "d", "shared"] ds) L
def t_exact_3 (K : PySem.W.Frag) : TS' := wNever
def t_exact_2 (K : PySem.W.Frag) : TS' := (wSeq (wIfS (zTru (wCB (isiW "str") (wCons (wVar 0) (wCons (wC (.ty "str")) wNil)))) (wSeq wNever
  (wIfS (wB (wOp (isnD true) (wVar 3) (wC .non))) (wRet (wVar 3)) wNext)) wNext)
  (t_exact_3 K))
def t_exact_1 (K : PySem.W.Frag) : TS' := (wSeq (wIfS (wAnd (zTru (wCB (isiW "tuple") (wCons (wVar 0) (wCons (wC (.ty "tuple")) wNil)))) (wB (wOp (eqD false) (wCB lenD (wCons (wVar 0) wNil)) (wC (.int 2))))) (wSeq (wAsg (wVar 0) (hTup 2 (hCons (hName 1) (hCons (hName 2) hNil))))
  (wIfS (wAnd (zTru (wCall sp_is_integer [] X0 (wCons (wVar 1) wNil))) (wAnd (zTru (wCall sp_is_integer [] X0 (wCons (wVar 2) wNil))) (wB (wOp (eqD true) (wVar 2) (wC (.int 0)))))) (wRet (wCall sp_lowest [] X0 (wCons (wVar 1) (wCons (wVar 2) wNil)))) wNext)) wNext)
  (t_exact_2 K))
def t_exact (K : PySem.W.Frag) : TS' := (wSeq (wIfS (zTru (wCall sp_is_integer [] X0 (wCons (wVar 0) wNil))) (wRet (wTup (wCons (wVar 0) (wCons (wC (.int 1)) wNil)))) wNext)
  (t_exact_1 K))
abbrev RD_exact (K : PySem.W.Frag) : Prop := ∀ ds L Q E, sp_exact ds L Q E → t_exact K { nx := fun _ L1 => Dn (Q .non) L1, rt := fun d L1 => Dn (Q d) L1 } (start' ["value", "n", "d", "found"] ds) L
def t_is_number_3 (K : PySem.W.Frag) : TS' := (wRet (wAndV (wOp gtD (wVar 2) (wC (.int 0))) (wOp (eqD false) (wCB gcdD (wCons (wVar 1) (wCons (wVar 2) wNil))) (wC (.int 1)))))
def t_is_number_2 (K : PySem.W.Frag) : TS' := (wSeq (wAsg (wVar 0) (hTup 2 (hCons (hName 1) (hCons (hName 2) hNil))))
  (wSeq (wIfS (wOr (zNot (zTru (wCall sp_is_integer [] X0 (wCons (wVar 1) wNil)))) (zNot (zTru (wCall sp_is_integer [] X0 (wCons (wVar 2) wNil))))) (wRet (wC (.bl false))) wNext)
  (t_is_number_3 K)))
def t_is_number_1 (K : PySem.W.Frag) : TS' := (wSeq (wIfS (wOr (zNot (zTru (wCB (isiW "tuple") (wCons (wVar 0) (wCons (wC (.ty "tuple")) wNil))))) (wB (wOp (eqD true) (wCB lenD (wCons (wVar 0) wNil)) (wC (.int 2))))) (wRet (wC (.bl false))) wNext)
  (t_is_number_2 K))
def t_is_number (K : PySem.W.Frag) : TS' := (wSeq (wIfS (zTru (wCall sp_is_integer [] X0 (wCons (wVar 0) wNil))) (wRet (wC (.bl true))) wNext)
  (t_is_number_1 K))
abbrev RD_is_number (K : PySem.W.Frag) : Prop := ∀ ds L Q E, sp_is_number ds L Q E → t_is_number K { nx := fun _ L1 => Dn (Q .non) L1, rt := fun d L1 => Dn (Q d) L1 } (start' ["value", "n", "d"] ds) L
def t_compare_1 (K : PySem.W.Frag) : TS' := (wSeq (wIfS (wB (wOp gtD (wVar 2) (wVar 3))) (wRet (wC (.int 1))) wNext)
  (wRet (wC (.int 0))))
def t_compare (K : PySem.W.Frag) : TS' := (wSeq (wPar 0 1 (wCons (wCall sp_as_number [] X0 (wCons (wVar 0) wNil)) (wCons (wCall sp_as_number [] X0 (wCons (wVar 1) wNil)) wNil)))
  (wSeq (wPar 2 3 (wCons (wOp mulF (wIxk 0 (wVar 0)) (wIxk 1 (wVar 1))) (wCons (wOp mulF (wIxk 0 (wVar 1)) (wIxk 1 (wVar 0))) wNil)))
  (wSeq (wIfS (wB (wOp ltD (wVar 2) (wVar 3))) (wRet (wUn negD (wC (.int 1)))) wNext)
  (t_compare_1 K))))
abbrev RD_compare (K : PySem.W.Frag) : Prop := ∀ ds L Q E, sp_compare ds L Q E → t_compare K { nx := fun _ L1 => Dn (Q .non) L1, rt := fun d L1 => Dn (Q d) L1 } (start' ["a", "b", "left", "right"] ds) L
def t_is_corner (K : PySem.W.Frag) : TS' := (wRet (wAndV (wCB (isiW "tuple") (wCons (wVar 0) (wCons (wC (.ty "tuple")) wNil))) (wAndV (wOp (eqD false) (wCB lenD (wCons (wVar 0) wNil)) (wC (.int 3))) (wCB (allF fun bs => bs.all id) (wCons (wLcF (vSeq (wVar 0)) (pName 1) wYes (wCall sp_is_number [] X0 (wCons (wVar 1) wNil)) [1]) wNil)))))
abbrev RD_is_corner (K : PySem.W.Frag) : Prop := ∀ ds L Q E, sp_is_corner ds L Q E → t_is_corner K { nx := fun _ L1 => Dn (Q .non) L1, rt := fun d L1 => Dn (Q d) L1 } (start' ["value", "one"] ds) L
def t_is_index (K : PySem.W.Frag) : TS' := (wRet (wAndV (wCB (isiW "int") (wCons (wVar 0) (wCons (wC (.ty "int")) wNil))) (wAndV (wNotV (wCB (isiW "bool") (wCons (wVar 0) (wCons (wC (.ty "bool")) wNil)))) (wChain leD ltD (wC (.int 0)) (wVar 0) (wVar 1)))))
abbrev RD_is_index (K : PySem.W.Frag) : Prop := ∀ ds L Q E, sp_is_index ds L Q E → t_is_index K { nx := fun _ L1 => Dn (Q .non) L1, rt := fun d L1 => Dn (Q d) L1 } (start' ["value", "many"] ds) L
def t_is_face (K : PySem.W.Frag) : TS' := (wRet (wAndV (wCB (isiW "tuple") (wCons (wVar 0) (wCons (wC (.ty "tuple")) wNil))) (wAndV (wOp (eqD false) (wCB lenD (wCons (wVar 0) wNil)) (wC (.int 3))) (wCB (allF fun bs => bs.all id) (wCons (wLcF (vSeq (wVar 0)) (pName 2) wYes (wCall sp_is_index [] X0 (wCons (wVar 2) (wCons (wVar 1) wNil))) [2]) wNil)))))
abbrev RD_is_face (K : PySem.W.Frag) : Prop := ∀ ds L Q E, sp_is_face ds L Q E → t_is_face K { nx := fun _ L1 => Dn (Q .non) L1, rt := fun d L1 => Dn (Q d) L1 } (start' ["value", "many", "one"] ds) L
def t_Net_init_1 (K : PySem.W.Frag) : TS' := (wIfS (zNot (zTru (wCall sp_is_corner [] X0 (wCons (wVar 4) wNil)))) wNever wNext)
def t_Net_init_3 (K : PySem.W.Frag) : TS' := (wIfS (zNot (zTru (wCall sp_is_face [] X0 (wCons (wVar 5) (wCons (wCB lenD (wCons (wVar 1) wNil)) wNil))))) wNever wNext)
def t_Net_init_4 (K : PySem.W.Frag) : TS' := (wSeq (wFldS K (wVar 0) (wCB tupleD (wCons (wLcF (vSeq (wVar 1)) (pName 4) wYes (wCB tupleD (wCons (wLcF (vSeq (wVar 4)) (pName 6) wYes (wCall sp_exact [] X0 (wCons (wVar 6) wNil)) [6]) wNil)) [4]) wNil)) "corners")
  (wFldS K (wVar 0) (wCB tupleD (wCons (wVar 2) wNil)) "faces"))
def t_Net_init_2 (K : PySem.W.Frag) : TS' := (wSeq (wFor (vEnumF (wVar 2)) (hTup 2 (hCons (hName 3) (hCons (hName 5) hNil))) (t_Net_init_3 K))
  (t_Net_init_4 K))
def t_Net_init (K : PySem.W.Frag) : TS' := (wSeq (wFor (vEnumF (wVar 1)) (hTup 2 (hCons (hName 3) (hCons (hName 4) hNil))) (t_Net_init_1 K))
  (t_Net_init_2 K))
abbrev RD_Net_init (K : PySem.W.Frag) : Prop := ∀ ds L Q E, (sp_Net_init K) ds L Q E → t_Net_init K { nx := fun _ L1 => Dn (Q .non) L1, rt := fun d L1 => Dn (Q d) L1 } (start' ["self", "corners", "faces", "at", "corner", "face", "one"] ds) L
def t_open_edges (K : PySem.W.Frag) : TS' := (wRet (wLc (vSeq (wFg (wFz (wSortIt (wCall sp_surpluses [] X0 (wCons (wFldF K (wVar 0) "faces") wNil)))))) (hTup 2 (hCons (hTup 2 (hCons (hName 2) (hCons (hName 3) hNil))) (hCons (hName 1) hNil))) (wB (wOp (eqD true) (wVar 1) (wC (.int 0)))) (wTup (wCons (wVar 2) (wCons (wVar 3) (wCons (wVar 1) wNil)))) [1, 2, 3]))
abbrev RD_open_edges (K : PySem.W.Frag) : Prop := ∀ ds L Q E, (sp_open_edges K) ds L Q E → t_open_edges K { nx := fun _ L1 => Dn (Q .non) L1, rt := fun d L1 => Dn (Q d) L1 } (start' ["net", "surplus", "a", "b"] ds) L
def t_is_closed (K : PySem.W.Frag) : TS' := (wRet (wOp (eqD false) (wFz (wCall (sp_open_edges K) [] X0 (wCons (wVar 0) wNil))) (wLstF wNil)))
abbrev RD_is_closed (K : PySem.W.Frag) : Prop := ∀ ds L Q E, (sp_is_closed K) ds L Q E → t_is_closed K { nx := fun _ L1 => Dn (Q .non) L1, rt := fun d L1 => Dn (Q d) L1 } (start' ["net"] ds) L
def t_volume (K : PySem.W.Frag) : TS' := (wSeq (wAsg (wCall sp_scaled [] X0 (wCons (wFldF K (wVar 0) "corners") wNil)) (hTup 2 (hCons (hName 1) (hCons (hName 2) hNil))))
  (wSeq (wAsg (wCB sumF (wCons (wLcF (vSeq (wFldF K (wVar 0) "faces")) (pTup 3 (pCons (pName 4) (pCons (pName 5) (pCons (pName 6) pNil)))) wYes (wCall sp_determinant [] X0 (wCons (wOp ixD (wVar 1) (wVar 4)) (wCons (wOp ixD (wVar 1) (wVar 5)) (wCons (wOp ixD (wVar 1) (wVar 6)) wNil)))) [4, 5, 6]) wNil)) (hName 3))
  (wRet (wCall sp_exact [] X0 (wCons (wTup (wCons (wVar 3) (wCons (wOp mulF (wC (.int 6)) (wOp powD (wVar 2) (wC (.int 3)))) wNil))) wNil)))))
abbrev RD_volume (K : PySem.W.Frag) : Prop := ∀ ds L Q E, (sp_volume K) ds L Q E → t_volume K { nx := fun _ L1 => Dn (Q .non) L1, rt := fun d L1 => Dn (Q d) L1 } (start' ["net", "corners", "scale", "total", "a", "b", "c"] ds) L
def t_loft_2 (K : PySem.W.Frag) (E' : XK') : TS' := (wSeq (wAsg (wOp modD (wOp addF (wVar 7) (wC (.int 1))) (wVar 4)) (hName 8))
  (wSeq (wDrop (wBM "list" appendD (wVar 6) (wCons (wTup (wCons (wVar 7) (wCons (wVar 8) (wCons (wOp addF (wVar 4) (wVar 8)) wNil)))) wNil)))
  (wDrop (wBM "list" appendD (wVar 6) (wCons (wTup (wCons (wVar 7) (wCons (wOp addF (wVar 4) (wVar 8)) (wCons (wOp addF (wVar 4) (wVar 7)) wNil)))) wNil)))))
def t_loft_3 (K : PySem.W.Frag) (E' : XK') : TS' := (wSeq (wDrop (wBM "list" extF (wVar 6) (wCons (wLcF (vRng2 (wC (.int 1)) (wOp subD (wVar 4) (wC (.int 1)))) (pName 8) wYes (wTup (wCons (wC (.int 0)) (wCons (wOp addF (wVar 8) (wC (.int 1))) (wCons (wVar 8) wNil)))) [8]) wNil)))
  (wSeq (wDrop (wBM "list" extF (wVar 6) (wCons (wLcF (vRng2 (wC (.int 1)) (wOp subD (wVar 4) (wC (.int 1)))) (pName 8) wYes (wTup (wCons (wVar 4) (wCons (wOp addF (wVar 4) (wVar 8)) (wCons (wOp addF (wOp addF (wVar 4) (wVar 8)) (wC (.int 1))) wNil)))) [8]) wNil)))
  (wRet (wFz (wMake (He.ga K "Net") (sp_Net_init K) X0 (wCons (wVar 5) (wCons (wVar 6) wNil)))))))
def t_loft_1 (K : PySem.W.Frag) (E' : XK') : TS' := (wSeq (wAsg (wOp addF (wLcF (vSeq (wVar 0)) (pTup 2 (pCons (pName 9) (pCons (pName 10) pNil))) wYes (wTup (wCons (wVar 9) (wCons (wVar 10) (wCons (wVar 1) wNil)))) [9, 10]) (wLcF (vSeq (wVar 2)) (pTup 2 (pCons (pName 9) (pCons (pName 10) pNil))) wYes (wTup (wCons (wVar 9) (wCons (wVar 10) (wCons (wVar 3) wNil)))) [9, 10])) (hName 5))
  (wSeq (wAsg (wLst wNil) (hName 6))
  (wSeq (wFor (vRng1 (wVar 4)) (hName 7) (t_loft_2 K E'))
  (t_loft_3 K E'))))
def t_loft (K : PySem.W.Frag) (E' : XK') : TS' := (wSeq (wAsg (wCB lenD (wCons (wVar 0) wNil)) (hName 4))
  (wSeq (wIfS (wOr (wB (wOp (eqD true) (wVar 4) (wCB lenD (wCons (wVar 2) wNil)))) (wOr (wB (wOp ltD (wVar 4) (wC (.int 3)))) (wB (wOp geD (wCall sp_compare [] X0 (wCons (wVar 1) (wCons (wVar 3) wNil))) (wC (.int 0)))))) (wRaise0 E' (He.ga K "BadLoft")) wNext)
  (t_loft_1 K E')))
abbrev RD_loft (K : PySem.W.Frag) : Prop := ∀ ds L Q E', (sp_loft K) ds L Q E' → t_loft K E' { nx := fun _ L1 => Dn (Q .non) L1, rt := fun d L1 => Dn (Q d) L1 } (start' ["lower", "z0", "upper", "z1", "many", "corners", "faces", "i", "j", "x", "y"] ds) L
def t_law_bag_1 (K : PySem.W.Frag) : TS' := (wAsg (wOp modD (wCB intcD (wCons (wOp powD (wOp addF (wOp addF (wVar 1) (wOp modD (wCB intcD (wCons (wVar 2) wNil)) (wC (.int 18446744073709551557)))) (wC (.int 389))) (wC (.int 3))) wNil)) (wC (.int 18446744073709551557))) (hName 1))
def t_law_bag_2 (K : PySem.W.Frag) : TS' := (wRet (wLst (wCons (wCB listF (wCons (wSlF (wVar 0) wNoPart (wPart (wC (.int 63)))) wNil)) (wCons (wC (.int 0)) (wCons (wC (.int 0)) (wCons (wVar 1) (wCons (wC (.int 0)) wNil)))))))
def t_law_bag (K : PySem.W.Frag) : TS' := (wSeq (wAsg (wC (.int 13963)) (hName 1))
  (wSeq (wFor (vSeq (wSlF (wVar 0) wNoPart (wPart (wC (.int 63))))) (hName 2) (t_law_bag_1 K))
  (t_law_bag_2 K)))
abbrev RD_law_bag (K : PySem.W.Frag) : Prop := ∀ ds L Q E, sp_law_bag ds L Q E → t_law_bag K { nx := fun _ L1 => Dn (Q .non) L1, rt := fun d L1 => Dn (Q d) L1 } (start' ["_law_script", "_law_mixed", "_law_cell"] ds) L
def t_law_draw_2 (K : PySem.W.Frag) : TS' := (wSeq (wAsg (wOp modD (wCB intcD (wCons (wOp powD (wOp addF (wOp addF (wIxk 3 (wVar 0)) (wOp mulF (wIxk 4 (wVar 0)) (wC (.int 1000003)))) (wC (.int 31))) (wC (.int 3))) wNil)) (wC (.int 18446744073709551557))) (hSub (wVar 0) (wC (.int 3)) setD))
  (wRet (wOp modD (wCB intcD (wCons (wOp fdivD (wIxk 3 (wVar 0)) (wC (.int 1073741827))) wNil)) (wVar 1))))
def t_law_draw_1 (K : PySem.W.Frag) : TS' := (wSeq (wIfS (wB (wOp gtD (wIxk 2 (wVar 0)) (wC (.int 0)))) (wSeq (wAsg (wOp modD (wCB intcD (wCons (wIxk 2 (wVar 0)) wNil)) (wVar 1)) (hName 3))
  (wSeq (wAsg (wOp fdivD (wCB intcD (wCons (wIxk 2 (wVar 0)) wNil)) (wVar 1)) (hSub (wVar 0) (wC (.int 2)) setD))
  (wRet (wVar 3)))) wNext)
  (t_law_draw_2 K))
def t_law_draw (K : PySem.W.Frag) : TS' := (wSeq (wAsg (wOp addF (wIxk 4 (wVar 0)) (wC (.int 1))) (hSub (wVar 0) (wC (.int 4)) setD))
  (wSeq (wIfS (wAnd (wB (wOp (eqD false) (wIxk 2 (wVar 0)) (wC (.int 0)))) (wB (wOp ltD (wIxk 1 (wVar 0)) (wCB lenD (wCons (wIxk 0 (wVar 0)) wNil))))) (wSeq (wAsg (wCB intcD (wCons (wOp ixD (wIxk 0 (wVar 0)) (wIxk 1 (wVar 0))) wNil)) (hName 2))
  (wSeq (wAsg (wOp addF (wIxk 1 (wVar 0)) (wC (.int 1))) (hSub (wVar 0) (wC (.int 1)) setD))
  (wIfS (wB (wOp geD (wVar 2) (wOp powD (wC (.int 10)) (wC (.int 18))))) (wAsg (wVar 2) (hSub (wVar 0) (wC (.int 2)) setD)) (wAsg (wOp modD (wCB intcD (wCons (wOp powD (wOp addF (wOp addF (wIxk 3 (wVar 0)) (wOp mulF (wOp modD (wCB intcD (wCons (wVar 2) wNil)) (wC (.int 18446744073709551557))) (wC (.int 11)))) (wC (.int 41))) (wC (.int 3))) wNil)) (wC (.int 18446744073709551557))) (hSub (wVar 0) (wC (.int 3)) setD))))) wNext)
  (t_law_draw_1 K)))
abbrev RD_law_draw (K : PySem.W.Frag) : Prop := ∀ ds L Q E, sp_law_draw ds L Q E → t_law_draw K { nx := fun _ L1 => Dn (Q .non) L1, rt := fun d L1 => Dn (Q d) L1 } (start' ["_law_bag_here", "_law_many_y", "_law_cell", "_law_digit"] ds) L
def t_law_of (K : PySem.W.Frag) : TS' := (wRet (wOp ixD (wVar 1) (wCall sp_law_draw [] X0 (wCons (wVar 0) (wCons (wCB lenD (wCons (wVar 1) wNil)) wNil)))))
abbrev RD_law_of (K : PySem.W.Frag) : Prop := ∀ ds L Q E, sp_law_of ds L Q E → t_law_of K { nx := fun _ L1 => Dn (Q .non) L1, rt := fun d L1 => Dn (Q d) L1 } (start' ["_law_bag_here", "_law_things"] ds) L
def t_law_same_1 (K : PySem.W.Frag) (sp_rec : Sp') : TS' := (wRet (wAndV (wOp (eqD false) (wCB lenD (wCons (wVar 0) wNil)) (wCB lenD (wCons (wVar 1) wNil))) (wCB (allF fun bs => bs.all id) (wCons (wLcF (vZip (wVar 0) (wVar 1)) (pTup 2 (pCons (pName 2) (pCons (pName 3) pNil))) wYes (wCall sp_rec [] X0 (wCons (wVar 2) (wCons (wVar 3) wNil))) [2, 3]) wNil))))
def t_law_same_4 (K : PySem.W.Frag) (sp_rec : Sp') : TS' := (wSeq (wIfS (wOr (wB (wOp (eqD true) (wCB (isiW "str") (wCons (wVar 0) (wCons (wC (.ty "str")) wNil))) (wCB (isiW "str") (wCons (wVar 1) (wCons (wC (.ty "str")) wNil))))) (wB (wOp (eqD true) (wCB (isiW "int") (wCons (wVar 0) (wCons (wC (.ty "int")) wNil))) (wCB (isiW "int") (wCons (wVar 1) (wCons (wC (.ty "int")) wNil)))))) (wRet (wC (.bl false))) wNext)
  (wRet (wOp (eqD false) (wVar 0) (wVar 1))))
def t_law_same_3 (K : PySem.W.Frag) (sp_rec : Sp') : TS' := (wSeq (wIfS (wOr (zTru (wCB isi2D (wCons (wVar 0) (wCons (wTup (wCons (wC (.ty "list")) (wCons (wC (.ty "tuple")) wNil))) wNil)))) (wB (wOp (eqD true) (wCB (isiW "bool") (wCons (wVar 0) (wCons (wC (.ty "bool")) wNil))) (wCB (isiW "bool") (wCons (wVar 1) (wCons (wC (.ty "bool")) wNil)))))) (wRet (wC (.bl false))) wNext)
  (t_law_same_4 K sp_rec))
def t_law_same_2 (K : PySem.W.Frag) (sp_rec : Sp') : TS' := (wSeq (wIfS (wOr (wB (wOp (isnD false) (wVar 1) (wC .non))) (wB (wOp (isnD false) (wVar 0) (wC .non)))) (wRet (wAndV (wOp (isnD false) (wVar 1) (wC .non)) (wOp (isnD false) (wVar 0) (wC .non)))) wNext)
  (t_law_same_3 K sp_rec))
def t_law_same (K : PySem.W.Frag) (sp_rec : Sp') : TS' := (wSeq (wIfS (zTru (wCB isi2D (wCons (wVar 1) (wCons (wTup (wCons (wC (.ty "list")) (wCons (wC (.ty "tuple")) wNil))) wNil)))) (wSeq (wIfS (wOr (wB (wOp (eqD true) (wCB (isiW "list") (wCons (wVar 0) (wCons (wC (.ty "list")) wNil))) (wCB (isiW "list") (wCons (wVar 1) (wCons (wC (.ty "list")) wNil))))) (wB (wOp (eqD true) (wCB (isiW "tuple") (wCons (wVar 0) (wCons (wC (.ty "tuple")) wNil))) (wCB (isiW "tuple") (wCons (wVar 1) (wCons (wC (.ty "tuple")) wNil)))))) (wRet (wC (.bl false))) wNext)
  (t_law_same_1 K sp_rec)) wNext)
  (t_law_same_2 K sp_rec))
abbrev RD_law_same (K : PySem.W.Frag) (sp_rec : Sp') (n : Nat) : Prop := ∀ ds L Q E, sp_law_sameN (n + 1) ds L Q E → t_law_same K sp_rec { nx := fun _ L1 => Dn (Q .non) L1, rt := fun d L1 => Dn (Q d) L1 } (start' ["_law_found", "_law_due", "_law_part_a", "_law_part_b"] ds) L
def t_law_low_2 (K : PySem.W.Frag) : TS' := (wPar 2 3 (wCons (wVar 3) (wCons (wOp modD (wCB intcD (wCons (wVar 2) wNil)) (wVar 3)) wNil)))
def t_law_low_3 (K : PySem.W.Frag) : TS' := (wRet (wTup (wCons (wOp fdivD (wVar 0) (wVar 2)) (wCons (wOp fdivD (wVar 1) (wVar 2)) wNil))))
def t_law_low_1 (K : PySem.W.Frag) : TS' := (wSeq (wPar 2 3 (wCons (wCB absD (wCons (wVar 0) wNil)) (wCons (wVar 1) wNil)))
  (wSeq (wWhile (wB (wOp gtD (wVar 3) (wC (.int 0)))) (t_law_low_2 K))
  (t_law_low_3 K)))
def t_law_low (K : PySem.W.Frag) : TS' := (wSeq (wIfS (wB (wOp ltD (wVar 1) (wC (.int 0)))) (wPar 0 1 (wCons (wUn negD (wVar 0)) (wCons (wUn negD (wVar 1)) wNil))) wNext)
  (t_law_low_1 K))
abbrev RD_law_low (K : PySem.W.Frag) : Prop := ∀ ds L Q E, sp_law_low ds L Q E → t_law_low K { nx := fun _ L1 => Dn (Q .non) L1, rt := fun d L1 => Dn (Q d) L1 } (start' ["_law_num", "_law_den", "_law_high", "_law_rest"] ds) L
def t_law_add_1 (K : PySem.W.Frag) : TS' := (wRet (wCall sp_law_low [] X0 (wCons (wOp addF (wOp mulF (wIxk 0 (wVar 0)) (wIxk 1 (wVar 1))) (wOp mulF (wIxk 0 (wVar 1)) (wIxk 1 (wVar 0)))) (wCons (wOp mulF (wIxk 1 (wVar 0)) (wIxk 1 (wVar 1))) wNil))))
def t_law_add (K : PySem.W.Frag) : TS' := (wSeq (wIfS (wAnd (wB (wOp (eqD false) (wIxk 1 (wVar 0)) (wC (.int 1)))) (wB (wOp (eqD false) (wIxk 1 (wVar 1)) (wC (.int 1))))) (wRet (wTup (wCons (wOp addF (wIxk 0 (wVar 0)) (wIxk 0 (wVar 1))) (wCons (wC (.int 1)) wNil)))) wNext)
  (t_law_add_1 K))
abbrev RD_law_add (K : PySem.W.Frag) : Prop := ∀ ds L Q E, sp_law_add ds L Q E → t_law_add K { nx := fun _ L1 => Dn (Q .non) L1, rt := fun d L1 => Dn (Q d) L1 } (start' ["_law_p", "_law_q"] ds) L
def t_law_sub (K : PySem.W.Frag) : TS' := (wRet (wCall sp_law_add [] X0 (wCons (wVar 0) (wCons (wTup (wCons (wUn negD (wIxk 0 (wVar 1))) (wCons (wIxk 1 (wVar 1)) wNil))) wNil))))
abbrev RD_law_sub (K : PySem.W.Frag) : Prop := ∀ ds L Q E, sp_law_sub ds L Q E → t_law_sub K { nx := fun _ L1 => Dn (Q .non) L1, rt := fun d L1 => Dn (Q d) L1 } (start' ["_law_p", "_law_q"] ds) L
def t_law_mul_1 (K : PySem.W.Frag) : TS' := (wRet (wCall sp_law_low [] X0 (wCons (wOp mulF (wIxk 0 (wVar 0)) (wIxk 0 (wVar 1))) (wCons (wOp mulF (wIxk 1 (wVar 0)) (wIxk 1 (wVar 1))) wNil))))
def t_law_mul (K : PySem.W.Frag) : TS' := (wSeq (wIfS (wAnd (wB (wOp (eqD false) (wIxk 1 (wVar 0)) (wC (.int 1)))) (wB (wOp (eqD false) (wIxk 1 (wVar 1)) (wC (.int 1))))) (wRet (wTup (wCons (wOp mulF (wIxk 0 (wVar 0)) (wIxk 0 (wVar 1))) (wCons (wC (.int 1)) wNil)))) wNext)
  (t_law_mul_1 K))
abbrev RD_law_mul (K : PySem.W.Frag) : Prop := ∀ ds L Q E, sp_law_mul ds L Q E → t_law_mul K { nx := fun _ L1 => Dn (Q .non) L1, rt := fun d L1 => Dn (Q d) L1 } (start' ["_law_p", "_law_q"] ds) L
def t_law_lt (K : PySem.W.Frag) : TS' := (wRet (wOp ltD (wOp mulF (wIxk 0 (wVar 0)) (wIxk 1 (wVar 1))) (wOp mulF (wIxk 0 (wVar 1)) (wIxk 1 (wVar 0)))))
abbrev RD_law_lt (K : PySem.W.Frag) : Prop := ∀ ds L Q E, sp_law_lt ds L Q E → t_law_lt K { nx := fun _ L1 => Dn (Q .non) L1, rt := fun d L1 => Dn (Q d) L1 } (start' ["_law_p", "_law_q"] ds) L
def t_law_hand (K : PySem.W.Frag) : TS' := (wSeq (wIfS (wAnd (wB (wOp (eqD false) (wIxk 1 (wVar 1)) (wC (.int 1)))) (wB (wOp (eqD false) (wCall sp_law_draw [] X0 (wCons (wVar 0) (wCons (wC (.int 2)) wNil))) (wC (.int 0))))) (wRet (wIxk 0 (wVar 1))) wNext)
  (wRet (wVar 1)))
abbrev RD_law_hand (K : PySem.W.Frag) : Prop := ∀ ds L Q E, sp_law_hand ds L Q E → t_law_hand K { nx := fun _ L1 => Dn (Q .non) L1, rt := fun d L1 => Dn (Q d) L1 } (start' ["_law_bag_here", "_law_p"] ds) L
def t_law_handed (K : PySem.W.Frag) : TS' := (wRet (wLc (vSeq (wVar 1)) (hName 2) wYes (wCB tupleD (wCons (wLcF (vSeq (wVar 2)) (pName 3) wYes (wCall sp_law_hand [] X0 (wCons (wVar 0) (wCons (wVar 3) wNil))) [3]) wNil)) [2]))
abbrev RD_law_handed (K : PySem.W.Frag) : Prop := ∀ ds L Q E, sp_law_handed ds L Q E → t_law_handed K { nx := fun _ L1 => Dn (Q .non) L1, rt := fun d L1 => Dn (Q d) L1 } (start' ["_law_bag_here", "_law_spots_here", "_law_spot", "_law_p"] ds) L
def t_law_number_2 (K : PySem.W.Frag) : TS' := (wRet (wTup (wCons (wOp subD (wCall sp_law_draw [] X0 (wCons (wVar 0) (wCons (wC (.int 19)) wNil))) (wC (.int 9))) (wCons (wC (.int 1)) wNil))))
def t_law_number_1 (K : PySem.W.Frag) : TS' := (wSeq (wIfS (wB (wOp gtD (wVar 1) (wC (.int 7)))) (wRet (wCall sp_law_low [] X0 (wCons (wOp subD (wCall sp_law_draw [] X0 (wCons (wVar 0) (wCons (wC (.int 121)) wNil))) (wC (.int 60))) (wCons (wOp addF (wC (.int 1)) (wCall sp_law_draw [] X0 (wCons (wVar 0) (wCons (wC (.int 12)) wNil)))) wNil)))) wNext)
  (t_law_number_2 K))
def t_law_number (K : PySem.W.Frag) : TS' := (wSeq (wAsg (wCall sp_law_draw [] X0 (wCons (wVar 0) (wCons (wC (.int 12)) wNil))) (hName 1))
  (wSeq (wIfS (wB (wOp (eqD false) (wVar 1) (wC (.int 11)))) (wRet (wTup (wCons (wOp subD (wCall sp_law_draw [] X0 (wCons (wVar 0) (wCons (wC (.int 2001)) wNil))) (wC (.int 1000))) (wCons (wC (.int 1)) wNil)))) wNext)
  (t_law_number_1 K)))
abbrev RD_law_number (K : PySem.W.Frag) : Prop := ∀ ds L Q E, sp_law_number ds L Q E → t_law_number K { nx := fun _ L1 => Dn (Q .non) L1, rt := fun d L1 => Dn (Q d) L1 } (start' ["_law_bag_here", "_law_way"] ds) L
def t_law_ring_1 (K : PySem.W.Frag) : TS' := (wSeq (wAsg (wCall sp_law_of [] X0 (wCons (wVar 0) (wCons (wLstF (wCons (wC (.int 1)) (wCons (wC (.int 1)) (wCons (wC (.int 1)) (wCons (wC (.int 1)) (wCons (wC (.int 1)) (wCons (wC (.int 1)) (wCons (wC (.int 2)) (wCons (wC (.int 3)) wNil))))))))) wNil))) (hName 8))
  (wSeq (wAsg (wCall sp_law_draw [] X0 (wCons (wVar 0) (wCons (wCB lenD (wCons (wVar 6) wNil)) wNil))) (hName 9))
  (wRet (wLcF (vSeq (wOp addF (wSlF (wVar 6) (wPart (wVar 9)) wNoPart) (wSlF (wVar 6) wNoPart (wPart (wVar 9))))) (pName 10) wYes (wTup (wCons (wCall sp_law_low [] X0 (wCons (wIxk 0 (wVar 10)) (wCons (wVar 8) wNil))) (wCons (wCall sp_law_low [] X0 (wCons (wIxk 1 (wVar 10)) (wCons (wVar 8) wNil))) wNil))) [10]))))
def t_law_ring (K : PySem.W.Frag) : TS' := (wSeq (wPar3 1 2 3 (wCons (wCall sp_law_draw [] X0 (wCons (wVar 0) (wCons (wC (.int 4)) wNil))) (wCons (wCall sp_law_draw [] X0 (wCons (wVar 0) (wCons (wC (.int 4)) wNil))) (wCons (wCall sp_law_draw [] X0 (wCons (wVar 0) (wCons (wC (.int 4)) wNil))) wNil))))
  (wSeq (wPar 4 5 (wCons (wOp addF (wC (.int 1)) (wCall sp_law_draw [] X0 (wCons (wVar 0) (wCons (wC (.int 5)) wNil)))) (wCons (wOp addF (wC (.int 1)) (wCall sp_law_draw [] X0 (wCons (wVar 0) (wCons (wC (.int 5)) wNil)))) wNil)))
  (wSeq (wIfS (wB (wOp ltD (wVar 1) (wC (.int 2)))) (wAsg (wLstF (wCons (wTup (wCons (wVar 2) (wCons (wVar 3) wNil))) (wCons (wTup (wCons (wOp addF (wVar 2) (wVar 4)) (wCons (wVar 3) wNil))) (wCons (wTup (wCons (wOp addF (wVar 2) (wVar 4)) (wCons (wOp addF (wVar 3) (wVar 5)) wNil))) (wCons (wTup (wCons (wVar 2) (wCons (wOp addF (wVar 3) (wVar 5)) wNil))) wNil))))) (hName 6)) (wIfS (wB (wOp (eqD false) (wVar 1) (wC (.int 2)))) (wAsg (wLstF (wCons (wTup (wCons (wVar 2) (wCons (wVar 3) wNil))) (wCons (wTup (wCons (wOp addF (wVar 2) (wVar 4)) (wCons (wOp addF (wVar 3) (wCall sp_law_draw [] X0 (wCons (wVar 0) (wCons (wVar 5) wNil)))) wNil))) (wCons (wTup (wCons (wOp subD (wOp addF (wVar 2) (wCall sp_law_draw [] X0 (wCons (wVar 0) (wCons (wOp addF (wVar 4) (wC (.int 3))) wNil)))) (wC (.int 3))) (wCons (wOp addF (wVar 3) (wVar 5)) wNil))) wNil)))) (hName 6)) (wSeq (wAsg (wTup (wCons (wOp addF (wVar 2) (wCall sp_law_draw [] X0 (wCons (wVar 0) (wCons (wOp addF (wVar 4) (wC (.int 1))) wNil)))) (wCons (wOp addF (wOp addF (wOp addF (wVar 3) (wVar 5)) (wC (.int 1))) (wCall sp_law_draw [] X0 (wCons (wVar 0) (wCons (wC (.int 2)) wNil)))) wNil))) (hName 7))
  (wAsg (wLstF (wCons (wTup (wCons (wVar 2) (wCons (wVar 3) wNil))) (wCons (wTup (wCons (wOp addF (wVar 2) (wVar 4)) (wCons (wVar 3) wNil))) (wCons (wTup (wCons (wOp addF (wVar 2) (wVar 4)) (wCons (wOp addF (wVar 3) (wVar 5)) wNil))) (wCons (wVar 7) (wCons (wTup (wCons (wVar 2) (wCons (wOp addF (wVar 3) (wVar 5)) wNil))) wNil)))))) (hName 6)))))
  (t_law_ring_1 K))))
abbrev RD_law_ring (K : PySem.W.Frag) : Prop := ∀ ds L Q E, sp_law_ring ds L Q E → t_law_ring K { nx := fun _ L1 => Dn (Q .non) L1, rt := fun d L1 => Dn (Q d) L1 } (start' ["_law_bag_here", "_law_way", "_law_x", "_law_y", "_law_wide", "_law_tall", "_law_spots_here", "_law_top", "_law_den", "_law_at", "_law_spot"] ds) L
def t_law_loft_1 (K : PySem.W.Frag) : TS' := (wSeq (wAsg (wOp modD (wCB intcD (wCons (wOp addF (wVar 6) (wC (.int 1))) wNil)) (wVar 4)) (hName 7))
  (wAsg (wOp addM (wVar 5) (wLstF (wCons (wTup (wCons (wVar 6) (wCons (wVar 7) (wCons (wOp addF (wVar 4) (wVar 7)) wNil)))) (wCons (wTup (wCons (wVar 6) (wCons (wOp addF (wVar 4) (wVar 7)) (wCons (wOp addF (wVar 4) (wVar 6)) wNil)))) wNil)))) (hName 5)))
def t_law_loft_3 (K : PySem.W.Frag) : TS' := (wDrop (wBM "list" appendD (wVar 5) (wCons (wTup (wCons (wC (.int 0)) (wCons (wOp addF (wVar 7) (wC (.int 1))) (wCons (wVar 7) wNil)))) wNil)))
def t_law_loft_5 (K : PySem.W.Frag) : TS' := (wDrop (wBM "list" appendD (wVar 5) (wCons (wTup (wCons (wVar 4) (wCons (wOp addF (wVar 4) (wVar 7)) (wCons (wOp addF (wOp addF (wVar 4) (wVar 7)) (wC (.int 1))) wNil)))) wNil)))
def t_law_loft_6 (K : PySem.W.Frag) : TS' := (wRet (wLstF (wCons (wOp addF (wLcF (vSeq (wVar 0)) (pName 8) wYes (wTup (wCons (wIxk 0 (wVar 8)) (wCons (wIxk 1 (wVar 8)) (wCons (wVar 1) wNil)))) [8]) (wLcF (vSeq (wVar 2)) (pName 8) wYes (wTup (wCons (wIxk 0 (wVar 8)) (wCons (wIxk 1 (wVar 8)) (wCons (wVar 3) wNil)))) [8])) (wCons (wFz (wVar 5)) wNil))))
def t_law_loft_4 (K : PySem.W.Frag) : TS' := (wSeq (wFor (vRng2 (wC (.int 1)) (wOp subD (wVar 4) (wC (.int 1)))) (hName 7) (t_law_loft_5 K))
  (t_law_loft_6 K))
def t_law_loft_2 (K : PySem.W.Frag) : TS' := (wSeq (wFor (vRng2 (wC (.int 1)) (wOp subD (wVar 4) (wC (.int 1)))) (hName 7) (t_law_loft_3 K))
  (t_law_loft_4 K))
def t_law_loft (K : PySem.W.Frag) : TS' := (wSeq (wAsg (wCB lenD (wCons (wVar 0) wNil)) (hName 4))
  (wSeq (wAsg (wLst wNil) (hName 5))
  (wSeq (wFor (vRng1 (wVar 4)) (hName 6) (t_law_loft_1 K))
  (t_law_loft_2 K))))
abbrev RD_law_loft (K : PySem.W.Frag) : Prop := ∀ ds L Q E, sp_law_loft ds L Q E → t_law_loft K { nx := fun _ L1 => Dn (Q .non) L1, rt := fun d L1 => Dn (Q d) L1 } (start' ["_law_base", "_law_low_here", "_law_cap", "_law_high", "_law_m", "_law_found", "_law_i", "_law_j", "_law_spot"] ds) L
def t_law_area_1 (K : PySem.W.Frag) : TS' := (wSeq (wPar 3 4 (wCons (wOp ixD (wVar 0) (wOp subD (wVar 2) (wC (.int 1)))) (wCons (wOp ixD (wVar 0) (wVar 2)) wNil)))
  (wAsg (wCall sp_law_add [] X0 (wCons (wVar 1) (wCons (wCall sp_law_sub [] X0 (wCons (wCall sp_law_mul [] X0 (wCons (wIxk 0 (wVar 3)) (wCons (wIxk 1 (wVar 4)) wNil))) (wCons (wCall sp_law_mul [] X0 (wCons (wIxk 0 (wVar 4)) (wCons (wIxk 1 (wVar 3)) wNil))) wNil))) wNil))) (hName 1)))
def t_law_area_2 (K : PySem.W.Frag) : TS' := (wRet (wCall sp_law_mul [] X0 (wCons (wVar 1) (wCons (wTup (wCons (wC (.int 1)) (wCons (wC (.int 2)) wNil))) wNil))))
def t_law_area (K : PySem.W.Frag) : TS' := (wSeq (wAsg (wTup (wCons (wC (.int 0)) (wCons (wC (.int 1)) wNil))) (hName 1))
  (wSeq (wFor (vRng1 (wCB lenD (wCons (wVar 0) wNil))) (hName 2) (t_law_area_1 K))
  (t_law_area_2 K)))
abbrev RD_law_area (K : PySem.W.Frag) : Prop := ∀ ds L Q E, sp_law_area ds L Q E → t_law_area K { nx := fun _ L1 => Dn (Q .non) L1, rt := fun d L1 => Dn (Q d) L1 } (start' ["_law_ring_here", "_law_found", "_law_k", "_law_p", "_law_q"] ds) L
def t_law_det_1 (K : PySem.W.Frag) : TS' := (wSeq (wPar 5 6 (wCons (wOp modD (wCB intcD (wCons (wOp addF (wVar 4) (wC (.int 1))) wNil)) (wC (.int 3))) (wCons (wOp modD (wCB intcD (wCons (wOp addF (wVar 4) (wC (.int 2))) wNil)) (wC (.int 3))) wNil)))
  (wSeq (wAsg (wCall sp_law_sub [] X0 (wCons (wCall sp_law_mul [] X0 (wCons (wOp ixD (wVar 1) (wVar 5)) (wCons (wOp ixD (wVar 2) (wVar 6)) wNil))) (wCons (wCall sp_law_mul [] X0 (wCons (wOp ixD (wVar 1) (wVar 6)) (wCons (wOp ixD (wVar 2) (wVar 5)) wNil))) wNil))) (hName 7))
  (wAsg (wCall sp_law_add [] X0 (wCons (wVar 3) (wCons (wCall sp_law_mul [] X0 (wCons (wOp ixD (wVar 0) (wVar 4)) (wCons (wVar 7) wNil))) wNil))) (hName 3))))
def t_law_det (K : PySem.W.Frag) : TS' := (wSeq (wAsg (wTup (wCons (wC (.int 0)) (wCons (wC (.int 1)) wNil))) (hName 3))
  (wSeq (wFor (vRng1 (wC (.int 3))) (hName 4) (t_law_det_1 K))
  (wRet (wVar 3))))
abbrev RD_law_det (K : PySem.W.Frag) : Prop := ∀ ds L Q E, sp_law_det ds L Q E → t_law_det K { nx := fun _ L1 => Dn (Q .non) L1, rt := fun d L1 => Dn (Q d) L1 } (start' ["_law_a", "_law_b", "_law_third", "_law_found", "_law_k", "_law_i", "_law_j", "_law_minor"] ds) L
def t_law_volume_1 (K : PySem.W.Frag) : TS' := (wAsg (wCall sp_law_add [] X0 (wCons (wVar 1) (wCons (wCall sp_law_det [] X0 (wCons (wOp ixD (wIxk 0 (wVar 0)) (wIxk 0 (wVar 2))) (wCons (wOp ixD (wIxk 0 (wVar 0)) (wIxk 1 (wVar 2))) (wCons (wOp ixD (wIxk 0 (wVar 0)) (wIxk 2 (wVar 2))) wNil)))) wNil))) (hName 1))
def t_law_volume_2 (K : PySem.W.Frag) : TS' := (wRet (wCall sp_law_mul [] X0 (wCons (wVar 1) (wCons (wTup (wCons (wC (.int 1)) (wCons (wC (.int 6)) wNil))) wNil))))
def t_law_volume (K : PySem.W.Frag) : TS' := (wSeq (wAsg (wTup (wCons (wC (.int 0)) (wCons (wC (.int 1)) wNil))) (hName 1))
  (wSeq (wFor (vSeq (wIxk 1 (wVar 0))) (hName 2) (t_law_volume_1 K))
  (t_law_volume_2 K)))
abbrev RD_law_volume (K : PySem.W.Frag) : Prop := ∀ ds L Q E, sp_law_volume ds L Q E → t_law_volume K { nx := fun _ L1 => Dn (Q .non) L1, rt := fun d L1 => Dn (Q d) L1 } (start' ["_law_pair", "_law_found", "_law_face"] ds) L
def t_law_spots_1 (K : PySem.W.Frag) : TS' := (wIfS (wAnd (wB (wOp gtD (wVar 3) (wC (.int 0)))) (wB (wOp (eqD false) (wCall sp_law_draw [] X0 (wCons (wVar 0) (wCons (wC (.int 5)) wNil))) (wC (.int 0))))) (wDrop (wBM "list" appendD (wVar 2) (wCons (wOp ixD (wVar 2) (wCall sp_law_draw [] X0 (wCons (wVar 0) (wCons (wVar 3) wNil)))) wNil))) (wDrop (wBM "list" appendD (wVar 2) (wCons (wTup (wCons (wCall sp_law_number [] X0 (wCons (wVar 0) wNil)) (wCons (wCall sp_law_number [] X0 (wCons (wVar 0) wNil)) wNil))) wNil))))
def t_law_spots (K : PySem.W.Frag) : TS' := (wSeq (wAsg (wLst wNil) (hName 2))
  (wSeq (wFor (vRng1 (wVar 1)) (hName 3) (t_law_spots_1 K))
  (wRet (wFz (wVar 2)))))
abbrev RD_law_spots (K : PySem.W.Frag) : Prop := ∀ ds L Q E, sp_law_spots ds L Q E → t_law_spots K { nx := fun _ L1 => Dn (Q .non) L1, rt := fun d L1 => Dn (Q d) L1 } (start' ["_law_bag_here", "_law_m", "_law_found", "_law_k"] ds) L
def t_law_heights (K : PySem.W.Frag) : TS' := (wSeq (wPar 1 2 (wCons (wCall sp_law_number [] X0 (wCons (wVar 0) wNil)) (wCons (wCall sp_law_number [] X0 (wCons (wVar 0) wNil)) wNil)))
  (wSeq (wIfS (wAnd (wB (wOp gtD (wCall sp_law_draw [] X0 (wCons (wVar 0) (wCons (wC (.int 6)) wNil))) (wC (.int 0)))) (zTru (wCall sp_law_lt [] X0 (wCons (wVar 2) (wCons (wVar 1) wNil))))) (wRet (wTup (wCons (wVar 2) (wCons (wVar 1) wNil)))) wNext)
  (wRet (wTup (wCons (wVar 1) (wCons (wVar 2) wNil))))))
abbrev RD_law_heights (K : PySem.W.Frag) : Prop := ∀ ds L Q E, sp_law_heights ds L Q E → t_law_heights K { nx := fun _ L1 => Dn (Q .non) L1, rt := fun d L1 => Dn (Q d) L1 } (start' ["_law_bag_here", "_law_one", "_law_two"] ds) L
def t_law_right_1 (K : PySem.W.Frag) : TS' := (wRet (wCall sp_law_same [] X0 (wCons (wLstF (wCons (wCall (sp_is_closed K) [] X0 (wCons (wVar 0) wNil)) (wCons (wFz (wCall (sp_open_edges K) [] X0 (wCons (wVar 0) wNil))) (wCons (wCall (sp_volume K) [] X0 (wCons (wVar 0) wNil)) wNil)))) (wCons (wLstF (wCons (wC (.bl true)) (wCons (wLstF wNil) (wCons (wCall sp_law_volume [] X0 (wCons (wVar 1) wNil)) wNil)))) wNil))))
def t_law_right (K : PySem.W.Frag) : TS' := (wSeq (wIfS (zNot (zTru (wCall sp_law_same [] X0 (wCons (wLstF (wCons (wFldF K (wVar 0) "corners") (wCons (wFldF K (wVar 0) "faces") wNil))) (wCons (wLstF (wCons (wCB tupleD (wCons (wIxk 0 (wVar 1)) wNil)) (wCons (wCB tupleD (wCons (wIxk 1 (wVar 1)) wNil)) wNil))) wNil))))) (wRet (wC (.bl false))) wNext)
  (t_law_right_1 K))
abbrev RD_law_right (K : PySem.W.Frag) : Prop := ∀ ds L Q E, (sp_law_right K) ds L Q E → t_law_right K { nx := fun _ L1 => Dn (Q .non) L1, rt := fun d L1 => Dn (Q d) L1 } (start' ["_law_made", "_law_pair"] ds) L
def t_law_any_5 (K : PySem.W.Frag) : TS' := (wRet (wTup (wCons (wVar 2) (wCons (wVar 6) (wCons (wVar 3) (wCons (wVar 7) wNil))))))
def t_law_any_4 (K : PySem.W.Frag) : TS' := (wSeq (wAsg (wCall sp_law_heights [] X0 (wCons (wVar 0) wNil)) (hTup 2 (hCons (hName 6) (hCons (hName 7) hNil))))
  (wSeq (wIfS (wB (wOp (eqD false) (wVar 4) (wC (.int 4)))) (wAsg (wVar 6) (hName 7)) wNext)
  (t_law_any_5 K)))
def t_law_any_3 (K : PySem.W.Frag) : TS' := (wSeq (wIfS (wB (wOp (eqD false) (wVar 4) (wC (.int 3)))) (wAsg (wLstF wNil) (hName 3)) wNext)
  (t_law_any_4 K))
def t_law_any_2 (K : PySem.W.Frag) : TS' := (wSeq (wIfS (wB (wOp (eqD false) (wVar 4) (wC (.int 2)))) (wSeq (wAsg (wCall sp_law_draw [] X0 (wCons (wVar 0) (wCons (wC (.int 3)) wNil))) (hName 5))
  (wPar 2 3 (wCons (wSlF (wVar 2) wNoPart (wPart (wVar 5))) (wCons (wSlF (wVar 3) wNoPart (wPart (wVar 5))) wNil)))) wNext)
  (t_law_any_3 K))
def t_law_any_1 (K : PySem.W.Frag) : TS' := (wSeq (wIfS (wB (wOp (eqD false) (wVar 4) (wC (.int 1)))) (wAsg (wOp addF (wVar 3) (wLstF (wCons (wTup (wCons (wTup (wCons (wC (.int 1)) (wCons (wC (.int 2)) wNil))) (wCons (wTup (wCons (wC (.int 0)) (wCons (wC (.int 1)) wNil))) wNil))) wNil))) (hName 3)) wNext)
  (t_law_any_2 K))
def t_law_any (K : PySem.W.Frag) : TS' := (wSeq (wAsg (wOp addF (wC (.int 3)) (wCall sp_law_draw [] X0 (wCons (wVar 0) (wCons (wC (.int 5)) wNil)))) (hName 1))
  (wSeq (wPar 2 3 (wCons (wCall sp_law_spots [] X0 (wCons (wVar 0) (wCons (wVar 1) wNil))) (wCons (wCall sp_law_spots [] X0 (wCons (wVar 0) (wCons (wVar 1) wNil))) wNil)))
  (wSeq (wAsg (wCall sp_law_draw [] X0 (wCons (wVar 0) (wCons (wC (.int 12)) wNil))) (hName 4))
  (wSeq (wIfS (wB (wOp (eqD false) (wVar 4) (wC (.int 0)))) (wAsg (wSlF (wVar 2) wNoPart (wPart (wUn negD (wC (.int 1))))) (hName 2)) wNext)
  (t_law_any_1 K)))))
abbrev RD_law_any (K : PySem.W.Frag) : Prop := ∀ ds L Q E, sp_law_any ds L Q E → t_law_any K { nx := fun _ L1 => Dn (Q .non) L1, rt := fun d L1 => Dn (Q d) L1 } (start' ["_law_bag_here", "_law_m", "_law_base", "_law_cap", "_law_way", "_law_short", "_law_low_here", "_law_high"] ds) L
def t_law_once_3 (K : PySem.W.Frag) : TS' := (wSeq (wDrop (wBM "list" appendD (wVar 5) (wCons (wTup (wCons (wC (.int 0)) (wCons (wC (.int 0)) wNil))) wNil)))
  (wSeq (wDrop (wBM0 "list" clearD (wVar 6)))
  (wRet (wCall (sp_law_right K) [] X0 (wCons (wIxk 1 (wVar 9)) (wCons (wCall sp_law_loft [] X0 (wCons (wVar 1) (wCons (wVar 2) (wCons (wVar 3) (wCons (wVar 4) wNil))))) wNil))))))
def t_law_once_2 (K : PySem.W.Frag) : TS' := (wSeq (wIfS (wOr (wB (wOp (eqD true) (wIxk 0 (wVar 9)) (wC (.str "")))) (wOr (wB (wOp (eqD true) (wCB lenD (wCons (wVar 5) wNil)) (wCB lenD (wCons (wVar 1) wNil)))) (wB (wOp (eqD true) (wCB lenD (wCons (wVar 6) wNil)) (wCB lenD (wCons (wVar 3) wNil)))))) (wRet (wC (.bl false))) wNext)
  (t_law_once_3 K))
def t_law_once_1 (K : PySem.W.Frag) : TS' := (wSeq (wIfS (wOr (wB (wOp (eqD true) (wCB lenD (wCons (wVar 1) wNil)) (wCB lenD (wCons (wVar 3) wNil)))) (wOr (wB (wOp ltD (wCB lenD (wCons (wVar 1) wNil)) (wC (.int 3)))) (zNot (zTru (wCall sp_law_lt [] X0 (wCons (wVar 2) (wCons (wVar 4) wNil))))))) (wRet (wCall sp_law_same [] X0 (wCons (wVar 9) (wCons (wTup (wCons (wC (.str "BadLoft")) wNil)) wNil)))) wNext)
  (t_law_once_2 K))
def t_law_once (K : PySem.W.Frag) : TS' := (wSeq (wAsg (wCall sp_law_any [] X0 (wCons (wVar 0) wNil)) (hTup 4 (hCons (hName 1) (hCons (hName 2) (hCons (hName 3) (hCons (hName 4) hNil))))))
  (wSeq (wAsg (wTup (wCons (wCall sp_law_handed [] X0 (wCons (wVar 0) (wCons (wVar 1) wNil))) (wCons (wCall sp_law_handed [] X0 (wCons (wVar 0) (wCons (wVar 3) wNil))) wNil))) (hTup 2 (hCons (hName 5) (hCons (hName 6) hNil))))
  (wSeq (wAsg (wTup (wCons (wCall sp_law_hand [] X0 (wCons (wVar 0) (wCons (wVar 2) wNil))) (wCons (wCall sp_law_hand [] X0 (wCons (wVar 0) (wCons (wVar 4) wNil))) wNil))) (hTup 2 (hCons (hName 7) (hCons (hName 8) hNil))))
  (wSeq (wIfS (wB (wOp (eqD false) (wCall sp_law_draw [] X0 (wCons (wVar 0) (wCons (wC (.int 2)) wNil))) (wC (.int 0)))) (wAsg (wLam (lamT K) K (He.ga K "Refused") (ts_law_try K) (tr_law_try K) (fun E' => wCallX (sp_loft K) (wCons (wVar 5) (wCons (wVar 7) (wCons (wVar 6) (wCons (wVar 8) wNil)))) fun _ => E')) (hName 9)) (wAsg (wLam (lamT K) K (He.ga K "Refused") (ts_law_try K) (tr_law_try K) (wCallKX (sp_loft K) List.reverse (wCons (wVar 8) (wCons (wCB tupleD (wCons (wVar 6) wNil)) (wCons (wVar 7) (wCons (wCB tupleD (wCons (wVar 5) wNil)) wNil)))))) (hName 9)))
  (t_law_once_1 K)))))
abbrev RD_law_once (K : PySem.W.Frag) : Prop := ∀ ds L Q E, (sp_law_once K) ds L Q E → t_law_once K { nx := fun _ L1 => Dn (Q .non) L1, rt := fun d L1 => Dn (Q d) L1 } (start' ["_law_bag_here", "_law_base", "_law_low_here", "_law_cap", "_law_high", "_law_given_a", "_law_given_b", "_law_low_given", "_law_high_given", "_law_found"] ds) L
def t_law_prism (K : PySem.W.Frag) : TS' := (wSeq (wAsg (wCall sp_law_ring [] X0 (wCons (wVar 0) wNil)) (hName 1))
  (wSeq (wAsg (wTup (wCons (wOp subD (wCall sp_law_draw [] X0 (wCons (wVar 0) (wCons (wC (.int 13)) wNil))) (wC (.int 6))) (wCons (wC (.int 2)) wNil))) (hName 2))
  (wSeq (wAsg (wCall sp_law_low [] X0 (wCons (wIxk 0 (wVar 2)) (wCons (wIxk 1 (wVar 2)) wNil))) (hName 2))
  (wSeq (wAsg (wCall sp_law_add [] X0 (wCons (wVar 2) (wCons (wCall sp_law_of [] X0 (wCons (wVar 0) (wCons (wLstF (wCons (wTup (wCons (wC (.int 1)) (wCons (wC (.int 1)) wNil))) (wCons (wTup (wCons (wC (.int 2)) (wCons (wC (.int 1)) wNil))) (wCons (wTup (wCons (wC (.int 1)) (wCons (wC (.int 3)) wNil))) (wCons (wTup (wCons (wC (.int 5)) (wCons (wC (.int 2)) wNil))) wNil))))) wNil))) wNil))) (hName 3))
  (wSeq (wAsg (wLstF (wCons (wTup (wCons (wOp subD (wCall sp_law_draw [] X0 (wCons (wVar 0) (wCons (wC (.int 9)) wNil))) (wC (.int 4))) (wCons (wC (.int 1)) wNil))) (wCons (wTup (wCons (wOp subD (wCall sp_law_draw [] X0 (wCons (wVar 0) (wCons (wC (.int 9)) wNil))) (wC (.int 4))) (wCons (wC (.int 1)) wNil))) wNil))) (hName 4))
  (wSeq (wAsg (wLcF (vSeq (wVar 1)) (pName 8) wYes (wTup (wCons (wCall sp_law_add [] X0 (wCons (wIxk 0 (wVar 8)) (wCons (wIxk 0 (wVar 4)) wNil))) (wCons (wCall sp_law_add [] X0 (wCons (wIxk 1 (wVar 8)) (wCons (wIxk 1 (wVar 4)) wNil))) wNil))) [8]) (hName 5))
  (wSeq (wAsg (wCallX (sp_loft K) (wCons (wFz (wCall sp_law_handed [] X0 (wCons (wVar 0) (wCons (wVar 1) wNil)))) (wCons (wVar 2) (wCons (wFz (wCall sp_law_handed [] X0 (wCons (wVar 0) (wCons (wVar 5) wNil)))) (wCons (wVar 3) wNil)))) fun _ => X0) (hName 6))
  (wSeq (wAsg (wCall sp_law_mul [] X0 (wCons (wCall sp_law_area [] X0 (wCons (wVar 1) wNil)) (wCons (wCall sp_law_sub [] X0 (wCons (wVar 3) (wCons (wVar 2) wNil))) wNil))) (hName 7))
  (wRet (wCall sp_law_same [] X0 (wCons (wLstF (wCons (wCallK (sp_volume K) (fun l => l) X0 (wCons (wVar 6) wNil)) (wCons (wFldF K (wVar 6) "faces") wNil))) (wCons (wLstF (wCons (wVar 7) (wCons (wCB tupleD (wCons (wIxk 1 (wCall sp_law_loft [] X0 (wCons (wVar 1) (wCons (wVar 2) (wCons (wVar 5) (wCons (wVar 3) wNil)))))) wNil)) wNil))) wNil))))))))))))
abbrev RD_law_prism (K : PySem.W.Frag) : Prop := ∀ ds L Q E, (sp_law_prism K) ds L Q E → t_law_prism K { nx := fun _ L1 => Dn (Q .non) L1, rt := fun d L1 => Dn (Q d) L1 } (start' ["_law_bag_here", "_law_ring_here", "_law_low_here", "_law_high", "_law_lean", "_law_cap", "_law_made", "_law_due", "_law_spot"] ds) L
def t_law_1 (K : PySem.W.Frag) : TS' := (wIfS (wOr (zNot (zTru (wCall (sp_law_once K) [] X0 (wCons (wVar 1) wNil)))) (zNot (zTru (wCall (sp_law_prism K) [] X0 (wCons (wVar 1) wNil))))) (wRet (wC (.bl false))) wNext)
def t_law (K : PySem.W.Frag) : TS' := (wSeq (wAsg (wCall sp_law_bag [] X0 (wCons (wVar 0) wNil)) (hName 1))
  (wSeq (wFor (vRng1 (wC (.int 2))) (hName 2) (t_law_1 K))
  (wRet (wC (.bl true)))))
abbrev RD_law (K : PySem.W.Frag) : Prop := ∀ ds L Q E, (sp_law K) ds L Q E → t_law K { nx := fun _ L1 => Dn (Q .non) L1, rt := fun d L1 => Dn (Q d) L1 } (start' ["_law_script", "_law_bag_here", "_law_turn"] ds) L
end Hd

set_option exponentiation.threshold 20000
open PySem PySem.Spec PyProof.Rows L2 Z
namespace Hd
local macro_rules | `(tactic| walk_at "st") => `(tactic| simp (implicitDefEqProofs := false) only [↓seqD_up, ↓seqL_up, ↓len_ilst, ↓len_up, ↓truD_ilst, up_up, List.length_map, ↓wFor_m, ↓frzK_up, ↓frzK_upi, ↓wFz_e, ↓wFg_e, ↓wLstF_e, ↓addF_int, ↓addF_l, ↓addF_tup, ↓addF_str, ↓mulF_int, ↓mulF_l, ↓wSlF_e, ↓slF_tup, ↓slF_str, ↓slF_l, ↓slF_scr, ↓slF_ref, ↓listF_eq, ↓listdF_eq, ↓sortedF_eq, ↓allF_eq, ↓sumF_eq, ↓extF_eq, ↓vEnumF_e, ↓enF_l, ↓fldF_obj, ↓fldF_ref, ↓wFldF_e, ↓wLcF_e, ↓pName_e, ↓pNil_e, ↓pCons_e, ↓pTup_e, ↓gK_some, ↓obind_e, ↓seqL_ilst, ↓addM_eq, ↓sq2_some, ↓wVar_0, ↓wVar_s, ↓hNil_e, ↓hCons_e, ↓wDget_e, ↓wDget2_e, ↓wDput_m, ↓wSortIt_e, ↓wMake_e, ↓wIfS_m, ↓wSeq_m, ↓wAsg_m, ↓hName_e, ↓wC_e, ↓wNil_e, ↓wCons_e, ↓wTup_e, ↓wLst_e, ↓wOp_e, ↓wUn_e, ↓wIf_e, ↓wAndV_e, ↓wOrV_e, ↓wNotV_e, ↓wB_e, ↓wAnd_e, ↓wOr_e, ↓zNot_e, ↓zTru_e, ↓hCons_e, ↓hTup_e, ↓hSub_e, ↓wNext_m, ↓wDrop_m, ↓wRet_m, ↓wRetN_m, ↓wPar_m, ↓wCB_e, ↓wCall_e, ↓wIxk_e, ↓wSl_e, ↓wNoPart_e, ↓wPart_e, ↓wBM_e, ↓wBM0_e, ↓wChain_e, ↓wNever_e, ↓vSeq_e, ↓vEnum_e, ↓vRng1_e, ↓vRng2_e, vZip, ↓blK_bl, ↓tupK_tup, ↓pairK_2, ↓inK_int, ↓truD_bl, ↓truD_int, ↓truD_non, ↓truD_tup, ↓isn_non, ↓isn_int, ↓isn_bl, ↓isn_str, ↓isn_tup, ↓isn_ref, ↓Z.add_int, ↓add_tup, ↓add_ref, ↓intD_eq, ↓intD0_eq, ↓Z.mul_int, ↓Z.eq_int, ↓Z.ne_int, ↓Z.eq_bl, ↓ne_bl, ↓Z.eq_str, ↓Z.ne_str, ↓eq_non, ↓eq_tup, ↓eq_ref, ↓Z.neg_int, ↓seq_tup, ↓seq_ilst, ↓Z.ix_tup, ↓ix_int, ↓sqK_some, ↓ixK_0, ↓ixK_s, ↓tyK_some, ↓ty_non, ↓ty_bl, ↓ty_int, ↓ty_str, ↓ty_tup, ↓ty_ilst, ↓isi_eq, ↓isi2_eq, isiW, ↓len_tup, ↓intc_int, ↓abs_int, ↓gcd_int, ↓list_seq, ↓tuple_seq, ↓all_ref, ↓sum_ref, ↓Z.sl_tup, ↓sl_ilst, ↓sl_ref, ↓walk_tup, ↓walk_ilst, ↓walk_ref, ↓en_ref, start', List.map_cons, List.map_nil, List.cons_append, List.nil_append, List.append_nil, List.length_cons, List.length_nil, List.replicate, List.set_cons_zero, List.set_cons_succ, List.set_nil, List.getElem?_cons_zero, List.getElem?_cons_succ, wipeD, Nat.zero_add, Nat.reduceAdd, Nat.reduceSub, Nat.sub_self, Nat.sub_zero, true_and, and_true, if_true, if_false, Bool.not_true, Bool.not_false, ite_true, ite_false, Bool.false_eq_true, decide_true, decide_false, decide_eq_true_eq, Int.cast_ofNat_Int, reduceIte, Bool.not_eq_true', decide_eq_false_iff_not, Bool.and_true, Bool.true_and, Bool.and_false, Bool.false_and, Bool.or_true, Bool.true_or, Bool.or_false, Bool.false_or, beq_self_eq_true, bne_self_eq_false, not_true_eq_false, not_false_eq_true, String.reduceBEq, String.reduceBNe, Int.reduceToNat, Bool.true_eq_false, reduceCtorEq, Int.reduceEq, Int.reduceLT, Int.reduceLE, gt_iff_lt, ge_iff_le, ↓wBreak_m, ↓wCont_m, ↓wPar3_m, trioK_3, ↓wFldS_m, ↓wFld_e, ↓wChain_e, ↓wLam_e, ↓wIsE_e, ↓wRaise0_e, ↓wCallX_e, ↓wCallKX_e, ↓wYes_e, ↓wCallK_e, isDct_eq, dkK_eq, ↓wDnewT_e])
local macro_rules | `(tactic| walk_at "go") => `(tactic| ((first | with_reducible refine hld_i ?_ | skip); try walk_at "st"))
local macro_rules | `(tactic| walk_at "sx") => `(tactic| ((try simp only [sp_is_integer, sp_lowest, sp_exact, sp_is_number, sp_is_corner, sp_is_index, sp_is_face, sp_Net_init, sp_scaled, sp_determinant, sp_steps, sp_edge_of, sp_surpluses, sp_open_edges, sp_is_closed, sp_volume, sp_law_draw, sp_law_of, sp_law_same, sp_law_low, sp_law_add, sp_law_sub, sp_law_mul, sp_law_hand, sp_law_number, sp_law_ring, sp_law_loft, sp_law_det, sp_law_volume, sp_law_bag, sp_as_number, sp_compare, sp_loft, sp_law_handed, sp_law_lt, sp_law_area, sp_law_spots, sp_law_heights, sp_law_right, sp_law_any]); try walk_at "st"))
local macro_rules | `(tactic| walk_at "s0") => `(tactic| simp (implicitDefEqProofs := false) only [start', List.map_cons, List.map_nil, List.length_cons, List.length_nil, Nat.zero_add, Nat.reduceAdd, Nat.reduceSub, List.replicate, List.cons_append, List.nil_append])
local macro_rules | `(tactic| walk_at "rr") => `(tactic| repeat (first | with_reducible refine hld_i ?_ | walk_at "st"))
local macro_rules | `(tactic| walk_at "rx") => `(tactic| repeat (first | with_reducible refine hld_i ?_ | walk_at "st" | simp only [sp_is_integer, sp_lowest, sp_exact, sp_is_number, sp_is_corner, sp_is_index, sp_is_face, sp_Net_init, sp_scaled, sp_determinant, sp_steps, sp_edge_of, sp_surpluses, sp_open_edges, sp_is_closed, sp_volume, sp_law_draw, sp_law_of, sp_law_same, sp_law_low, sp_law_add, sp_law_sub, sp_law_mul, sp_law_hand, sp_law_number, sp_law_ring, sp_law_loft, sp_law_det, sp_law_volume, sp_law_bag, sp_as_number, sp_compare, sp_loft, sp_law_handed, sp_law_lt, sp_law_area, sp_law_spots, sp_law_heights, sp_law_right, sp_law_any]))
local macro_rules | `(tactic| walk_at "dw") => `(tactic| (refine draw (by first | exact up_same | assumption) (by assumption) (by omega) (by omega) (by omega) ?_))

variable {K : PySem.W.Frag}
/-! numbers -/
theorem mk_num {n : Int} {d : Nat} (hd : d ≠ 0) : (mkRat n d).num = n / ((Nat.gcd n.natAbs d : Nat) : Int) := by
  rw [Rat.num_mkRat, if_neg hd, Nat.gcd_comm]
theorem mk_den {n : Int} {d : Nat} (hd : d ≠ 0) : (((mkRat n d).den : Nat) : Int) = (d : Int) / ((Nat.gcd n.natAbs d : Nat) : Int) := by
  rw [Rat.den_mkRat, if_neg hd, Nat.gcd_comm]
  simp
theorem numD_mk {n d : Int} (hd : 0 < d) : numD (mkRat n d.toNat) = .tup [.int (n / ((Nat.gcd n.natAbs d.natAbs : Nat) : Int)), .int (d / ((Nat.gcd n.natAbs d.natAbs : Nat) : Int))] := by
  obtain ⟨m, rfl⟩ : ∃ m : Nat, d = m := ⟨d.toNat, by omega⟩
  have hm : m ≠ 0 := by omega
  unfold numD
  rw [Int.toNat_natCast, Int.natAbs_natCast, mk_num hm, mk_den hm]
theorem gcd_div {n d : Int} (hd : 0 < d) (hb : d.natAbs < 2 ^ 8500) (x : Int) : CDivW x ((Nat.gcd n.natAbs d.natAbs : Nat) : Int) := by
  have g0 : 0 < n.natAbs.gcd d.natAbs := Nat.gcd_pos_of_pos_right _ (by omega)
  refine wide_div (b := 8500) (by omega) ?_ (by decide) (by decide)
  rw [Int.natAbs_natCast]
  exact Nat.lt_of_le_of_lt (Nat.gcd_le_right _ (by omega)) hb
theorem rd_is_integer : RD_is_integer K := by
  intro ds L Q E h
  unfold sp_is_integer at h
  split at h
  · rename_i d
    unfold t_is_integer
    walk_at "st"
    cases e : tyD d L with
    | none => rw [e] at h; exact h.elim
    | some n =>
      rw [e] at h
      walk_at "st"
      have h : Q (.bl (n == "int")) L := h
      by_cases c1 : n = "int"
      · subst c1; exact .mk h
      · by_cases c2 : n = "bool"
        · subst c2; exact .mk h
        · have e1 : (n == "int") = false := by simp [c1]
          have e2 : (n == "bool") = false := by simp [c2]
          simp only [e1, e2] at h ⊢
          exact .mk h
  · exact h.elim
theorem rd_lowest : RD_lowest K := by
  intro ds L Q E h
  unfold sp_lowest at h
  split at h
  · rename_i n d
    obtain ⟨hd, hb, q⟩ := h
    unfold t_lowest t_lowest_1
    walk_at "st"
    walk_at "go"
    rw [if_neg (by omega)]
    walk_at "rr"
    walk_at "go"
    rw [numD_mk hd] at q
    exact ⟨gcd_div hd hb _, gcd_div hd hb _, .mk q⟩
  · exact h.elim
theorem rd_exact : RD_exact K := by
  intro ds L Q E h
  have two : ∀ n e : Int, 0 < e → e.natAbs < 2 ^ 8500 → Q (numD (mkRat n e.toNat)) L → t_exact K { nx := fun _ L1 => Dn (Q .non) L1, rt := fun d L1 => Dn (Q d) L1 } (start' ["value", "n", "d", "found"] [.tup [.int n, .int e]]) L := by
    intro n e he hb q
    unfold t_exact t_exact_1 t_exact_2 t_exact_3
    walk_at "rx"
    have hne : ¬ e = 0 := by omega
    simp only [hne, decide_false, Bool.not_false]
    walk_at "rr"
    exact ⟨he, hb, .mk q⟩
  unfold sp_exact at h
  split at h
  · rename_i d
    rcases h with ⟨q, hq, hb, h⟩ | ⟨n, e, rfl, he, hb, h⟩
    · rcases hq with rfl | ⟨h1, rfl⟩
      · refine two _ _ (by have := q.den_pos; omega) (by simpa using hb) ?_
        rw [Int.toNat_natCast, Rat.mkRat_self]
        exact h
      · unfold t_exact t_exact_1 t_exact_2 t_exact_3
        walk_at "rx"
        unfold numD at h
        rw [h1] at h
        exact .mk h
    · exact two n e he hb h
  · exact h.elim
theorem rd_is_number : RD_is_number K := by
  intro ds L Q E h
  unfold sp_is_number at h
  split at h
  · rename_i d
    obtain ⟨q, hq, h⟩ := h
    rcases hq with rfl | ⟨h1, rfl⟩
    · unfold t_is_number t_is_number_1 t_is_number_2 t_is_number_3
      walk_at "rx"
      have h1 := q.reduced
      have h2 := q.den_pos
      simp only [Int.natAbs_natCast, Nat.Coprime] at h1 ⊢
      simp only [h1]
      rw [if_pos (by omega)]
      walk_at "rr"
      exact .mk h
    · unfold t_is_number t_is_number_1 t_is_number_2 t_is_number_3
      walk_at "rx"
      exact .mk h
  · exact h.elim

theorem hnd_num {L : Lp} {Q : VK'} {E : XK'} {q : Rat} {d : D} (h : Hnd q d) (k : Q (.bl true) L) : sp_is_number [d] L Q E := ⟨q, h, k⟩
theorem rd_is_corner : RD_is_corner K := by
  intro ds L Q E h
  unfold sp_is_corner at h
  split at h
  · rename_i d
    obtain ⟨c, ⟨d1, d2, d3, rfl, h1, h2, h3⟩, h⟩ := h
    unfold t_is_corner
    walk_at "s0"
    walk_at "st"
    refine lcF_f [(c.1, d1), (c.2.1, d2), (c.2.2, d3)] (fun z => z.2) (fun _ => .bl true) (by show 3 ≤ sizeLine; decide) (fun _ _ => trivial) (fun z Q' hm hq => ?_) ?_
    · walk_at "st"
      have hz : Hnd z.1 z.2 := by
        simp only [List.mem_cons, List.not_mem_nil, or_false] at hm
        rcases hm with rfl | rfl | rfl <;> assumption
      exact hnd_num hz hq
    · walk_at "st"
      exact ⟨[true, true, true], rfl, .mk h⟩
  · exact h.elim
theorem rd_is_index : RD_is_index K := by
  intro ds L Q E h
  unfold sp_is_index at h
  split at h
  · rename_i i m
    obtain ⟨⟨h1, h2⟩, h⟩ := h
    unfold t_is_index
    walk_at "st"
    rw [if_pos h1, decide_eq_true h2]
    walk_at "rr"
    exact .mk h
  · exact h.elim
theorem rd_edge_of : RD_edge_of K := by
  intro ds L Q E h
  unfold sp_edge_of at h
  split at h
  · rename_i p q
    unfold t_edge_of
    walk_at "st"
    by_cases c : p < q
    · simp only [edg, c, if_true] at h
      rw [if_pos c]
      walk_at "rr"
      exact .mk h
    · simp only [edg, c, if_false] at h
      rw [if_neg c]
      walk_at "rr"
      exact .mk h
  · exact h.elim
theorem rd_is_face : RD_is_face K := by
  intro ds L Q E h
  unfold sp_is_face at h
  split at h
  · rename_i d m
    obtain ⟨f, rfl, ⟨h1, h2, h3⟩, h⟩ := h
    unfold t_is_face
    walk_at "s0"
    walk_at "st"
    refine lcF_f [f.1, f.2.1, f.2.2] D.int (fun _ => .bl true) (by show 3 ≤ sizeLine; decide) (fun _ _ => trivial) (fun z Q' hm hq => ?_) ?_
    · walk_at "st"
      walk_at "sx"
      refine ⟨?_, hq⟩
      simp only [List.mem_cons, List.not_mem_nil, or_false] at hm
      rcases hm with rfl | rfl | rfl <;> assumption
    · walk_at "st"
      exact ⟨[true, true, true], rfl, .mk h⟩
  · exact h.elim
theorem filt_eq {α : Type} (p : α → Bool) (f : α → D) (l : List α) : l.filterMap (fun z => if p z = true then some (f z) else none) = (l.filter p).map f := by
  induction l with
  | nil => rfl
  | cons a l ih =>
    rw [List.filterMap_cons, List.filter_cons]
    by_cases c : p a = true
    · rw [if_pos c, if_pos c, List.map_cons, ih]
      walk_at "rr"
    · rw [if_neg c, if_neg c, ih]
      walk_at "rr"
theorem rd_steps : RD_steps K := by
  intro ds L Q E h
  unfold sp_steps at h
  split at h
  · rename_i d
    obtain ⟨f, rfl, h⟩ := h
    unfold t_steps
    walk_at "s0"
    walk_at "st"
    walk_at "go"
    refine lcF_m [(f.1, f.2.1), (f.2.1, f.2.2), (f.2.2, f.1)] prD (fun p => if decide (p.1 ≠ p.2) = true then some (prD p) else none) (by show 3 ≤ sizeLine; decide) (fun _ _ => trivial) (fun z Q' R' hm hq hn => ?_) ?_
    · walk_at "st"
      by_cases c : z.1 = z.2
      · rw [if_neg (by simp [c])]
        walk_at "rr"
        exact hn (by simp [c])
      · rw [if_pos (by simp [c])]
        walk_at "rr"
        exact hq _ (by simp [c])
    · rw [filt_eq]
      exact .mk h
  · exact h.elim
/-- few bits -/
theorem mulok {i j : Int} {a b : Nat} (ha : i.natAbs < 2 ^ a) (hb : j.natAbs < 2 ^ b) (h : a + b ≤ 900000) : CMulW i j :=
  wide_mul (a := a + 1) (b := b + 1) (Nat.lt_of_lt_of_le ha (Nat.pow_le_pow_right (by decide) (by omega))) (Nat.lt_of_lt_of_le hb (Nat.pow_le_pow_right (by decide) (by omega))) (by omega) (by omega) (by omega)
theorem lt_mul2 {i j : Int} {a b : Nat} (ha : i.natAbs < 2 ^ a) (hb : j.natAbs < 2 ^ b) : (i * j).natAbs < 2 ^ (a + b) := by
  rw [Int.natAbs_mul, Nat.pow_add]
  exact Nat.mul_lt_mul'' ha hb
theorem lt_add2 {i j : Int} {a : Nat} (ha : i.natAbs < 2 ^ a) (hb : j.natAbs < 2 ^ a) : (i + j).natAbs < 2 ^ (a + 1) := by
  rw [Nat.pow_succ]; omega
theorem lt_sub2 {i j : Int} {a : Nat} (ha : i.natAbs < 2 ^ a) (hb : j.natAbs < 2 ^ a) : (i - j).natAbs < 2 ^ (a + 1) := by
  rw [Nat.pow_succ]; omega
theorem rd_determinant : RD_determinant K := by
  intro ds L Q E h
  unfold sp_determinant at h
  split at h
  · rename_i a b c d e f g hh k
    obtain ⟨hb, h⟩ := h
    simp only [List.mem_cons, List.not_mem_nil, or_false, forall_eq_or_imp, forall_eq] at hb
    obtain ⟨ha, hb, hc, hd, he, hf, hg, hi, hk⟩ := hb
    unfold t_determinant
    walk_at "st"
    walk_at "go"
    walk_at "go"
    walk_at "go"
    refine ⟨mulok he hk (by decide), mulok hf hi (by decide), mulok ha (lt_sub2 (lt_mul2 he hk) (lt_mul2 hf hi)) (by decide), mulok hd hk (by decide), mulok hf hg (by decide), mulok hb (lt_sub2 (lt_mul2 hd hk) (lt_mul2 hf hg)) (by decide), mulok hd hi (by decide), mulok he hg (by decide), mulok hc (lt_sub2 (lt_mul2 hd hi) (lt_mul2 he hg)) (by decide), .mk h⟩
  · exact h.elim
end Hd

open PySem PySem.Spec PyProof.Rows L2 Z
namespace Hd
local macro_rules | `(tactic| walk_at "st") => `(tactic| simp (implicitDefEqProofs := false) only [↓seqD_up, ↓seqL_up, ↓len_ilst, ↓len_up, ↓truD_ilst, up_up, List.length_map, ↓wFor_m, ↓frzK_up, ↓frzK_upi, ↓wFz_e, ↓wFg_e, ↓wLstF_e, ↓addF_int, ↓addF_l, ↓addF_tup, ↓addF_str, ↓mulF_int, ↓mulF_l, ↓wSlF_e, ↓slF_tup, ↓slF_str, ↓slF_l, ↓slF_scr, ↓slF_ref, ↓listF_eq, ↓listdF_eq, ↓sortedF_eq, ↓allF_eq, ↓sumF_eq, ↓extF_eq, ↓vEnumF_e, ↓enF_l, ↓fldF_obj, ↓fldF_ref, ↓wFldF_e, ↓wLcF_e, ↓pName_e, ↓pNil_e, ↓pCons_e, ↓pTup_e, ↓gK_some, ↓obind_e, ↓seqL_ilst, ↓addM_eq, ↓sq2_some, ↓wVar_0, ↓wVar_s, ↓hNil_e, ↓hCons_e, ↓wDget_e, ↓wDget2_e, ↓wDput_m, ↓wSortIt_e, ↓wMake_e, ↓wIfS_m, ↓wSeq_m, ↓wAsg_m, ↓hName_e, ↓wC_e, ↓wNil_e, ↓wCons_e, ↓wTup_e, ↓wLst_e, ↓wOp_e, ↓wUn_e, ↓wIf_e, ↓wAndV_e, ↓wOrV_e, ↓wNotV_e, ↓wB_e, ↓wAnd_e, ↓wOr_e, ↓zNot_e, ↓zTru_e, ↓hCons_e, ↓hTup_e, ↓hSub_e, ↓wNext_m, ↓wDrop_m, ↓wRet_m, ↓wRetN_m, ↓wPar_m, ↓wCB_e, ↓wCall_e, ↓wIxk_e, ↓wSl_e, ↓wNoPart_e, ↓wPart_e, ↓wBM_e, ↓wBM0_e, ↓wChain_e, ↓wNever_e, ↓vSeq_e, ↓vEnum_e, ↓vRng1_e, ↓vRng2_e, vZip, ↓blK_bl, ↓tupK_tup, ↓pairK_2, ↓inK_int, ↓truD_bl, ↓truD_int, ↓truD_non, ↓truD_tup, ↓isn_non, ↓isn_int, ↓isn_bl, ↓isn_str, ↓isn_tup, ↓isn_ref, ↓Z.add_int, ↓add_tup, ↓add_ref, ↓intD_eq, ↓intD0_eq, ↓Z.mul_int, ↓Z.eq_int, ↓Z.ne_int, ↓Z.eq_bl, ↓ne_bl, ↓Z.eq_str, ↓Z.ne_str, ↓eq_non, ↓eq_tup, ↓eq_ref, ↓Z.neg_int, ↓seq_tup, ↓seq_ilst, ↓Z.ix_tup, ↓ix_int, ↓sqK_some, ↓ixK_0, ↓ixK_s, ↓tyK_some, ↓ty_non, ↓ty_bl, ↓ty_int, ↓ty_str, ↓ty_tup, ↓ty_ilst, ↓isi_eq, ↓isi2_eq, isiW, ↓len_tup, ↓intc_int, ↓abs_int, ↓gcd_int, ↓list_seq, ↓tuple_seq, ↓all_ref, ↓sum_ref, ↓Z.sl_tup, ↓sl_ilst, ↓sl_ref, ↓walk_tup, ↓walk_ilst, ↓walk_ref, ↓en_ref, start', List.map_cons, List.map_nil, List.cons_append, List.nil_append, List.append_nil, List.length_cons, List.length_nil, List.replicate, List.set_cons_zero, List.set_cons_succ, List.set_nil, List.getElem?_cons_zero, List.getElem?_cons_succ, wipeD, Nat.zero_add, Nat.reduceAdd, Nat.reduceSub, Nat.sub_self, Nat.sub_zero, true_and, and_true, if_true, if_false, Bool.not_true, Bool.not_false, ite_true, ite_false, Bool.false_eq_true, decide_true, decide_false, decide_eq_true_eq, Int.cast_ofNat_Int, reduceIte, Bool.not_eq_true', decide_eq_false_iff_not, Bool.and_true, Bool.true_and, Bool.and_false, Bool.false_and, Bool.or_true, Bool.true_or, Bool.or_false, Bool.false_or, beq_self_eq_true, bne_self_eq_false, not_true_eq_false, not_false_eq_true, String.reduceBEq, String.reduceBNe, Int.reduceToNat, Bool.true_eq_false, reduceCtorEq, Int.reduceEq, Int.reduceLT, Int.reduceLE, gt_iff_lt, ge_iff_le, ↓wBreak_m, ↓wCont_m, ↓wPar3_m, trioK_3, ↓wFldS_m, ↓wFld_e, ↓wChain_e, ↓wLam_e, ↓wIsE_e, ↓wRaise0_e, ↓wCallX_e, ↓wCallKX_e, ↓wYes_e, ↓wCallK_e, isDct_eq, dkK_eq, ↓wDnewT_e])
local macro_rules | `(tactic| walk_at "go") => `(tactic| ((first | with_reducible refine hld_i ?_ | skip); try walk_at "st"))
local macro_rules | `(tactic| walk_at "sx") => `(tactic| ((try simp only [sp_is_integer, sp_lowest, sp_exact, sp_is_number, sp_is_corner, sp_is_index, sp_is_face, sp_Net_init, sp_scaled, sp_determinant, sp_steps, sp_edge_of, sp_surpluses, sp_open_edges, sp_is_closed, sp_volume, sp_law_draw, sp_law_of, sp_law_same, sp_law_low, sp_law_add, sp_law_sub, sp_law_mul, sp_law_hand, sp_law_number, sp_law_ring, sp_law_loft, sp_law_det, sp_law_volume, sp_law_bag, sp_as_number, sp_compare, sp_loft, sp_law_handed, sp_law_lt, sp_law_area, sp_law_spots, sp_law_heights, sp_law_right, sp_law_any]); try walk_at "st"))
local macro_rules | `(tactic| walk_at "s0") => `(tactic| simp (implicitDefEqProofs := false) only [start', List.map_cons, List.map_nil, List.length_cons, List.length_nil, Nat.zero_add, Nat.reduceAdd, Nat.reduceSub, List.replicate, List.cons_append, List.nil_append])
local macro_rules | `(tactic| walk_at "rr") => `(tactic| repeat (first | with_reducible refine hld_i ?_ | walk_at "st"))
local macro_rules | `(tactic| walk_at "rx") => `(tactic| repeat (first | with_reducible refine hld_i ?_ | walk_at "st" | simp only [sp_is_integer, sp_lowest, sp_exact, sp_is_number, sp_is_corner, sp_is_index, sp_is_face, sp_Net_init, sp_scaled, sp_determinant, sp_steps, sp_edge_of, sp_surpluses, sp_open_edges, sp_is_closed, sp_volume, sp_law_draw, sp_law_of, sp_law_same, sp_law_low, sp_law_add, sp_law_sub, sp_law_mul, sp_law_hand, sp_law_number, sp_law_ring, sp_law_loft, sp_law_det, sp_law_volume, sp_law_bag, sp_as_number, sp_compare, sp_loft, sp_law_handed, sp_law_lt, sp_law_area, sp_law_spots, sp_law_heights, sp_law_right, sp_law_any]))
local macro_rules | `(tactic| walk_at "dw") => `(tactic| (refine draw (by first | exact up_same | assumption) (by assumption) (by omega) (by omega) (by omega) ?_))

variable {K : PySem.W.Frag}
theorem rd_law_low : RD_law_low K := by
  intro ds L Q E h
  unfold sp_law_low at h
  split at h
  · rename_i n d
    obtain ⟨hd, hb, q⟩ := h
    unfold t_law_low t_law_low_1 t_law_low_2 t_law_low_3
    walk_at "st"
    rw [if_neg (by omega)]
    walk_at "rr"
    walk_at "go"
    walk_at "go"
    refine ⟨fun m τ' L' => ∃ (hi re : Nat), τ' = [some (.int n), some (.int d), some (.int hi), some (.int re)] ∧ L' = L ∧ m = re ∧ Nat.gcd hi re = Nat.gcd n.natAbs d.natAbs, ⟨d.natAbs, n.natAbs, d.natAbs, ?_, rfl, rfl, rfl⟩, ?_⟩
    · simp only [List.cons.injEq, Option.some.injEq, D.int.injEq, and_true, true_and]
      constructor <;> (try split) <;> omega
    · rintro m τ' L' ⟨hi, re, rfl, rfl, rfl, hg⟩
      walk_at "st"
      by_cases c : (0 : Int) < (m : Int)
      · rw [if_pos c]
        walk_at "rr"
        refine ⟨c, .mk ⟨hi % m, Nat.mod_lt _ (by omega), m, hi % m, ?_, rfl, rfl, ?_⟩⟩
        · simp
        · rw [← hg, Nat.gcd_comm hi m, Nat.gcd_rec m hi, Nat.gcd_comm]
      · rw [if_neg c]
        walk_at "rr"
        have c0 : m = 0 := by omega
        subst c0
        rw [Nat.gcd_zero_right] at hg
        walk_at "go"
        rw [numD_mk hd] at q
        rw [hg]
        exact ⟨gcd_div hd hb _, gcd_div hd hb _, .mk q⟩
  · exact h.elim
theorem nca {n k : Nat} (h : n < 2 ^ k) : ((n : Int)).natAbs < 2 ^ k := by rw [Int.natAbs_natCast]; exact h
theorem sm_mul {p q : Rat} (hp : Sm p) (hq : Sm q) : CMulW p.num q.num ∧ CMulW (p.den : Int) (q.den : Int) ∧ CMulW p.num (q.den : Int) ∧ CMulW q.num (p.den : Int) :=
  ⟨mulok hp.1 hq.1 (by decide), mulok (nca hp.2) (nca hq.2) (by decide), mulok hp.1 (nca hq.2) (by decide), mulok hq.1 (nca hp.2) (by decide)⟩
theorem den_mul {p q : Rat} (hp : Sm p) (hq : Sm q) : (0 : Int) < (p.den : Int) * (q.den : Int) ∧ ((p.den : Int) * (q.den : Int)).natAbs < 2 ^ 8500 := by
  have h1 := p.den_pos
  have h2 := q.den_pos
  refine ⟨Int.mul_pos (by omega) (by omega), ?_⟩
  refine Nat.lt_of_lt_of_le (lt_mul2 (a := 4000) (b := 4000) (nca hp.2) (nca hq.2)) (Nat.pow_le_pow_right (by decide) (by decide))
theorem rd_law_add : RD_law_add K := by
  intro ds L Q E h
  unfold sp_law_add at h
  split at h
  · rename_i d e
    obtain ⟨p, q, rfl, rfl, hp, hq, h⟩ := h
    have e1 : (p + q) = mkRat (p.num * (q.den : Int) + q.num * (p.den : Int)) (p.den * q.den) := Rat.add_def' p q
    have low : sp_law_low [.int (p.num * (q.den : Int) + q.num * (p.den : Int)), .int ((p.den : Int) * (q.den : Int))] L (Dn ∘ fun d => Q d) X0 := by
      have hh := den_mul hp hq
      refine ⟨hh.1, hh.2, .mk ?_⟩
      rw [show ((p.den : Int) * (q.den : Int)).toNat = p.den * q.den by rw [← Int.natCast_mul, Int.toNat_natCast], ← e1]
      exact h
    obtain ⟨m1, m2, m3, m4⟩ := sm_mul hp hq
    unfold t_law_add t_law_add_1
    walk_at "st"
    by_cases c1 : p.den = 1
    · by_cases c2 : q.den = 1
      · rw [if_pos (by omega), if_pos (by omega)]
        walk_at "rr"
        have e2 : numD (p + q) = .tup [.int (p.num + q.num), .int 1] := by
          rw [e1, c1, c2]
          have := numD_mk (n := p.num * ((1 : Nat) : Int) + q.num * ((1 : Nat) : Int)) (d := 1) (by decide)
          simpa using this
        walk_at "rr"
        rw [← e2]
        exact .mk h
      · rw [if_pos (by omega), if_neg (by omega)]
        walk_at "rr"
        exact ⟨m3, m4, m2, low⟩
    · rw [if_neg (by omega)]
      walk_at "rr"
      exact ⟨m3, m4, m2, low⟩
  · exact h.elim
theorem numD_neg (q : Rat) : (D.tup [.int (-q.num), .int (q.den : Int)]) = numD (-q) := rfl
theorem sm_neg {q : Rat} (h : Sm q) : Sm (-q) := ⟨by rw [Rat.neg_num, Int.natAbs_neg]; exact h.1, h.2⟩
theorem rd_law_sub : RD_law_sub K := by
  intro ds L Q E h
  unfold sp_law_sub at h
  split at h
  · rename_i d e
    obtain ⟨p, q, rfl, rfl, hp, hq, h⟩ := h
    unfold t_law_sub
    walk_at "st"
    refine ⟨p, -q, rfl, rfl, hp, sm_neg hq, .mk ?_⟩
    rw [← Rat.sub_eq_add_neg]
    exact h
  · exact h.elim
theorem rd_law_mul : RD_law_mul K := by
  intro ds L Q E h
  unfold sp_law_mul at h
  split at h
  · rename_i d e
    obtain ⟨p, q, rfl, rfl, hp, hq, h⟩ := h
    have e1 : (p * q) = mkRat (p.num * q.num) (p.den * q.den) := Rat.mul_def' p q
    obtain ⟨m1, m2, m3, m4⟩ := sm_mul hp hq
    have low : sp_law_low [.int (p.num * q.num), .int ((p.den : Int) * (q.den : Int))] L (Dn ∘ fun d => Q d) X0 := by
      have hh := den_mul hp hq
      refine ⟨hh.1, hh.2, .mk ?_⟩
      rw [show ((p.den : Int) * (q.den : Int)).toNat = p.den * q.den by rw [← Int.natCast_mul, Int.toNat_natCast], ← e1]
      exact h
    unfold t_law_mul t_law_mul_1
    walk_at "st"
    by_cases c1 : p.den = 1
    · by_cases c2 : q.den = 1
      · rw [if_pos (by omega), if_pos (by omega)]
        walk_at "rr"
        have e2 : numD (p * q) = .tup [.int (p.num * q.num), .int 1] := by
          rw [e1, c1, c2]
          have := numD_mk (n := p.num * q.num) (d := 1) (by decide)
          simpa using this
        walk_at "rr"
        refine ⟨m1, ?_⟩
        walk_at "rr"
        rw [← e2]
        exact .mk h
      · rw [if_pos (by omega), if_neg (by omega)]
        walk_at "rr"
        exact ⟨m1, m2, low⟩
    · rw [if_neg (by omega)]
      walk_at "rr"
      exact ⟨m1, m2, low⟩
  · exact h.elim
end Hd

open PySem PySem.Spec PyProof.Rows L2 Z
namespace Hd
local macro_rules | `(tactic| walk_at "st") => `(tactic| simp (implicitDefEqProofs := false) only [↓seqD_up, ↓seqL_up, ↓len_ilst, ↓len_up, ↓truD_ilst, up_up, List.length_map, ↓wFor_m, ↓frzK_up, ↓frzK_upi, ↓wFz_e, ↓wFg_e, ↓wLstF_e, ↓addF_int, ↓addF_l, ↓addF_tup, ↓addF_str, ↓mulF_int, ↓mulF_l, ↓wSlF_e, ↓slF_tup, ↓slF_str, ↓slF_l, ↓slF_scr, ↓slF_ref, ↓listF_eq, ↓listdF_eq, ↓sortedF_eq, ↓allF_eq, ↓sumF_eq, ↓extF_eq, ↓vEnumF_e, ↓enF_l, ↓fldF_obj, ↓fldF_ref, ↓wFldF_e, ↓wLcF_e, ↓pName_e, ↓pNil_e, ↓pCons_e, ↓pTup_e, ↓gK_some, ↓obind_e, ↓seqL_ilst, ↓addM_eq, ↓sq2_some, ↓wVar_0, ↓wVar_s, ↓hNil_e, ↓hCons_e, ↓wDget_e, ↓wDget2_e, ↓wDput_m, ↓wSortIt_e, ↓wMake_e, ↓wIfS_m, ↓wSeq_m, ↓wAsg_m, ↓hName_e, ↓wC_e, ↓wNil_e, ↓wCons_e, ↓wTup_e, ↓wLst_e, ↓wOp_e, ↓wUn_e, ↓wIf_e, ↓wAndV_e, ↓wOrV_e, ↓wNotV_e, ↓wB_e, ↓wAnd_e, ↓wOr_e, ↓zNot_e, ↓zTru_e, ↓hCons_e, ↓hTup_e, ↓hSub_e, ↓wNext_m, ↓wDrop_m, ↓wRet_m, ↓wRetN_m, ↓wPar_m, ↓wCB_e, ↓wCall_e, ↓wIxk_e, ↓wSl_e, ↓wNoPart_e, ↓wPart_e, ↓wBM_e, ↓wBM0_e, ↓wChain_e, ↓wNever_e, ↓vSeq_e, ↓vEnum_e, ↓vRng1_e, ↓vRng2_e, vZip, ↓blK_bl, ↓tupK_tup, ↓pairK_2, ↓inK_int, ↓truD_bl, ↓truD_int, ↓truD_non, ↓truD_tup, ↓isn_non, ↓isn_int, ↓isn_bl, ↓isn_str, ↓isn_tup, ↓isn_ref, ↓Z.add_int, ↓add_tup, ↓add_ref, ↓intD_eq, ↓intD0_eq, ↓Z.mul_int, ↓Z.eq_int, ↓Z.ne_int, ↓Z.eq_bl, ↓ne_bl, ↓Z.eq_str, ↓Z.ne_str, ↓eq_non, ↓eq_tup, ↓eq_ref, ↓Z.neg_int, ↓seq_tup, ↓seq_ilst, ↓Z.ix_tup, ↓ix_int, ↓sqK_some, ↓ixK_0, ↓ixK_s, ↓tyK_some, ↓ty_non, ↓ty_bl, ↓ty_int, ↓ty_str, ↓ty_tup, ↓ty_ilst, ↓isi_eq, ↓isi2_eq, isiW, ↓len_tup, ↓intc_int, ↓abs_int, ↓gcd_int, ↓list_seq, ↓tuple_seq, ↓all_ref, ↓sum_ref, ↓Z.sl_tup, ↓sl_ilst, ↓sl_ref, ↓walk_tup, ↓walk_ilst, ↓walk_ref, ↓en_ref, start', List.map_cons, List.map_nil, List.cons_append, List.nil_append, List.append_nil, List.length_cons, List.length_nil, List.replicate, List.set_cons_zero, List.set_cons_succ, List.set_nil, List.getElem?_cons_zero, List.getElem?_cons_succ, wipeD, Nat.zero_add, Nat.reduceAdd, Nat.reduceSub, Nat.sub_self, Nat.sub_zero, true_and, and_true, if_true, if_false, Bool.not_true, Bool.not_false, ite_true, ite_false, Bool.false_eq_true, decide_true, decide_false, decide_eq_true_eq, Int.cast_ofNat_Int, reduceIte, Bool.not_eq_true', decide_eq_false_iff_not, Bool.and_true, Bool.true_and, Bool.and_false, Bool.false_and, Bool.or_true, Bool.true_or, Bool.or_false, Bool.false_or, beq_self_eq_true, bne_self_eq_false, not_true_eq_false, not_false_eq_true, String.reduceBEq, String.reduceBNe, Int.reduceToNat, Bool.true_eq_false, reduceCtorEq, Int.reduceEq, Int.reduceLT, Int.reduceLE, gt_iff_lt, ge_iff_le, ↓wBreak_m, ↓wCont_m, ↓wPar3_m, trioK_3, ↓wFldS_m, ↓wFld_e, ↓wChain_e, ↓wLam_e, ↓wIsE_e, ↓wRaise0_e, ↓wCallX_e, ↓wCallKX_e, ↓wYes_e, ↓wCallK_e, isDct_eq, dkK_eq, ↓wDnewT_e])
local macro_rules | `(tactic| walk_at "go") => `(tactic| ((first | with_reducible refine hld_i ?_ | skip); try walk_at "st"))
local macro_rules | `(tactic| walk_at "sx") => `(tactic| ((try simp only [sp_is_integer, sp_lowest, sp_exact, sp_is_number, sp_is_corner, sp_is_index, sp_is_face, sp_Net_init, sp_scaled, sp_determinant, sp_steps, sp_edge_of, sp_surpluses, sp_open_edges, sp_is_closed, sp_volume, sp_law_draw, sp_law_of, sp_law_same, sp_law_low, sp_law_add, sp_law_sub, sp_law_mul, sp_law_hand, sp_law_number, sp_law_ring, sp_law_loft, sp_law_det, sp_law_volume, sp_law_bag, sp_as_number, sp_compare, sp_loft, sp_law_handed, sp_law_lt, sp_law_area, sp_law_spots, sp_law_heights, sp_law_right, sp_law_any]); try walk_at "st"))
local macro_rules | `(tactic| walk_at "s0") => `(tactic| simp (implicitDefEqProofs := false) only [start', List.map_cons, List.map_nil, List.length_cons, List.length_nil, Nat.zero_add, Nat.reduceAdd, Nat.reduceSub, List.replicate, List.cons_append, List.nil_append])
local macro_rules | `(tactic| walk_at "rr") => `(tactic| repeat (first | with_reducible refine hld_i ?_ | walk_at "st"))
local macro_rules | `(tactic| walk_at "rx") => `(tactic| repeat (first | with_reducible refine hld_i ?_ | walk_at "st" | simp only [sp_is_integer, sp_lowest, sp_exact, sp_is_number, sp_is_corner, sp_is_index, sp_is_face, sp_Net_init, sp_scaled, sp_determinant, sp_steps, sp_edge_of, sp_surpluses, sp_open_edges, sp_is_closed, sp_volume, sp_law_draw, sp_law_of, sp_law_same, sp_law_low, sp_law_add, sp_law_sub, sp_law_mul, sp_law_hand, sp_law_number, sp_law_ring, sp_law_loft, sp_law_det, sp_law_volume, sp_law_bag, sp_as_number, sp_compare, sp_loft, sp_law_handed, sp_law_lt, sp_law_area, sp_law_spots, sp_law_heights, sp_law_right, sp_law_any]))
local macro_rules | `(tactic| walk_at "dw") => `(tactic| (refine draw (by first | exact up_same | assumption) (by assumption) (by omega) (by omega) (by omega) ?_))

variable {K : PySem.W.Frag}
theorem cut_to {α : List D} (k : Nat) : Z.cutD α none (some (k : Int)) = α.take k := by
  unfold Z.cutD
  rw [HT.sIx_none, HT.sIx_nat, List.drop_zero, Nat.sub_zero, ← List.take_eq_take_min]
theorem cut_from {α : List D} (k : Nat) : Z.cutD α (some (k : Int)) none = α.drop k := by
  unfold Z.cutD
  rw [HT.sIx_none, HT.sIx_nat]
  rcases Nat.le_total k α.length with h | h
  · rw [Nat.min_eq_left h, List.take_of_length_le (by simp)]
  · rw [Nat.min_eq_right h, List.drop_length, List.drop_eq_nil_of_le h, List.take_nil]

theorem rd_law_bag : RD_law_bag K := by
  intro ds L Q E h
  unfold sp_law_bag at h
  split at h
  · obtain ⟨ns, hd, h⟩ := h
    unfold t_law_bag
    have ec : Z.cutD (ns.map D.int) none (some 63) = (ns.take 63).map D.int := by
      rw [show (63 : Int) = ((63 : Nat) : Int) from rfl, cut_to, List.map_take]
    rcases hd with rfl | rfl | ⟨a0, rfl, ha⟩
    all_goals
      walk_at "s0"
      walk_at "rr"
      try (rw [seqL_ref ha, sqK_some]; walk_at "rr")
      rw [ec]
      refine for_t (ns.take 63) D.int (fun i τ' L' => (∃ d0 m x, (d0 = D.ilst (ns.map D.int) ∨ d0 = .scr ns ∨ ∃ a, d0 = .ref a ∧ L a = some (.lst (ns.map D.int))) ∧ τ' = [some d0, some (.int m), x] ∧ 0 ≤ m ∧ m < 2 ^ 64) ∧ L' = L) ⟨⟨_, _, _, by first | exact .inl rfl | exact .inr (.inl rfl) | exact .inr (.inr ⟨_, rfl, ha⟩), rfl, by decide, by decide⟩, rfl⟩ (fun _ _ _ _ _ => trivial) ?_ ?_
      · rintro i j τ' L' hx ⟨⟨d0, m, y, hd, rfl, h0, h1⟩, rfl⟩
        unfold t_law_bag_1
        walk_at "rr"
        have e1 := Int.emod_lt_of_pos j (b := 18446744073709551557) (by decide)
        have e2 := Int.emod_nonneg j (b := 18446744073709551557) (by decide)
        refine ⟨CPowW.of ?_ (by decide) (by decide), .mk ⟨⟨_, _, _, hd, rfl, Int.emod_nonneg _ (by decide), ?_⟩, rfl⟩⟩
        · have : (m + j % 18446744073709551557 + 389).natAbs < 2 ^ 66 := by omega
          exact Nat.lt_of_lt_of_le this (Nat.pow_le_pow_right (by decide) (by decide))
        · exact Int.lt_of_lt_of_le (Int.emod_lt_of_pos _ (by decide)) (by decide)
      · rintro τ' L' ⟨⟨d0, m, y, hd, rfl, h0, h1⟩, rfl⟩
        walk_at "rr"
        unfold t_law_bag_2
        rcases hd with rfl | rfl | ⟨a0, rfl, ha⟩
        all_goals
          walk_at "rr"
          try (rw [seqL_ref ha, sqK_some]; walk_at "rr")
          rw [ec]
          intro p np
          exact .mk (h p _ np ⟨ns.take 63, 0, 0, m, 0, rfl, by rw [List.length_take]; omega, by decide, by decide, h0, h1, by decide, by decide⟩)
  · exact h.elim
theorem isbag_mk {T : Nat} {ns : List Int} {i r m t : Int} (h : ns.length < 64) (i0 : 0 ≤ i) (r0 : 0 ≤ r) (m0 : 0 ≤ m) (m1 : m < 2 ^ 64) (t0 : 0 ≤ t) (t1 : t ≤ T) : IsBag T (bagO ns i r m t) := ⟨ns, i, r, m, t, rfl, h, i0, r0, m0, m1, t0, t1⟩
theorem draw_tail {b : Addr} {ns : List Int} {T : Nat} {many i r m t : Int} {L : Lp} {Q : VK'} {x y : Option D} (h63 : ns.length < 64) (i0 : 0 ≤ i) (r0 : 0 ≤ r) (m0 : 0 ≤ m) (m1 : m < 2 ^ 64) (t0 : 0 ≤ t) (t1 : t ≤ T + 1) (hT : T < 1099511627776) (hm0 : 0 < many) (hm1 : many < 2 ^ 60)
    (h : ∀ (n : Nat) o', (n : Int) < many → IsBag (T + 1) o' → Q (.int n) (up L b o')) : t_law_draw_1 K { nx := fun x L1 => Dn (Q D.non) L1, rt := fun d L1 => Dn (Q d) L1 } [some (.ref b), some (.int many), x, y] (up L b (bagO ns i r m t)) := by
  have fin : ∀ k : Int, 0 ≤ k → k < many → ∀ o, IsBag (T + 1) o → Dn (Q (.int k)) (up L b o) := fun k k0 k1 o hB => by
    obtain ⟨n, rfl⟩ : ∃ n : Nat, k = n := ⟨k.toNat, by omega⟩
    exact .mk (h n o k1 hB)
  have sb : ∀ o : List D, seqD (.ref b) (up L b (.lst o)) = some o := fun o => seq_ref up_same
  unfold t_law_draw_1 t_law_draw_2
  walk_at "rr"
  by_cases c1 : 0 < r
  · rw [if_pos c1]
    walk_at "rr"
    refine ⟨hm0, ?_⟩
    walk_at "rr"
    refine ⟨wide_div (b := 60) hm0 (by omega) (by decide) (by decide), set_at up_same rfl ?_⟩
    try rw [up_up]
    walk_at "rr"
    exact fin _ (Int.emod_nonneg _ (by omega)) (Int.emod_lt_of_pos _ hm0) _ (isbag_mk h63 i0 (Int.ediv_nonneg r0 (by omega)) m0 m1 t0 (by omega))
  · rw [if_neg c1]
    walk_at "rr"
    have b1 : (m + t * 1000003 + 31).natAbs < 2 ^ 66 := by omega
    refine ⟨mulok (a := 60) (b := 60) (by omega) (by decide) (by decide), ?_⟩
    walk_at "rr"
    refine ⟨CPowW.of (Nat.lt_of_lt_of_le b1 (Nat.pow_le_pow_right (by decide) (by decide))) (by decide) (by decide), ?_⟩
    walk_at "rr"
    refine set_at up_same rfl ?_
    try rw [up_up]
    walk_at "rr"
    have e1 := Int.emod_lt_of_pos ((m + t * 1000003 + 31) ^ 3) (b := 18446744073709551557) (by decide)
    have e2 := Int.emod_nonneg ((m + t * 1000003 + 31) ^ 3) (b := 18446744073709551557) (by decide)
    refine ⟨wide_div (b := 60) (by decide) (by decide) (by decide) (by decide), ?_⟩
    walk_at "rr"
    exact ⟨hm0, fin _ (Int.emod_nonneg _ (by omega)) (Int.emod_lt_of_pos _ hm0) _ (isbag_mk h63 i0 r0 e2 (by omega) t0 (by omega))⟩
theorem rd_law_draw : RD_law_draw K := by
  intro ds L Q E h
  unfold sp_law_draw at h
  split at h
  · rename_i b many
    obtain ⟨o, T, hb, ⟨ns, i, r, m, t, rfl, h63, i0, r0, m0, m1, t0, t1⟩, hT, hm0, hm1, h⟩ := h
    have sb : ∀ o : List D, seqD (.ref b) (up L b (.lst o)) = some o := fun o => seq_ref up_same
    unfold t_law_draw
    walk_at "s0"
    walk_at "rr"
    simp only [seq_ref hb]
    walk_at "rr"
    refine set_at hb rfl ?_
    have done : ∀ x y (i r m : Int), 0 ≤ i → 0 ≤ r → 0 ≤ m → m < 2 ^ 64 → t_law_draw_1 K { nx := fun x L1 => Dn (Q D.non) L1, rt := fun d L1 => Dn (Q d) L1 } [some (.ref b), some (.int many), x, y] (up L b (bagO ns i r m (t + 1))) := fun x y i r m i0 r0 m0 m1 =>
      draw_tail h63 i0 r0 m0 m1 (by omega) (by omega) hT hm0 hm1 h
    walk_at "rr"
    by_cases cr : r = 0
    · rw [if_pos cr]
      walk_at "rr"
      by_cases ci : i < (ns.length : Int)
      · rw [if_pos ci]
        walk_at "rr"
        obtain ⟨j, rfl⟩ : ∃ j : Nat, i = j := ⟨i.toNat, by omega⟩
        have hj : j < ns.length := by omega
        walk_at "rr"
        refine atK_at (x := .int (ns[j]'hj)) ?_ ?_
        · unfold atI
          rw [show ixN (List.map D.int ns).length (j : Int) = some j by unfold ixN; simp; omega]
          simp [hj]
        · walk_at "rr"
          refine set_at up_same rfl ?_
          try rw [up_up]
          walk_at "rr"
          refine ⟨CPowW.of (by decide) (by decide) (by decide), ?_⟩
          walk_at "rr"
          by_cases cg : 10 ^ 18 ≤ ns[j]
          · rw [if_pos cg]
            walk_at "rr"
            refine set_at up_same rfl ?_
            try rw [up_up]
            walk_at "rr"
            exact done _ _ (j + 1) ns[j] m (by omega) (by omega) m0 m1
          · rw [if_neg cg]
            walk_at "rr"
            have e1 := Int.emod_lt_of_pos ns[j] (b := 18446744073709551557) (by decide)
            have e2 := Int.emod_nonneg ns[j] (b := 18446744073709551557) (by decide)
            have b1 : (m + ns[j] % 18446744073709551557 * 11 + 41).natAbs < 2 ^ 70 := by omega
            have b2 : (ns[j] % 18446744073709551557).natAbs < 2 ^ 66 := by omega
            refine ⟨mulok (a := 66) (b := 66) b2 (by decide) (by decide), ?_⟩
            walk_at "rr"
            refine ⟨CPowW.of (Nat.lt_of_lt_of_le b1 (Nat.pow_le_pow_right (by decide) (by decide))) (by decide) (by decide), ?_⟩
            walk_at "rr"
            refine set_at up_same rfl ?_
            try rw [up_up]
            have e3 := Int.emod_lt_of_pos ((m + ns[j] % 18446744073709551557 * 11 + 41) ^ 3) (b := 18446744073709551557) (by decide)
            have e4 := Int.emod_nonneg ((m + ns[j] % 18446744073709551557 * 11 + 41) ^ 3) (b := 18446744073709551557) (by decide)
            walk_at "rr"
            exact done _ _ (j + 1) r _ (by omega) r0 e4 (by omega)
      · rw [if_neg ci]
        walk_at "rr"
        exact done _ _ i r m i0 r0 m0 m1
    · rw [if_neg cr]
      walk_at "rr"
      exact done _ _ i r m i0 r0 m0 m1
  · exact h.elim
end Hd

open PySem PySem.Spec PyProof.Rows L2 Z
namespace Hd
local macro_rules | `(tactic| walk_at "st") => `(tactic| simp (implicitDefEqProofs := false) only [↓seqD_up, ↓seqL_up, ↓len_ilst, ↓len_up, ↓truD_ilst, up_up, List.length_map, ↓wFor_m, ↓frzK_up, ↓frzK_upi, ↓wFz_e, ↓wFg_e, ↓wLstF_e, ↓addF_int, ↓addF_l, ↓addF_tup, ↓addF_str, ↓mulF_int, ↓mulF_l, ↓wSlF_e, ↓slF_tup, ↓slF_str, ↓slF_l, ↓slF_scr, ↓slF_ref, ↓listF_eq, ↓listdF_eq, ↓sortedF_eq, ↓allF_eq, ↓sumF_eq, ↓extF_eq, ↓vEnumF_e, ↓enF_l, ↓fldF_obj, ↓fldF_ref, ↓wFldF_e, ↓wLcF_e, ↓pName_e, ↓pNil_e, ↓pCons_e, ↓pTup_e, ↓gK_some, ↓obind_e, ↓seqL_ilst, ↓addM_eq, ↓sq2_some, ↓wVar_0, ↓wVar_s, ↓hNil_e, ↓hCons_e, ↓wDget_e, ↓wDget2_e, ↓wDput_m, ↓wSortIt_e, ↓wMake_e, ↓wIfS_m, ↓wSeq_m, ↓wAsg_m, ↓hName_e, ↓wC_e, ↓wNil_e, ↓wCons_e, ↓wTup_e, ↓wLst_e, ↓wOp_e, ↓wUn_e, ↓wIf_e, ↓wAndV_e, ↓wOrV_e, ↓wNotV_e, ↓wB_e, ↓wAnd_e, ↓wOr_e, ↓zNot_e, ↓zTru_e, ↓hCons_e, ↓hTup_e, ↓hSub_e, ↓wNext_m, ↓wDrop_m, ↓wRet_m, ↓wRetN_m, ↓wPar_m, ↓wCB_e, ↓wCall_e, ↓wIxk_e, ↓wSl_e, ↓wNoPart_e, ↓wPart_e, ↓wBM_e, ↓wBM0_e, ↓wChain_e, ↓wNever_e, ↓vSeq_e, ↓vEnum_e, ↓vRng1_e, ↓vRng2_e, vZip, ↓blK_bl, ↓tupK_tup, ↓pairK_2, ↓inK_int, ↓truD_bl, ↓truD_int, ↓truD_non, ↓truD_tup, ↓isn_non, ↓isn_int, ↓isn_bl, ↓isn_str, ↓isn_tup, ↓isn_ref, ↓Z.add_int, ↓add_tup, ↓add_ref, ↓intD_eq, ↓intD0_eq, ↓Z.mul_int, ↓Z.eq_int, ↓Z.ne_int, ↓Z.eq_bl, ↓ne_bl, ↓Z.eq_str, ↓Z.ne_str, ↓eq_non, ↓eq_tup, ↓eq_ref, ↓Z.neg_int, ↓seq_tup, ↓seq_ilst, ↓Z.ix_tup, ↓ix_int, ↓sqK_some, ↓ixK_0, ↓ixK_s, ↓tyK_some, ↓ty_non, ↓ty_bl, ↓ty_int, ↓ty_str, ↓ty_tup, ↓ty_ilst, ↓isi_eq, ↓isi2_eq, isiW, ↓len_tup, ↓intc_int, ↓abs_int, ↓gcd_int, ↓list_seq, ↓tuple_seq, ↓all_ref, ↓sum_ref, ↓Z.sl_tup, ↓sl_ilst, ↓sl_ref, ↓walk_tup, ↓walk_ilst, ↓walk_ref, ↓en_ref, start', List.map_cons, List.map_nil, List.cons_append, List.nil_append, List.append_nil, List.length_cons, List.length_nil, List.replicate, List.set_cons_zero, List.set_cons_succ, List.set_nil, List.getElem?_cons_zero, List.getElem?_cons_succ, wipeD, Nat.zero_add, Nat.reduceAdd, Nat.reduceSub, Nat.sub_self, Nat.sub_zero, true_and, and_true, if_true, if_false, Bool.not_true, Bool.not_false, ite_true, ite_false, Bool.false_eq_true, decide_true, decide_false, decide_eq_true_eq, Int.cast_ofNat_Int, reduceIte, Bool.not_eq_true', decide_eq_false_iff_not, Bool.and_true, Bool.true_and, Bool.and_false, Bool.false_and, Bool.or_true, Bool.true_or, Bool.or_false, Bool.false_or, beq_self_eq_true, bne_self_eq_false, not_true_eq_false, not_false_eq_true, String.reduceBEq, String.reduceBNe, Int.reduceToNat, Bool.true_eq_false, reduceCtorEq, Int.reduceEq, Int.reduceLT, Int.reduceLE, gt_iff_lt, ge_iff_le, ↓wBreak_m, ↓wCont_m, ↓wPar3_m, trioK_3, ↓wFldS_m, ↓wFld_e, ↓wChain_e, ↓wLam_e, ↓wIsE_e, ↓wRaise0_e, ↓wCallX_e, ↓wCallKX_e, ↓wYes_e, ↓wCallK_e, isDct_eq, dkK_eq, ↓wDnewT_e])
local macro_rules | `(tactic| walk_at "go") => `(tactic| ((first | with_reducible refine hld_i ?_ | skip); try walk_at "st"))
local macro_rules | `(tactic| walk_at "sx") => `(tactic| ((try simp only [sp_is_integer, sp_lowest, sp_exact, sp_is_number, sp_is_corner, sp_is_index, sp_is_face, sp_Net_init, sp_scaled, sp_determinant, sp_steps, sp_edge_of, sp_surpluses, sp_open_edges, sp_is_closed, sp_volume, sp_law_draw, sp_law_of, sp_law_same, sp_law_low, sp_law_add, sp_law_sub, sp_law_mul, sp_law_hand, sp_law_number, sp_law_ring, sp_law_loft, sp_law_det, sp_law_volume, sp_law_bag, sp_as_number, sp_compare, sp_loft, sp_law_handed, sp_law_lt, sp_law_area, sp_law_spots, sp_law_heights, sp_law_right, sp_law_any]); try walk_at "st"))
local macro_rules | `(tactic| walk_at "s0") => `(tactic| simp (implicitDefEqProofs := false) only [start', List.map_cons, List.map_nil, List.length_cons, List.length_nil, Nat.zero_add, Nat.reduceAdd, Nat.reduceSub, List.replicate, List.cons_append, List.nil_append])
local macro_rules | `(tactic| walk_at "rr") => `(tactic| repeat (first | with_reducible refine hld_i ?_ | walk_at "st"))
local macro_rules | `(tactic| walk_at "rx") => `(tactic| repeat (first | with_reducible refine hld_i ?_ | walk_at "st" | simp only [sp_is_integer, sp_lowest, sp_exact, sp_is_number, sp_is_corner, sp_is_index, sp_is_face, sp_Net_init, sp_scaled, sp_determinant, sp_steps, sp_edge_of, sp_surpluses, sp_open_edges, sp_is_closed, sp_volume, sp_law_draw, sp_law_of, sp_law_same, sp_law_low, sp_law_add, sp_law_sub, sp_law_mul, sp_law_hand, sp_law_number, sp_law_ring, sp_law_loft, sp_law_det, sp_law_volume, sp_law_bag, sp_as_number, sp_compare, sp_loft, sp_law_handed, sp_law_lt, sp_law_area, sp_law_spots, sp_law_heights, sp_law_right, sp_law_any]))
local macro_rules | `(tactic| walk_at "dw") => `(tactic| (refine draw (by first | exact up_same | assumption) (by assumption) (by omega) (by omega) (by omega) ?_))

variable {K : PySem.W.Frag}

theorem draw {b : Addr} {o : O} {T : Nat} {m : Int} {L : Lp} {Q : VK'} {E : XK'} (hb : L b = some o) (hB : IsBag T o) (hT : T < 1099511627776) (h0 : 0 < m) (h1 : m < 2 ^ 60) (h : ∀ (n : Nat) o', (n : Int) < m → IsBag (T + 1) o' → Q (.int n) (up L b o')) : sp_law_draw [.ref b, .int m] L Q E :=
  ⟨o, T, hb, hB, hT, h0, h1, h⟩
theorem IsBag.le {T T' : Nat} {o : O} (h : IsBag T o) (l : T ≤ T') : IsBag T' o := by
  obtain ⟨ns, i, r, m, t, e, h63, i0, r0, m0, m1, t0, t1⟩ := h
  exact ⟨ns, i, r, m, t, e, h63, i0, r0, m0, m1, t0, by omega⟩
theorem atN {ds : List D} {n : Nat} (h : n < ds.length) : atI ds (n : Int) = some (ds[n]'h) := by
  unfold atI
  rw [show ixN ds.length (n : Int) = some n by unfold ixN; simp; omega]
  simp [h]
theorem szl {n : Nat} (h : n ≤ 1000) : n ≤ sizeLine := Nat.le_trans h (by decide)
theorem rd_law_of : RD_law_of K := by
  intro ds L Q E h
  unfold sp_law_of at h
  split at h
  · rename_i b d
    obtain ⟨o, T, xs, hb, hB, hT, rfl, ne, hz, h⟩ := h
    unfold t_law_of
    walk_at "s0"
    walk_at "rr"
    have hl : 0 < xs.length := List.length_pos_iff.mpr ne
    refine draw hb hB hT (by omega) (by omega) fun n o1 hn hB1 => ?_
    have hn' : n < xs.length := by omega
    exact atK_at (atN hn') (.mk (h _ (List.getElem_mem hn') o1 hB1))
  · exact h.elim
theorem rd_law_hand : RD_law_hand K := by
  intro ds L Q E h
  unfold sp_law_hand at h
  split at h
  · rename_i b d
    obtain ⟨o, T, q, hb, hB, hT, rfl, h⟩ := h
    unfold t_law_hand
    walk_at "s0"
    walk_at "rr"
    have h0 : Q (numD q) L := by
      have := h (numD q) o (.inl rfl) (hB.le (by omega))
      rw [up_id hb] at this
      exact this
    by_cases c1 : q.den = 1
    · rw [if_pos (by omega)]
      walk_at "rr"
      refine draw hb hB hT (by decide) (by decide) fun n o1 hn hB1 => ?_
      walk_at "rr"
      by_cases c2 : (n : Int) = 0
      · rw [if_pos c2]
        walk_at "rr"
        exact .mk (h _ o1 (.inr ⟨c1, rfl⟩) hB1)
      · rw [if_neg c2]
        walk_at "rr"
        exact .mk (h _ o1 (.inl rfl) hB1)
    · rw [if_neg (by omega)]
      walk_at "rr"
      exact .mk h0
  · exact h.elim
theorem All2.snoc {α β : Type} {R : α → β → Prop} {a : α} {b : β} : ∀ {as : List α} {bs : List β}, All2 R as bs → R a b → All2 R (as ++ [a]) (bs ++ [b])
  | _, _, .nil, h => .cons h .nil
  | _, _, .cons x r, h => .cons x (All2.snoc r h)
theorem All2.take {α β : Type} {R : α → β → Prop} {zs : List α} {i : Nat} {z : α} {bs : List β} {y : β} (h : All2 R (zs.take i) bs) (e : zs[i]? = some z) (r : R z y) : All2 R (zs.take (i + 1)) (bs ++ [y]) := by
  rw [List.take_add_one, e]
  exact h.snoc r
theorem All2.length {α β : Type} {R : α → β → Prop} : ∀ {as : List α} {bs : List β}, All2 R as bs → as.length = bs.length
  | _, _, .nil => rfl
  | _, _, .cons _ r => congrArg Nat.succ (All2.length r)
theorem getlt {α : Type} {zs : List α} {i : Nat} {z : α} (e : zs[i]? = some z) : i < zs.length := by
  rcases Nat.lt_or_ge i zs.length with h | h
  · exact h
  · rw [List.getElem?_eq_none h] at e; cases e
theorem numD_int (n : Int) : (D.tup [.int n, .int 1]) = numD (mkRat n 1) := by
  have := numD_mk (n := n) (d := 1) (by decide)
  simpa using this.symm
theorem wd_mk {n : Int} {d D b : Nat} (hd : 0 < d) (hD : d ∣ D) (h0 : 0 < D) (hb : n.natAbs * (D / d) < b) : Wd D b (mkRat n d) := by
  obtain ⟨k, rfl⟩ := hD
  have hk : 0 < k := Nat.pos_of_mul_pos_left h0
  rw [Nat.mul_div_cancel_left _ hd] at hb
  refine ⟨n * k, (Rat.mkRat_mul_right (by omega)).symm, ?_⟩
  rw [Int.natAbs_mul, Int.natAbs_natCast]
  exact hb
theorem ok1_int {n : Int} (h : n.natAbs < 2 ^ 40) : Ok1 (mkRat n 1) := wd_mk (by decide) (by decide) (by decide) (by omega)
theorem rd_law_number : RD_law_number K := by
  intro ds L Q E h
  unfold sp_law_number at h
  split at h
  · rename_i b
    obtain ⟨o, T, hb, hB, hT, h⟩ := h
    unfold t_law_number t_law_number_1 t_law_number_2
    walk_at "s0"
    walk_at "rr"
    refine draw hb hB (by omega) (by decide) (by decide) fun w o1 hw hB1 => ?_
    walk_at "rr"
    by_cases c1 : (w : Int) = 11
    · rw [if_pos c1]
      walk_at "rr"
      refine draw up_same hB1 (by omega) (by decide) (by decide) fun n o2 hn hB2 => ?_
      walk_at "rr"
      rw [numD_int]
      exact .mk (h _ o2 (ok1_int (by omega)) (hB2.le (by omega)))
    · rw [if_neg c1]
      walk_at "rr"
      by_cases c2 : (7 : Int) < w
      · rw [if_pos c2]
        walk_at "rr"
        refine draw up_same hB1 (by omega) (by decide) (by decide) fun n o2 hn hB2 => ?_
        walk_at "rr"
        refine draw up_same hB2 (by omega) (by decide) (by decide) fun d o3 hd hB3 => ?_
        walk_at "rr"
        refine ⟨by omega, ?_, .mk (h _ o3 ?_ (hB3.le (by omega)))⟩
        · exact Nat.lt_of_lt_of_le (show (1 + (d : Int)).natAbs < 2 ^ 4 by omega) (Nat.pow_le_pow_right (by decide) (by decide))
        · have hd2 : d < 12 := by omega
          obtain ⟨k, hk, hk1, hk2⟩ : ∃ k : Nat, (1 + (d : Int)).toNat = k ∧ 1 ≤ k ∧ k ≤ 12 := ⟨_, rfl, by omega, by omega⟩
          rw [hk]
          refine wd_mk (by omega) ?_ (by decide) ?_
          · have : k = 1 ∨ k = 2 ∨ k = 3 ∨ k = 4 ∨ k = 5 ∨ k = 6 ∨ k = 7 ∨ k = 8 ∨ k = 9 ∨ k = 10 ∨ k = 11 ∨ k = 12 := by omega
            rcases this with rfl | rfl | rfl | rfl | rfl | rfl | rfl | rfl | rfl | rfl | rfl | rfl <;> decide
          · have h1 : ((n : Int) - 60).natAbs ≤ 200 := by omega
            have h2 : 27720 / k ≤ 27720 := Nat.div_le_self _ _
            exact Nat.lt_of_le_of_lt (Nat.mul_le_mul h1 h2) (by decide)
      · rw [if_neg c2]
        walk_at "rr"
        refine draw up_same hB1 (by omega) (by decide) (by decide) fun n o2 hn hB2 => ?_
        walk_at "rr"
        rw [numD_int]
        exact .mk (h _ o2 (ok1_int (by omega)) (hB2.le (by omega)))
  · exact h.elim
end Hd

open PySem PySem.Spec PyProof.Rows L2 Z
namespace Hd
local macro_rules | `(tactic| walk_at "st") => `(tactic| simp (implicitDefEqProofs := false) only [↓seqD_up, ↓seqL_up, ↓len_ilst, ↓len_up, ↓truD_ilst, up_up, List.length_map, ↓wFor_m, ↓frzK_up, ↓frzK_upi, ↓wFz_e, ↓wFg_e, ↓wLstF_e, ↓addF_int, ↓addF_l, ↓addF_tup, ↓addF_str, ↓mulF_int, ↓mulF_l, ↓wSlF_e, ↓slF_tup, ↓slF_str, ↓slF_l, ↓slF_scr, ↓slF_ref, ↓listF_eq, ↓listdF_eq, ↓sortedF_eq, ↓allF_eq, ↓sumF_eq, ↓extF_eq, ↓vEnumF_e, ↓enF_l, ↓fldF_obj, ↓fldF_ref, ↓wFldF_e, ↓wLcF_e, ↓pName_e, ↓pNil_e, ↓pCons_e, ↓pTup_e, ↓gK_some, ↓obind_e, ↓seqL_ilst, ↓addM_eq, ↓sq2_some, ↓wVar_0, ↓wVar_s, ↓hNil_e, ↓hCons_e, ↓wDget_e, ↓wDget2_e, ↓wDput_m, ↓wSortIt_e, ↓wMake_e, ↓wIfS_m, ↓wSeq_m, ↓wAsg_m, ↓hName_e, ↓wC_e, ↓wNil_e, ↓wCons_e, ↓wTup_e, ↓wLst_e, ↓wOp_e, ↓wUn_e, ↓wIf_e, ↓wAndV_e, ↓wOrV_e, ↓wNotV_e, ↓wB_e, ↓wAnd_e, ↓wOr_e, ↓zNot_e, ↓zTru_e, ↓hCons_e, ↓hTup_e, ↓hSub_e, ↓wNext_m, ↓wDrop_m, ↓wRet_m, ↓wRetN_m, ↓wPar_m, ↓wCB_e, ↓wCall_e, ↓wIxk_e, ↓wSl_e, ↓wNoPart_e, ↓wPart_e, ↓wBM_e, ↓wBM0_e, ↓wChain_e, ↓wNever_e, ↓vSeq_e, ↓vEnum_e, ↓vRng1_e, ↓vRng2_e, vZip, ↓blK_bl, ↓tupK_tup, ↓pairK_2, ↓inK_int, ↓truD_bl, ↓truD_int, ↓truD_non, ↓truD_tup, ↓isn_non, ↓isn_int, ↓isn_bl, ↓isn_str, ↓isn_tup, ↓isn_ref, ↓Z.add_int, ↓add_tup, ↓add_ref, ↓intD_eq, ↓intD0_eq, ↓Z.mul_int, ↓Z.eq_int, ↓Z.ne_int, ↓Z.eq_bl, ↓ne_bl, ↓Z.eq_str, ↓Z.ne_str, ↓eq_non, ↓eq_tup, ↓eq_ref, ↓Z.neg_int, ↓seq_tup, ↓seq_ilst, ↓Z.ix_tup, ↓ix_int, ↓sqK_some, ↓ixK_0, ↓ixK_s, ↓tyK_some, ↓ty_non, ↓ty_bl, ↓ty_int, ↓ty_str, ↓ty_tup, ↓ty_ilst, ↓isi_eq, ↓isi2_eq, isiW, ↓len_tup, ↓intc_int, ↓abs_int, ↓gcd_int, ↓list_seq, ↓tuple_seq, ↓all_ref, ↓sum_ref, ↓Z.sl_tup, ↓sl_ilst, ↓sl_ref, ↓walk_tup, ↓walk_ilst, ↓walk_ref, ↓en_ref, start', List.map_cons, List.map_nil, List.cons_append, List.nil_append, List.append_nil, List.length_cons, List.length_nil, List.replicate, List.set_cons_zero, List.set_cons_succ, List.set_nil, List.getElem?_cons_zero, List.getElem?_cons_succ, wipeD, Nat.zero_add, Nat.reduceAdd, Nat.reduceSub, Nat.sub_self, Nat.sub_zero, true_and, and_true, if_true, if_false, Bool.not_true, Bool.not_false, ite_true, ite_false, Bool.false_eq_true, decide_true, decide_false, decide_eq_true_eq, Int.cast_ofNat_Int, reduceIte, Bool.not_eq_true', decide_eq_false_iff_not, Bool.and_true, Bool.true_and, Bool.and_false, Bool.false_and, Bool.or_true, Bool.true_or, Bool.or_false, Bool.false_or, beq_self_eq_true, bne_self_eq_false, not_true_eq_false, not_false_eq_true, String.reduceBEq, String.reduceBNe, Int.reduceToNat, Bool.true_eq_false, reduceCtorEq, Int.reduceEq, Int.reduceLT, Int.reduceLE, gt_iff_lt, ge_iff_le, ↓wBreak_m, ↓wCont_m, ↓wPar3_m, trioK_3, ↓wFldS_m, ↓wFld_e, ↓wChain_e, ↓wLam_e, ↓wIsE_e, ↓wRaise0_e, ↓wCallX_e, ↓wCallKX_e, ↓wYes_e, ↓wCallK_e, isDct_eq, dkK_eq, ↓wDnewT_e])
local macro_rules | `(tactic| walk_at "go") => `(tactic| ((first | with_reducible refine hld_i ?_ | skip); try walk_at "st"))
local macro_rules | `(tactic| walk_at "sx") => `(tactic| ((try simp only [sp_is_integer, sp_lowest, sp_exact, sp_is_number, sp_is_corner, sp_is_index, sp_is_face, sp_Net_init, sp_scaled, sp_determinant, sp_steps, sp_edge_of, sp_surpluses, sp_open_edges, sp_is_closed, sp_volume, sp_law_draw, sp_law_of, sp_law_same, sp_law_low, sp_law_add, sp_law_sub, sp_law_mul, sp_law_hand, sp_law_number, sp_law_ring, sp_law_loft, sp_law_det, sp_law_volume, sp_law_bag, sp_as_number, sp_compare, sp_loft, sp_law_handed, sp_law_lt, sp_law_area, sp_law_spots, sp_law_heights, sp_law_right, sp_law_any]); try walk_at "st"))
local macro_rules | `(tactic| walk_at "s0") => `(tactic| simp (implicitDefEqProofs := false) only [start', List.map_cons, List.map_nil, List.length_cons, List.length_nil, Nat.zero_add, Nat.reduceAdd, Nat.reduceSub, List.replicate, List.cons_append, List.nil_append])
local macro_rules | `(tactic| walk_at "rr") => `(tactic| repeat (first | with_reducible refine hld_i ?_ | walk_at "st"))
local macro_rules | `(tactic| walk_at "rx") => `(tactic| repeat (first | with_reducible refine hld_i ?_ | walk_at "st" | simp only [sp_is_integer, sp_lowest, sp_exact, sp_is_number, sp_is_corner, sp_is_index, sp_is_face, sp_Net_init, sp_scaled, sp_determinant, sp_steps, sp_edge_of, sp_surpluses, sp_open_edges, sp_is_closed, sp_volume, sp_law_draw, sp_law_of, sp_law_same, sp_law_low, sp_law_add, sp_law_sub, sp_law_mul, sp_law_hand, sp_law_number, sp_law_ring, sp_law_loft, sp_law_det, sp_law_volume, sp_law_bag, sp_as_number, sp_compare, sp_loft, sp_law_handed, sp_law_lt, sp_law_area, sp_law_spots, sp_law_heights, sp_law_right, sp_law_any]))
local macro_rules | `(tactic| walk_at "dw") => `(tactic| (refine draw (by first | exact up_same | assumption) (by assumption) (by omega) (by omega) (by omega) ?_))

variable {K : PySem.W.Frag}

abbrev iD (p : Int × Int) : D := .tup [.int p.1, .int p.2]
def SmI (p : Int × Int) : Prop := p.1.natAbs < 40 ∧ p.2.natAbs < 40
theorem ok6_mk {n : Int} {d : Nat} (hn : n.natAbs < 40) (hd : d = 1 ∨ d = 2 ∨ d = 3) : Ok6 (mkRat n d) := by
  rcases hd with rfl | rfl | rfl
  · exact wd_mk (by decide) (by decide) (by decide) (by omega)
  · exact wd_mk (by decide) (by decide) (by decide) (by omega)
  · exact wd_mk (by decide) (by decide) (by decide) (by omega)
theorem rot_mem {α : Type} {xs : List α} {n : Nat} {x : α} (h : x ∈ xs.drop n ++ xs.take n) : x ∈ xs := by
  rcases List.mem_append.mp h with h | h
  · exact List.mem_of_mem_drop h
  · exact List.mem_of_mem_take h
theorem ring_tail {Q : VK'} {b : Addr} {o : O} {T : Nat} {xs : List (Int × Int)} {o1 o2 o3 o4 o5 o7 o8 o9 o10 : Option D} {L : Lp} (hB : IsBag T o) (hT : T + 2 < 1099511627776) (hl : 3 ≤ xs.length ∧ xs.length ≤ 5) (hs : ∀ x ∈ xs, SmI x)
    (h : ∀ (xs : List (Rat × Rat)) o', (3 ≤ xs.length ∧ xs.length ≤ 5) → (∀ x ∈ xs, Ok6 x.1 ∧ Ok6 x.2) → IsBag (T + 2) o' → Q (.ilst (xs.map ptD)) (up L b o')) :
    t_law_ring_1 K { nx := fun _ L1 => Dn (Q .non) L1, rt := fun d L1 => Dn (Q d) L1 } [some (.ref b), o1, o2, o3, o4, o5, some (.ilst (xs.map iD)), o7, o8, o9, o10] (up L b o) := by
  unfold t_law_ring_1
  walk_at "rr"
  refine ⟨o, T, _, up_same, hB, by omega, rfl, by simp, by simp, fun x hx o1 hB1 => ?_⟩
  obtain ⟨d, hd, rfl⟩ : ∃ d : Nat, (d = 1 ∨ d = 2 ∨ d = 3) ∧ x = .int d := by
    simp only [List.mem_cons, List.not_mem_nil, or_false] at hx
    rcases hx with rfl | rfl | rfl | rfl | rfl | rfl | rfl | rfl
    all_goals first | exact ⟨1, .inl rfl, rfl⟩ | exact ⟨2, .inr (.inl rfl), rfl⟩ | exact ⟨3, .inr (.inr rfl), rfl⟩
  walk_at "rr"
  walk_at "dw"
  intro n o2 hn hB2
  walk_at "rr"
  rw [cut_from, cut_to]
  refine ⟨by rw [List.length_drop, List.length_take, List.length_map]; exact szl (by omega), ?_⟩
  rw [← List.map_drop, ← List.map_take, ← List.map_append]
  refine lcF_f (xs.drop n ++ xs.take n) iD (fun p => ptD (mkRat p.1 d, mkRat p.2 d)) (by rw [List.length_append, List.length_drop, List.length_take]; exact szl (by omega)) (fun _ _ => trivial) (fun z Q' hm hq => ?_) ?_
  · walk_at "rr"
    refine ⟨by omega, ?_, ?_⟩
    · exact Nat.lt_of_lt_of_le (show (d : Int).natAbs < 2 ^ 4 by omega) (Nat.pow_le_pow_right (by decide) (by decide))
    walk_at "rr"
    refine ⟨by omega, ?_, ?_⟩
    · exact Nat.lt_of_lt_of_le (show (d : Int).natAbs < 2 ^ 4 by omega) (Nat.pow_le_pow_right (by decide) (by decide))
    walk_at "rr"
    rw [Int.toNat_natCast]
    exact hq
  · have := h ((xs.drop n ++ xs.take n).map fun p => (mkRat p.1 d, mkRat p.2 d)) o2 (by rw [List.length_map, List.length_append, List.length_drop, List.length_take]; omega) (fun x hx => by
      obtain ⟨p, hp, rfl⟩ := List.mem_map.mp hx
      have := hs p (rot_mem hp)
      exact ⟨ok6_mk this.1 hd, ok6_mk this.2 hd⟩) (hB2.le (by omega))
    rw [List.map_map] at this
    exact .mk this
theorem rd_law_ring : RD_law_ring K := by
  intro ds L Q E h
  unfold sp_law_ring at h
  split at h
  · rename_i b
    obtain ⟨o, T, hb, hB, hT, h⟩ := h
    unfold t_law_ring
    walk_at "s0"
    walk_at "rr"
    walk_at "dw"; intro w o1 hw hB1; walk_at "rr"
    walk_at "dw"; intro x o2 hx hB2; walk_at "rr"
    walk_at "dw"; intro y o3 hy hB3; walk_at "rr"
    walk_at "dw"; intro wd o4 hwd hB4; walk_at "rr"
    walk_at "dw"; intro tl o5 htl hB5; walk_at "rr"
    by_cases c1 : (w : Int) < 2
    · rw [if_pos c1]
      walk_at "rr"
      refine ring_tail (xs := [(x, y), (x + (1 + wd), y), (x + (1 + wd), y + (1 + tl)), (x, y + (1 + tl))]) hB5 (by omega) (by simp) ?_ fun xs o' h1 h2 h3 => h xs o' h1 h2 (h3.le (by omega))
      intro p hp
      simp only [List.mem_cons, List.not_mem_nil, or_false] at hp
      rcases hp with rfl | rfl | rfl | rfl <;> constructor <;> dsimp only <;> omega
    · rw [if_neg c1]
      walk_at "rr"
      by_cases c2 : (w : Int) = 2
      · rw [if_pos c2]
        walk_at "rr"
        walk_at "dw"; intro u o6 hu hB6; walk_at "rr"
        walk_at "dw"; intro v o7 hv hB7; walk_at "rr"
        refine ring_tail (xs := [(x, y), (x + (1 + wd), y + u), (x + v - 3, y + (1 + tl))]) hB7 (by omega) (by simp) ?_ fun xs o' h1 h2 h3 => h xs o' h1 h2 (h3.le (by omega))
        intro p hp
        simp only [List.mem_cons, List.not_mem_nil, or_false] at hp
        rcases hp with rfl | rfl | rfl <;> constructor <;> dsimp only <;> omega
      · rw [if_neg c2]
        walk_at "rr"
        walk_at "dw"; intro u o6 hu hB6; walk_at "rr"
        walk_at "dw"; intro v o7 hv hB7; walk_at "rr"
        refine ring_tail (xs := [(x, y), (x + (1 + wd), y), (x + (1 + wd), y + (1 + tl)), (x + u, y + (1 + tl) + 1 + v), (x, y + (1 + tl))]) hB7 (by omega) (by simp) ?_ fun xs o' h1 h2 h3 => h xs o' h1 h2 (h3.le (by omega))
        intro p hp
        simp only [List.mem_cons, List.not_mem_nil, or_false] at hp
        rcases hp with rfl | rfl | rfl | rfl | rfl <;> constructor <;> dsimp only <;> omega
  · exact h.elim
end Hd

open PySem PySem.Spec PyProof.Rows L2 Z
namespace Hd
local macro_rules | `(tactic| walk_at "st") => `(tactic| simp (implicitDefEqProofs := false) only [↓seqD_up, ↓seqL_up, ↓len_ilst, ↓len_up, ↓truD_ilst, up_up, List.length_map, ↓wFor_m, ↓frzK_up, ↓frzK_upi, ↓wFz_e, ↓wFg_e, ↓wLstF_e, ↓addF_int, ↓addF_l, ↓addF_tup, ↓addF_str, ↓mulF_int, ↓mulF_l, ↓wSlF_e, ↓slF_tup, ↓slF_str, ↓slF_l, ↓slF_scr, ↓slF_ref, ↓listF_eq, ↓listdF_eq, ↓sortedF_eq, ↓allF_eq, ↓sumF_eq, ↓extF_eq, ↓vEnumF_e, ↓enF_l, ↓fldF_obj, ↓fldF_ref, ↓wFldF_e, ↓wLcF_e, ↓pName_e, ↓pNil_e, ↓pCons_e, ↓pTup_e, ↓gK_some, ↓obind_e, ↓seqL_ilst, ↓addM_eq, ↓sq2_some, ↓wVar_0, ↓wVar_s, ↓hNil_e, ↓hCons_e, ↓wDget_e, ↓wDget2_e, ↓wDput_m, ↓wSortIt_e, ↓wMake_e, ↓wIfS_m, ↓wSeq_m, ↓wAsg_m, ↓hName_e, ↓wC_e, ↓wNil_e, ↓wCons_e, ↓wTup_e, ↓wLst_e, ↓wOp_e, ↓wUn_e, ↓wIf_e, ↓wAndV_e, ↓wOrV_e, ↓wNotV_e, ↓wB_e, ↓wAnd_e, ↓wOr_e, ↓zNot_e, ↓zTru_e, ↓hCons_e, ↓hTup_e, ↓hSub_e, ↓wNext_m, ↓wDrop_m, ↓wRet_m, ↓wRetN_m, ↓wPar_m, ↓wCB_e, ↓wCall_e, ↓wIxk_e, ↓wSl_e, ↓wNoPart_e, ↓wPart_e, ↓wBM_e, ↓wBM0_e, ↓wChain_e, ↓wNever_e, ↓vSeq_e, ↓vEnum_e, ↓vRng1_e, ↓vRng2_e, vZip, ↓blK_bl, ↓tupK_tup, ↓pairK_2, ↓inK_int, ↓truD_bl, ↓truD_int, ↓truD_non, ↓truD_tup, ↓isn_non, ↓isn_int, ↓isn_bl, ↓isn_str, ↓isn_tup, ↓isn_ref, ↓Z.add_int, ↓add_tup, ↓add_ref, ↓intD_eq, ↓intD0_eq, ↓Z.mul_int, ↓Z.eq_int, ↓Z.ne_int, ↓Z.eq_bl, ↓ne_bl, ↓Z.eq_str, ↓Z.ne_str, ↓eq_non, ↓eq_tup, ↓eq_ref, ↓Z.neg_int, ↓seq_tup, ↓seq_ilst, ↓Z.ix_tup, ↓ix_int, ↓sqK_some, ↓ixK_0, ↓ixK_s, ↓tyK_some, ↓ty_non, ↓ty_bl, ↓ty_int, ↓ty_str, ↓ty_tup, ↓ty_ilst, ↓isi_eq, ↓isi2_eq, isiW, ↓len_tup, ↓intc_int, ↓abs_int, ↓gcd_int, ↓list_seq, ↓tuple_seq, ↓all_ref, ↓sum_ref, ↓Z.sl_tup, ↓sl_ilst, ↓sl_ref, ↓walk_tup, ↓walk_ilst, ↓walk_ref, ↓en_ref, start', List.map_cons, List.map_nil, List.cons_append, List.nil_append, List.append_nil, List.length_cons, List.length_nil, List.replicate, List.set_cons_zero, List.set_cons_succ, List.set_nil, List.getElem?_cons_zero, List.getElem?_cons_succ, wipeD, Nat.zero_add, Nat.reduceAdd, Nat.reduceSub, Nat.sub_self, Nat.sub_zero, true_and, and_true, if_true, if_false, Bool.not_true, Bool.not_false, ite_true, ite_false, Bool.false_eq_true, decide_true, decide_false, decide_eq_true_eq, Int.cast_ofNat_Int, reduceIte, Bool.not_eq_true', decide_eq_false_iff_not, Bool.and_true, Bool.true_and, Bool.and_false, Bool.false_and, Bool.or_true, Bool.true_or, Bool.or_false, Bool.false_or, beq_self_eq_true, bne_self_eq_false, not_true_eq_false, not_false_eq_true, String.reduceBEq, String.reduceBNe, Int.reduceToNat, Bool.true_eq_false, reduceCtorEq, Int.reduceEq, Int.reduceLT, Int.reduceLE, gt_iff_lt, ge_iff_le, ↓wBreak_m, ↓wCont_m, ↓wPar3_m, trioK_3, ↓wFldS_m, ↓wFld_e, ↓wChain_e, ↓wLam_e, ↓wIsE_e, ↓wRaise0_e, ↓wCallX_e, ↓wCallKX_e, ↓wYes_e, ↓wCallK_e, isDct_eq, dkK_eq, ↓wDnewT_e])
local macro_rules | `(tactic| walk_at "go") => `(tactic| ((first | with_reducible refine hld_i ?_ | skip); try walk_at "st"))
local macro_rules | `(tactic| walk_at "sx") => `(tactic| ((try simp only [sp_is_integer, sp_lowest, sp_exact, sp_is_number, sp_is_corner, sp_is_index, sp_is_face, sp_Net_init, sp_scaled, sp_determinant, sp_steps, sp_edge_of, sp_surpluses, sp_open_edges, sp_is_closed, sp_volume, sp_law_draw, sp_law_of, sp_law_same, sp_law_low, sp_law_add, sp_law_sub, sp_law_mul, sp_law_hand, sp_law_number, sp_law_ring, sp_law_loft, sp_law_det, sp_law_volume, sp_law_bag, sp_as_number, sp_compare, sp_loft, sp_law_handed, sp_law_lt, sp_law_area, sp_law_spots, sp_law_heights, sp_law_right, sp_law_any]); try walk_at "st"))
local macro_rules | `(tactic| walk_at "s0") => `(tactic| simp (implicitDefEqProofs := false) only [start', List.map_cons, List.map_nil, List.length_cons, List.length_nil, Nat.zero_add, Nat.reduceAdd, Nat.reduceSub, List.replicate, List.cons_append, List.nil_append])
local macro_rules | `(tactic| walk_at "rr") => `(tactic| repeat (first | with_reducible refine hld_i ?_ | walk_at "st"))
local macro_rules | `(tactic| walk_at "rx") => `(tactic| repeat (first | with_reducible refine hld_i ?_ | walk_at "st" | simp only [sp_is_integer, sp_lowest, sp_exact, sp_is_number, sp_is_corner, sp_is_index, sp_is_face, sp_Net_init, sp_scaled, sp_determinant, sp_steps, sp_edge_of, sp_surpluses, sp_open_edges, sp_is_closed, sp_volume, sp_law_draw, sp_law_of, sp_law_same, sp_law_low, sp_law_add, sp_law_sub, sp_law_mul, sp_law_hand, sp_law_number, sp_law_ring, sp_law_loft, sp_law_det, sp_law_volume, sp_law_bag, sp_as_number, sp_compare, sp_loft, sp_law_handed, sp_law_lt, sp_law_area, sp_law_spots, sp_law_heights, sp_law_right, sp_law_any]))
local macro_rules | `(tactic| walk_at "dw") => `(tactic| (refine draw (by first | exact up_same | assumption) (by assumption) (by omega) (by omega) (by omega) ?_))

variable {K : PySem.W.Frag}
theorem wd_mul {d e b c : Nat} {p q : Rat} (hp : Wd d b p) (hq : Wd e c q) : Wd (d * e) (b * c) (p * q) := by
  obtain ⟨x, rfl, hx⟩ := hp
  obtain ⟨y, rfl, hy⟩ := hq
  refine ⟨x * y, Rat.mkRat_mul_mkRat .., ?_⟩
  rw [Int.natAbs_mul]
  exact Nat.mul_lt_mul'' hx hy
theorem wd_add {d b c : Nat} {p q : Rat} (hd : 0 < d) (hp : Wd d b p) (hq : Wd d c q) : Wd d (b + c) (p + q) := by
  obtain ⟨x, rfl, hx⟩ := hp
  obtain ⟨y, rfl, hy⟩ := hq
  refine ⟨x + y, ?_, by omega⟩
  rw [Rat.mkRat_add_mkRat _ _ (by omega) (by omega), ← Int.add_mul, Rat.mkRat_mul_right (by omega)]
theorem wd_neg {d b : Nat} {q : Rat} (hq : Wd d b q) : Wd d b (-q) := by
  obtain ⟨y, rfl, hy⟩ := hq
  exact ⟨-y, Rat.neg_mkRat .., by rw [Int.natAbs_neg]; exact hy⟩
theorem wd_sub {d b c : Nat} {p q : Rat} (hd : 0 < d) (hp : Wd d b p) (hq : Wd d c q) : Wd d (b + c) (p - q) := by
  rw [Rat.sub_eq_add_neg]
  exact wd_add hd hp (wd_neg hq)
theorem wd_le {d b c : Nat} {q : Rat} (h : Wd d b q) (l : b ≤ c) : Wd d c q := by
  obtain ⟨y, rfl, hy⟩ := h
  exact ⟨y, rfl, by omega⟩
theorem wd_sm {d b : Nat} {q : Rat} (h : Wd d b q) (hd : 0 < d) (h1 : d < 2 ^ 4000) (h2 : b ≤ 2 ^ 4000) : Sm q := by
  obtain ⟨y, rfl, hy⟩ := h
  constructor
  · rw [mk_num (by omega)]
    refine Nat.lt_of_le_of_lt ?_ (Nat.lt_of_lt_of_le hy h2)
    exact Int.natAbs_ediv_le_natAbs _ _
  · rw [Rat.den_mkRat, if_neg (by omega)]
    exact Nat.lt_of_le_of_lt (Nat.div_le_self _ _) h1
theorem D1 : (27720 : Nat) ^ 3 < 2 ^ 4000 := by
  exact Nat.lt_of_lt_of_le (show 27720 ^ 3 < 2 ^ 60 by decide) (Nat.pow_le_pow_right (by decide) (by decide))
theorem pw {a : Nat} (h : a ≤ 4000) : 2 ^ a ≤ 2 ^ 4000 := Nat.pow_le_pow_right (by decide) h
theorem ok1_sm {q : Rat} (h : Ok1 q) : Sm q := wd_sm h (by decide) (Nat.lt_of_lt_of_le (show 27720 < 2 ^ 60 by decide) (pw (by decide))) (pw (by decide))
theorem ok2_sm {q : Rat} {k : Nat} (h : Wd (27720 * 27720) (2 ^ k) q) (hk : k ≤ 4000) : Sm q := wd_sm h (by decide) (Nat.lt_of_lt_of_le (show 27720 * 27720 < 2 ^ 60 by decide) (pw (by decide))) (pw hk)
theorem ok3_sm {q : Rat} {k : Nat} (h : Wd (27720 * (27720 * 27720)) (2 ^ k) q) (hk : k ≤ 4000) : Sm q := wd_sm h (by decide) (Nat.lt_of_lt_of_le (show 27720 * (27720 * 27720) < 2 ^ 60 by decide) (pw (by decide))) (pw hk)
theorem mul2 {p q : Rat} (hp : Ok1 p) (hq : Ok1 q) : Wd (27720 * 27720) (2 ^ 120) (p * q) := by
  have := wd_mul hp hq
  rw [← Nat.pow_add] at this
  exact this
theorem minor {p q r s : Rat} (hp : Ok1 p) (hq : Ok1 q) (hr : Ok1 r) (hs : Ok1 s) : Wd (27720 * 27720) (2 ^ 121) (p * q - r * s) := by
  have := wd_sub (by decide) (mul2 hp hq) (mul2 hr hs)
  rw [show 2 ^ 120 + 2 ^ 120 = 2 ^ 121 from by decide] at this
  exact this
theorem prod3 {a m : Rat} (ha : Ok1 a) (hm : Wd (27720 * 27720) (2 ^ 121) m) : Wd (27720 * (27720 * 27720)) (2 ^ 181) (a * m) := by
  have := wd_mul ha hm
  rw [← Nat.pow_add] at this
  exact this

theorem wd_scale {d b k : Nat} {q : Rat} (hk : 0 < k) (h : Wd d b q) : Wd (d * k) (b * k) q := by
  obtain ⟨x, rfl, hx⟩ := h
  refine ⟨x * k, (Rat.mkRat_mul_right (by omega)).symm, ?_⟩
  rw [Int.natAbs_mul, Int.natAbs_natCast]
  exact Nat.mul_lt_mul_of_pos_right hx hk
abbrev OkS (q : Rat) : Prop := Wd 27720 (2 ^ 56) q
theorem oks_ok1 {q : Rat} (h : OkS q) : Ok1 q := wd_le h (by decide)
theorem ok6_oks {q : Rat} (h : Ok6 q) : OkS q := wd_le (wd_scale (k := 4620) (by decide) h) (by decide)
theorem oks_int {n : Int} (h : n.natAbs < 2 ^ 40) : OkS (mkRat n 1) := wd_mk (by decide) (by decide) (by decide) (by omega)
theorem oks_sm {q : Rat} (h : OkS q) : Sm q := ok1_sm (oks_ok1 h)
theorem oks_add {p q : Rat} (h : OkS p) (k : OkS q) : Ok1 (p + q) := wd_le (wd_add (by decide) h k) (by decide)
/-- a small written number -/
def Wr (d : D) : Prop := ∃ (n k : Nat), n < 10 ∧ (k = 1 ∨ k = 2 ∨ k = 3) ∧ d = numD (mkRat n k)
theorem wr_ok {d : D} (h : Wr d) : ∃ q, d = numD q ∧ Wd 6 100 q := by
  obtain ⟨n, k, hn, hk, rfl⟩ := h
  refine ⟨_, rfl, ?_⟩
  rcases hk with rfl | rfl | rfl
  · exact wd_mk (by decide) (by decide) (by decide) (by omega)
  · exact wd_mk (by decide) (by decide) (by decide) (by omega)
  · exact wd_mk (by decide) (by decide) (by decide) (by omega)
end Hd

open PySem PySem.Spec PyProof.Rows L2 Z
namespace Hd
local macro_rules | `(tactic| walk_at "st") => `(tactic| simp (implicitDefEqProofs := false) only [↓seqD_up, ↓seqL_up, ↓len_ilst, ↓len_up, ↓truD_ilst, up_up, List.length_map, ↓wFor_m, ↓frzK_up, ↓frzK_upi, ↓wFz_e, ↓wFg_e, ↓wLstF_e, ↓addF_int, ↓addF_l, ↓addF_tup, ↓addF_str, ↓mulF_int, ↓mulF_l, ↓wSlF_e, ↓slF_tup, ↓slF_str, ↓slF_l, ↓slF_scr, ↓slF_ref, ↓listF_eq, ↓listdF_eq, ↓sortedF_eq, ↓allF_eq, ↓sumF_eq, ↓extF_eq, ↓vEnumF_e, ↓enF_l, ↓fldF_obj, ↓fldF_ref, ↓wFldF_e, ↓wLcF_e, ↓pName_e, ↓pNil_e, ↓pCons_e, ↓pTup_e, ↓gK_some, ↓obind_e, ↓seqL_ilst, ↓addM_eq, ↓sq2_some, ↓wVar_0, ↓wVar_s, ↓hNil_e, ↓hCons_e, ↓wDget_e, ↓wDget2_e, ↓wDput_m, ↓wSortIt_e, ↓wMake_e, ↓wIfS_m, ↓wSeq_m, ↓wAsg_m, ↓hName_e, ↓wC_e, ↓wNil_e, ↓wCons_e, ↓wTup_e, ↓wLst_e, ↓wOp_e, ↓wUn_e, ↓wIf_e, ↓wAndV_e, ↓wOrV_e, ↓wNotV_e, ↓wB_e, ↓wAnd_e, ↓wOr_e, ↓zNot_e, ↓zTru_e, ↓hCons_e, ↓hTup_e, ↓hSub_e, ↓wNext_m, ↓wDrop_m, ↓wRet_m, ↓wRetN_m, ↓wPar_m, ↓wCB_e, ↓wCall_e, ↓wIxk_e, ↓wSl_e, ↓wNoPart_e, ↓wPart_e, ↓wBM_e, ↓wBM0_e, ↓wChain_e, ↓wNever_e, ↓vSeq_e, ↓vEnum_e, ↓vRng1_e, ↓vRng2_e, vZip, ↓blK_bl, ↓tupK_tup, ↓pairK_2, ↓inK_int, ↓truD_bl, ↓truD_int, ↓truD_non, ↓truD_tup, ↓isn_non, ↓isn_int, ↓isn_bl, ↓isn_str, ↓isn_tup, ↓isn_ref, ↓Z.add_int, ↓add_tup, ↓add_ref, ↓intD_eq, ↓intD0_eq, ↓Z.mul_int, ↓Z.eq_int, ↓Z.ne_int, ↓Z.eq_bl, ↓ne_bl, ↓Z.eq_str, ↓Z.ne_str, ↓eq_non, ↓eq_tup, ↓eq_ref, ↓Z.neg_int, ↓seq_tup, ↓seq_ilst, ↓Z.ix_tup, ↓ix_int, ↓sqK_some, ↓ixK_0, ↓ixK_s, ↓tyK_some, ↓ty_non, ↓ty_bl, ↓ty_int, ↓ty_str, ↓ty_tup, ↓ty_ilst, ↓isi_eq, ↓isi2_eq, isiW, ↓len_tup, ↓intc_int, ↓abs_int, ↓gcd_int, ↓list_seq, ↓tuple_seq, ↓all_ref, ↓sum_ref, ↓Z.sl_tup, ↓sl_ilst, ↓sl_ref, ↓walk_tup, ↓walk_ilst, ↓walk_ref, ↓en_ref, start', List.map_cons, List.map_nil, List.cons_append, List.nil_append, List.append_nil, List.length_cons, List.length_nil, List.replicate, List.set_cons_zero, List.set_cons_succ, List.set_nil, List.getElem?_cons_zero, List.getElem?_cons_succ, wipeD, Nat.zero_add, Nat.reduceAdd, Nat.reduceSub, Nat.sub_self, Nat.sub_zero, true_and, and_true, if_true, if_false, Bool.not_true, Bool.not_false, ite_true, ite_false, Bool.false_eq_true, decide_true, decide_false, decide_eq_true_eq, Int.cast_ofNat_Int, reduceIte, Bool.not_eq_true', decide_eq_false_iff_not, Bool.and_true, Bool.true_and, Bool.and_false, Bool.false_and, Bool.or_true, Bool.true_or, Bool.or_false, Bool.false_or, beq_self_eq_true, bne_self_eq_false, not_true_eq_false, not_false_eq_true, String.reduceBEq, String.reduceBNe, Int.reduceToNat, Bool.true_eq_false, reduceCtorEq, Int.reduceEq, Int.reduceLT, Int.reduceLE, gt_iff_lt, ge_iff_le, ↓wBreak_m, ↓wCont_m, ↓wPar3_m, trioK_3, ↓wFldS_m, ↓wFld_e, ↓wChain_e, ↓wLam_e, ↓wIsE_e, ↓wRaise0_e, ↓wCallX_e, ↓wCallKX_e, ↓wYes_e, ↓wCallK_e, isDct_eq, dkK_eq, ↓wDnewT_e])
local macro_rules | `(tactic| walk_at "go") => `(tactic| ((first | with_reducible refine hld_i ?_ | skip); try walk_at "st"))
local macro_rules | `(tactic| walk_at "sx") => `(tactic| ((try simp only [sp_is_integer, sp_lowest, sp_exact, sp_is_number, sp_is_corner, sp_is_index, sp_is_face, sp_Net_init, sp_scaled, sp_determinant, sp_steps, sp_edge_of, sp_surpluses, sp_open_edges, sp_is_closed, sp_volume, sp_law_draw, sp_law_of, sp_law_same, sp_law_low, sp_law_add, sp_law_sub, sp_law_mul, sp_law_hand, sp_law_number, sp_law_ring, sp_law_loft, sp_law_det, sp_law_volume, sp_law_bag, sp_as_number, sp_compare, sp_loft, sp_law_handed, sp_law_lt, sp_law_area, sp_law_spots, sp_law_heights, sp_law_right, sp_law_any]); try walk_at "st"))
local macro_rules | `(tactic| walk_at "s0") => `(tactic| simp (implicitDefEqProofs := false) only [start', List.map_cons, List.map_nil, List.length_cons, List.length_nil, Nat.zero_add, Nat.reduceAdd, Nat.reduceSub, List.replicate, List.cons_append, List.nil_append])
local macro_rules | `(tactic| walk_at "rr") => `(tactic| repeat (first | with_reducible refine hld_i ?_ | walk_at "st"))
local macro_rules | `(tactic| walk_at "rx") => `(tactic| repeat (first | with_reducible refine hld_i ?_ | walk_at "st" | simp only [sp_is_integer, sp_lowest, sp_exact, sp_is_number, sp_is_corner, sp_is_index, sp_is_face, sp_Net_init, sp_scaled, sp_determinant, sp_steps, sp_edge_of, sp_surpluses, sp_open_edges, sp_is_closed, sp_volume, sp_law_draw, sp_law_of, sp_law_same, sp_law_low, sp_law_add, sp_law_sub, sp_law_mul, sp_law_hand, sp_law_number, sp_law_ring, sp_law_loft, sp_law_det, sp_law_volume, sp_law_bag, sp_as_number, sp_compare, sp_loft, sp_law_handed, sp_law_lt, sp_law_area, sp_law_spots, sp_law_heights, sp_law_right, sp_law_any]))
local macro_rules | `(tactic| walk_at "dw") => `(tactic| (refine draw (by first | exact up_same | assumption) (by assumption) (by omega) (by omega) (by omega) ?_))

variable {K : PySem.W.Frag}
theorem key_eq {e : T3} {k : Int × Int} : decide ((ent3D e).1 = ([.inl k.1, .inl k.2] : List L2.Key)) = decide ((e.1, e.2.1) = k) := by
  obtain ⟨a, b⟩ := k
  simp [ent3D]
theorem val3_eq (k : Int × Int) : ∀ es : List T3, valD (es.map ent3D) ([.inl k.1, .inl k.2] : List L2.Key) = (val3 es k).map D.int
  | [] => rfl
  | e :: es => by
    have ih := val3_eq k es
    unfold valD val3 at ih ⊢
    rw [List.map_cons, List.find?_cons, List.find?_cons, key_eq]
    cases c : decide ((e.1, e.2.1) = k) with
    | true => rfl
    | false => exact ih
theorem put3_eq (k : Int × Int) (s : Int) (es : List T3) : putD (es.map ent3D) ([.inl k.1, .inl k.2] : List L2.Key) (.int s) = (put3 es k s).map ent3D := by
  have ha : ((es.map ent3D).any fun kv => decide (kv.1 = ([.inl k.1, .inl k.2] : List L2.Key))) = es.any fun e => decide ((e.1, e.2.1) = k) := by
    rw [List.any_map]
    congr 1
    funext e
    exact key_eq
  unfold putD put3
  rw [ha]
  split
  · rw [List.map_map, List.map_map]
    congr 1
    funext e
    have := key_eq (e := e) (k := k)
    by_cases c : (e.1, e.2.1) = k
    · rw [decide_eq_true c] at this
      simp only [Function.comp, c, if_true]
      rw [if_pos (of_decide_eq_true this)]
      rfl
    · rw [decide_eq_false c] at this
      simp only [Function.comp, c, if_false]
      rw [if_neg (of_decide_eq_false this)]
  · rw [List.map_append]
    rfl
theorem surp_len_step (es : List T3) (p : Int × Int) : (stepB es p).length ≤ es.length + 1 := by
  unfold stepB bump put3
  split
  · rw [List.length_map]; omega
  · rw [List.length_append]; exact Nat.le_refl _
theorem surp_len_fold : ∀ (ps : List (Int × Int)) (es : List T3), (ps.foldl stepB es).length ≤ es.length + ps.length
  | [], es => Nat.le_refl _
  | p :: ps, es => by
    have h1 := surp_len_fold ps (stepB es p)
    have h2 := surp_len_step es p
    rw [List.foldl_cons, List.length_cons]
    omega
theorem stp_len (f : F3) : (stp f).length ≤ 3 := List.length_filter_le ..
theorem steps_len : ∀ fs : List F3, (fs.flatMap stp).length ≤ 3 * fs.length
  | [] => Nat.le_refl _
  | f :: fs => by
    have h1 := stp_len f
    have h2 := steps_len fs
    rw [List.flatMap_cons, List.length_append, List.length_cons]
    omega
theorem surp_len (fs : List F3) : (surp fs).length ≤ 3 * fs.length := by
  have h1 := surp_len_fold (fs.flatMap stp) []
  have h2 := steps_len fs
  unfold surp
  simp only [List.length_nil, Nat.zero_add] at h1
  omega

theorem surp_take {fs : List F3} {i : Nat} {f : F3} (h : fs[i]? = some f) : surp (fs.take (i + 1)) = (stp f).foldl stepB (surp (fs.take i)) := by
  unfold surp
  rw [List.take_add_one, h, List.flatMap_append, List.foldl_append]
  simp
theorem sp_edge_e {p q : Int} {L : Lp} {Q : VK'} {E : XK'} : sp_edge_of [.int p, .int q] L Q E = Q (prD (edg (p, q))) L := rfl
theorem get3 {es : List T3} {k : Int × Int} : (valD (es.map ent3D) ([.inl k.1, .inl k.2] : List L2.Key)).getD (.int 0) = .int ((val3 es k).getD 0) := by
  rw [val3_eq]
  cases val3 es k <;> rfl
theorem es_len {es : List T3} (h : es.length < 1000) : (es.map ent3D).length < sizeLine := by
  rw [List.length_map]
  exact Nat.lt_of_lt_of_le h (by decide)
section
variable {nx bk ct : S' → Lp → Prop} {rt : VK'}
theorem sur_turn {a : Addr} {es : List T3} {p q : Int} {o0 o2 o5 : Option D} {L : Lp} (hl : es.length < 1000)
    (h : nx [o0, some (.ref a), o2, some (.int p), some (.int q), some (prD (edg (p, q)))] (up L a (.dT ((stepB es (p, q)).map ent3D)))) :
    t_surpluses_2 K ⟨nx, rt, bk, ct⟩ [o0, some (.ref a), o2, some (.int p), some (.int q), o5] (up L a (.dT (es.map ent3D))) := by
  unfold t_surpluses_2
  walk_at "rr"
  rw [sp_edge_e]
  walk_at "rr"
  have fin : ∀ s : Int, s = (if p < q then 1 else -1) → (es.map ent3D).length < sizeLine ∧ nx [o0, some (.ref a), o2, some (.int p), some (.int q), some (prD (edg (p, q)))] (up L a (.dT (putD (es.map ent3D) ([.inl (edg (p, q)).1, .inl (edg (p, q)).2] : List L2.Key) (.int ((val3 es (edg (p, q))).getD 0 + s))))) := by
    intro s hs
    refine ⟨es_len hl, ?_⟩
    rw [put3_eq, hs]
    exact h
  refine ⟨⟨_, up_same⟩, es.map ent3D, [.inl (edg (p, q)).1, .inl (edg (p, q)).2], up_same, rfl, ?_⟩
  rw [get3]
  walk_at "rr"
  by_cases c : p < q
  · rw [if_pos c]
    walk_at "rr"
    exact ⟨es.map ent3D, [.inl (edg (p, q)).1, .inl (edg (p, q)).2], up_same, rfl, fin 1 (by rw [if_pos c])⟩
  · rw [if_neg c]
    walk_at "rr"
    exact ⟨es.map ent3D, [.inl (edg (p, q)).1, .inl (edg (p, q)).2], up_same, rfl, fin (-1) (by rw [if_neg c])⟩
end
theorem rd_surpluses : RD_surpluses K := by
  intro ds L Q E h
  unfold sp_surpluses at h
  split at h
  · obtain ⟨fs, rfl, lf, h⟩ := h
    unfold t_surpluses
    walk_at "s0"
    walk_at "rr"
    intro a na
    walk_at "rr"
    refine for_t fs fD (fun i τ' L' => (∃ o2 o3 o4 o5, τ' = [some (.tup (fs.map fD)), some (.ref a), o2, o3, o4, o5]) ∧ L' = up L a (.dT ((surp (fs.take i)).map ent3D))) ⟨⟨_, _, _, _, rfl⟩, rfl⟩ (fun _ _ _ _ _ => trivial) ?_ ?_
    · rintro i f τ' L' hz ⟨⟨o2, o3, o4, o5, rfl⟩, rfl⟩
      have hi := getlt hz
      unfold t_surpluses_1
      walk_at "rr"
      refine ⟨f, rfl, ?_⟩
      walk_at "rr"
      refine for_t (stp f) prD (fun j τ' L' => (∃ o3 o4 o5, τ' = [some (.tup (fs.map fD)), some (.ref a), some (fD f), o3, o4, o5]) ∧ L' = up L a (.dT ((((stp f).take j).foldl stepB (surp (fs.take i))).map ent3D))) ⟨⟨_, _, _, rfl⟩, rfl⟩ (fun _ _ _ _ _ => trivial) ?_ ?_
      · rintro j pq τ' L' hz2 ⟨⟨o3, o4, o5, rfl⟩, rfl⟩
        have hl : (((stp f).take j).foldl stepB (surp (fs.take i))).length < 1000 := by
          have h1 := surp_len_fold ((stp f).take j) (surp (fs.take i))
          have h2 := surp_len (fs.take i)
          have h3 := stp_len f
          rw [List.length_take] at h1 h2
          omega
        walk_at "rr"
        refine sur_turn (es := ((stp f).take j).foldl stepB (surp (fs.take i))) hl ?_
        refine .mk ⟨⟨_, _, _, rfl⟩, ?_⟩
        rw [List.take_add_one, hz2, List.foldl_append]
        rfl
      · rintro τ' L' ⟨⟨o3, o4, o5, rfl⟩, rfl⟩
        rw [List.take_length, ← surp_take hz]
        exact .mk ⟨⟨_, _, _, _, rfl⟩, rfl⟩
    · rintro τ' L' ⟨⟨o2, o3, o4, o5, rfl⟩, rfl⟩
      rw [List.take_length]
      walk_at "rr"
      exact .mk (h a na)
  · exact h.elim
theorem le_in {L L' : Lp} {r : Addr} {o : O} (l : Le L L') (n : L' r = none) : L r = none ∧ Le (Z.up L r o) (Z.up L' r o) := by
  refine ⟨?_, Le.up l⟩
  cases h : L r with
  | none => rfl
  | some u => rw [l _ _ h] at n; cases n
def lcB (g : TG') (tt : TT') (te : TE') (vs : List Nat) (τ : S') (Q : VK') (xs : List D) (st : Lp → Prop) (L1 : Lp) : Prop := wLc (fun _ _ R => R xs st L1) g tt te vs τ L1 Q
theorem wLc_eq {wi : TI'} {g : TG'} {tt : TT'} {te : TE'} {vs : List Nat} {τ : S'} {L : Lp} {Q : VK'} : wLc wi g tt te vs τ L Q = wi τ L (lcB g tt te vs τ Q) := rfl
theorem lcB_t {α : Type} {g : TG'} {tt : TT'} {te : TE'} {vs : List Nat} {τ : S'} {L1 : Lp} {Q : VK'} {st : Lp → Prop} (zs : List α) (enc : α → D) (F : α → Option D) (hz : zs.length ≤ sizeLine) (hst : ∀ L', Le L1 L' → st L')
    (step : ∀ (z : α) (L' : Lp) (Q' : VK') (R' : Lp → Prop), z ∈ zs → Le L1 L' → (∀ y, F z = some y → ∀ L4, Le L' L4 → Q' y L4) → (F z = none → ∀ L4, Le L' L4 → R' L4) →
      g (enc z) (wipeD τ vs) L' fun τ2 L2 => tt τ2 L2 fun b L3 => if b = true then te τ2 L3 Q' else R' L3)
    (hq : ∀ p, L1 p = none → Q (.ref p) (up L1 p (.lst (zs.filterMap F)))) : lcB g tt te vs τ Q (zs.map enc) st L1 := lc_t (wi := fun _ _ R => R (zs.map enc) st L1) zs enc F hz (fun R k => k st hst) step hq
theorem rd_open_edges (hc : Cls K (He.ga K "Net")) (hn : NoAttr K (He.ga K "Net") "faces") : RD_open_edges K := by
  intro ds L Q E h
  unfold sp_open_edges at h
  split at h
  · obtain ⟨cs, fs, rfl, lf, h⟩ := h
    have hsl := surp_len fs
    unfold t_open_edges
    walk_at "s0"
    walk_at "rr"
    rw [wLc_eq]
    walk_at "rr"
    refine ⟨hc, hn, _, rfl, fs, rfl, lf, fun p np => ⟨surp fs, up_same, fun q nq => ?_⟩⟩
    dsimp only
    rw [frzK_up, del_no nq]
    refine ⟨L, Le.new1 np, ?_⟩
    walk_at "rr"
    refine lcB_t ((surp fs).mergeSort le3) d3 (fun e => if decide (e.2.2 ≠ 0) = true then some (fD e) else none) (by rw [List.length_mergeSort]; exact szl (by omega)) (fun L' l => trivial) (fun z L' Q' R' hm l hy hn => ?_) fun r nr => ?_
    · unfold d3
      walk_at "rr"
      by_cases c : z.2.2 = 0
      · rw [if_neg (fun k => k c)]
        exact hn (by simp [c]) _ (Le.refl _)
      · rw [if_pos c]
        exact hy _ (by simp [c]) _ (Le.refl _)
    · rw [filt_eq]
      exact .mk (h r nr)
  · exact h.elim
theorem pyrs {L : Lp} : ∀ es : List F3, PyRs L (es.map fD) (es.map fun f => .tuple [.int f.1, .int f.2.1, .int f.2.2])
  | [] => .nil
  | f :: es => .cons (.tup (.cons (.int _) (.cons (.int _) (.cons (.int _) .nil)))) (pyrs es)
theorem lay3 : ∀ es : List F3, PyData.canLayAll0 (es.map fun f => .tuple [.int f.1, .int f.2.1, .int f.2.2]) = true
  | [] => rfl
  | f :: es => by
    show (PyData.canLay0 _ && PyData.canLayAll0 _) = true
    rw [lay3 es]
    rfl
theorem dep3 : ∀ es : List F3, PyData.depthAll (es.map fun f => .tuple [.int f.1, .int f.2.1, .int f.2.2]) ≤ 1
  | [] => Nat.zero_le _
  | f :: es => Nat.max_le.mpr ⟨Nat.le_refl 1, dep3 es⟩

theorem eq_nilF {L : Lp} {Q : VK'} {d : D} {es : List F3} (hd : PyR L d (.list (es.map fun f => .tuple [.int f.1, .int f.2.1, .int f.2.2]))) (h : Q (.bl es.isEmpty) L) : eqDeep false d (.ilst []) L Q := by
  refine ⟨_, _, hd, .ilst .nil, ?_, ?_, ?_⟩
  · have h1 := lay3 es
    have h2 := dep3 es
    have h3 : PyData.depth (.list (es.map fun f => PyData.tuple [.int f.1, .int f.2.1, .int f.2.2])) ≤ 64 := Nat.le_trans (Nat.succ_le_succ h2) (by decide)
    unfold SeqAt.shaped
    rw [decide_eq_true h3, Bool.and_true]
    exact h1
  · rfl
  · cases es with
    | nil => exact h
    | cons f es => exact h
theorem eq_ilst {xs ys : List D} {neg : Bool} {L : Lp} {Q : VK'} : eqD neg (.ilst xs) (.ilst ys) L Q = eqDeep neg (.ilst xs) (.ilst ys) L Q := rfl
theorem rd_is_closed : RD_is_closed K := by
  intro ds L Q E h
  unfold sp_is_closed at h
  split at h
  · obtain ⟨cs, fs, rfl, lf, h⟩ := h
    unfold t_is_closed
    walk_at "s0"
    walk_at "rr"
    refine ⟨cs, fs, rfl, lf, fun p np => ?_⟩
    walk_at "rr"
    rw [del_no np]
    rw [eq_ilst]
    exact eq_nilF (es := opn fs) (.ilst (pyrs _)) (.mk h)
  · exact h.elim
end Hd

open PySem PySem.Spec PyProof.Rows L2 Z
namespace Hd
local macro_rules | `(tactic| walk_at "st") => `(tactic| simp (implicitDefEqProofs := false) only [↓seqD_up, ↓seqL_up, ↓len_ilst, ↓len_up, ↓truD_ilst, up_up, List.length_map, ↓wFor_m, ↓frzK_up, ↓frzK_upi, ↓wFz_e, ↓wFg_e, ↓wLstF_e, ↓addF_int, ↓addF_l, ↓addF_tup, ↓addF_str, ↓mulF_int, ↓mulF_l, ↓wSlF_e, ↓slF_tup, ↓slF_str, ↓slF_l, ↓slF_scr, ↓slF_ref, ↓listF_eq, ↓listdF_eq, ↓sortedF_eq, ↓allF_eq, ↓sumF_eq, ↓extF_eq, ↓vEnumF_e, ↓enF_l, ↓fldF_obj, ↓fldF_ref, ↓wFldF_e, ↓wLcF_e, ↓pName_e, ↓pNil_e, ↓pCons_e, ↓pTup_e, ↓gK_some, ↓obind_e, ↓seqL_ilst, ↓addM_eq, ↓sq2_some, ↓wVar_0, ↓wVar_s, ↓hNil_e, ↓hCons_e, ↓wDget_e, ↓wDget2_e, ↓wDput_m, ↓wSortIt_e, ↓wMake_e, ↓wIfS_m, ↓wSeq_m, ↓wAsg_m, ↓hName_e, ↓wC_e, ↓wNil_e, ↓wCons_e, ↓wTup_e, ↓wLst_e, ↓wOp_e, ↓wUn_e, ↓wIf_e, ↓wAndV_e, ↓wOrV_e, ↓wNotV_e, ↓wB_e, ↓wAnd_e, ↓wOr_e, ↓zNot_e, ↓zTru_e, ↓hCons_e, ↓hTup_e, ↓hSub_e, ↓wNext_m, ↓wDrop_m, ↓wRet_m, ↓wRetN_m, ↓wPar_m, ↓wCB_e, ↓wCall_e, ↓wIxk_e, ↓wSl_e, ↓wNoPart_e, ↓wPart_e, ↓wBM_e, ↓wBM0_e, ↓wChain_e, ↓wNever_e, ↓vSeq_e, ↓vEnum_e, ↓vRng1_e, ↓vRng2_e, vZip, ↓blK_bl, ↓tupK_tup, ↓pairK_2, ↓inK_int, ↓truD_bl, ↓truD_int, ↓truD_non, ↓truD_tup, ↓isn_non, ↓isn_int, ↓isn_bl, ↓isn_str, ↓isn_tup, ↓isn_ref, ↓Z.add_int, ↓add_tup, ↓add_ref, ↓intD_eq, ↓intD0_eq, ↓Z.mul_int, ↓Z.eq_int, ↓Z.ne_int, ↓Z.eq_bl, ↓ne_bl, ↓Z.eq_str, ↓Z.ne_str, ↓eq_non, ↓eq_tup, ↓eq_ref, ↓Z.neg_int, ↓seq_tup, ↓seq_ilst, ↓Z.ix_tup, ↓ix_int, ↓sqK_some, ↓ixK_0, ↓ixK_s, ↓tyK_some, ↓ty_non, ↓ty_bl, ↓ty_int, ↓ty_str, ↓ty_tup, ↓ty_ilst, ↓isi_eq, ↓isi2_eq, isiW, ↓len_tup, ↓intc_int, ↓abs_int, ↓gcd_int, ↓list_seq, ↓tuple_seq, ↓all_ref, ↓sum_ref, ↓Z.sl_tup, ↓sl_ilst, ↓sl_ref, ↓walk_tup, ↓walk_ilst, ↓walk_ref, ↓en_ref, start', List.map_cons, List.map_nil, List.cons_append, List.nil_append, List.append_nil, List.length_cons, List.length_nil, List.replicate, List.set_cons_zero, List.set_cons_succ, List.set_nil, List.getElem?_cons_zero, List.getElem?_cons_succ, wipeD, Nat.zero_add, Nat.reduceAdd, Nat.reduceSub, Nat.sub_self, Nat.sub_zero, true_and, and_true, if_true, if_false, Bool.not_true, Bool.not_false, ite_true, ite_false, Bool.false_eq_true, decide_true, decide_false, decide_eq_true_eq, Int.cast_ofNat_Int, reduceIte, Bool.not_eq_true', decide_eq_false_iff_not, Bool.and_true, Bool.true_and, Bool.and_false, Bool.false_and, Bool.or_true, Bool.true_or, Bool.or_false, Bool.false_or, beq_self_eq_true, bne_self_eq_false, not_true_eq_false, not_false_eq_true, String.reduceBEq, String.reduceBNe, Int.reduceToNat, Bool.true_eq_false, reduceCtorEq, Int.reduceEq, Int.reduceLT, Int.reduceLE, gt_iff_lt, ge_iff_le, ↓wBreak_m, ↓wCont_m, ↓wPar3_m, trioK_3, ↓wFldS_m, ↓wFld_e, ↓wChain_e, ↓wLam_e, ↓wIsE_e, ↓wRaise0_e, ↓wCallX_e, ↓wCallKX_e, ↓wYes_e, ↓wCallK_e, isDct_eq, dkK_eq, ↓wDnewT_e])
local macro_rules | `(tactic| walk_at "go") => `(tactic| ((first | with_reducible refine hld_i ?_ | skip); try walk_at "st"))
local macro_rules | `(tactic| walk_at "sx") => `(tactic| ((try simp only [sp_is_integer, sp_lowest, sp_exact, sp_is_number, sp_is_corner, sp_is_index, sp_is_face, sp_Net_init, sp_scaled, sp_determinant, sp_steps, sp_edge_of, sp_surpluses, sp_open_edges, sp_is_closed, sp_volume, sp_law_draw, sp_law_of, sp_law_same, sp_law_low, sp_law_add, sp_law_sub, sp_law_mul, sp_law_hand, sp_law_number, sp_law_ring, sp_law_loft, sp_law_det, sp_law_volume, sp_law_bag, sp_as_number, sp_compare, sp_loft, sp_law_handed, sp_law_lt, sp_law_area, sp_law_spots, sp_law_heights, sp_law_right, sp_law_any]); try walk_at "st"))
local macro_rules | `(tactic| walk_at "s0") => `(tactic| simp (implicitDefEqProofs := false) only [start', List.map_cons, List.map_nil, List.length_cons, List.length_nil, Nat.zero_add, Nat.reduceAdd, Nat.reduceSub, List.replicate, List.cons_append, List.nil_append])
local macro_rules | `(tactic| walk_at "rr") => `(tactic| repeat (first | with_reducible refine hld_i ?_ | walk_at "st"))
local macro_rules | `(tactic| walk_at "rx") => `(tactic| repeat (first | with_reducible refine hld_i ?_ | walk_at "st" | simp only [sp_is_integer, sp_lowest, sp_exact, sp_is_number, sp_is_corner, sp_is_index, sp_is_face, sp_Net_init, sp_scaled, sp_determinant, sp_steps, sp_edge_of, sp_surpluses, sp_open_edges, sp_is_closed, sp_volume, sp_law_draw, sp_law_of, sp_law_same, sp_law_low, sp_law_add, sp_law_sub, sp_law_mul, sp_law_hand, sp_law_number, sp_law_ring, sp_law_loft, sp_law_det, sp_law_volume, sp_law_bag, sp_as_number, sp_compare, sp_loft, sp_law_handed, sp_law_lt, sp_law_area, sp_law_spots, sp_law_heights, sp_law_right, sp_law_any]))
local macro_rules | `(tactic| walk_at "dw") => `(tactic| (refine draw (by first | exact up_same | assumption) (by assumption) (by omega) (by omega) (by omega) ?_))

variable {K : PySem.W.Frag}

abbrev cL (c : C3) : List D := [numD c.1, numD c.2.1, numD c.2.2]
section
variable {nx bk ct : S' → Lp → Prop} {rt : VK'}
theorem det_turn {a b c : C3} {f ak bi bj ci cj : Rat} {k : Int} {o5 o6 o7 : Option D} {L : Lp} (hak : atI (cL a) k = some (numD ak)) (hbi : atI (cL b) ((k + 1) % 3) = some (numD bi)) (hbj : atI (cL b) ((k + 2) % 3) = some (numD bj))
    (hci : atI (cL c) ((k + 1) % 3) = some (numD ci)) (hcj : atI (cL c) ((k + 2) % 3) = some (numD cj)) (oak : Ok1 ak) (obi : Ok1 bi) (obj : Ok1 bj) (oci : Ok1 ci) (ocj : Ok1 cj) (sf : Sm f)
    (h : ∀ i j m, nx [some (cD a), some (cD b), some (cD c), some (numD (f + ak * (bi * cj - bj * ci))), some (.int k), i, j, m] L) :
    t_law_det_1 K ⟨nx, rt, bk, ct⟩ [some (cD a), some (cD b), some (cD c), some (numD f), some (.int k), o5, o6, o7] L := by
  have hm := minor obi ocj obj oci
  unfold t_law_det_1
  walk_at "rr"
  refine atK_at hbi ?_
  walk_at "rr"
  refine atK_at hcj ?_
  walk_at "rr"
  refine ⟨bi, cj, rfl, rfl, ok1_sm obi, ok1_sm ocj, ?_⟩
  walk_at "rr"
  refine atK_at hbj ?_
  walk_at "rr"
  refine atK_at hci ?_
  walk_at "rr"
  refine ⟨bj, ci, rfl, rfl, ok1_sm obj, ok1_sm oci, ?_⟩
  walk_at "rr"
  refine ⟨_, _, rfl, rfl, ok2_sm (mul2 obi ocj) (by decide), ok2_sm (mul2 obj oci) (by decide), ?_⟩
  walk_at "rr"
  refine atK_at hak ?_
  walk_at "rr"
  refine ⟨ak, _, rfl, rfl, ok1_sm oak, ok2_sm hm (by decide), ?_⟩
  walk_at "rr"
  refine ⟨f, _, rfl, rfl, sf, ok3_sm (prod3 oak hm) (by decide), ?_⟩
  walk_at "rr"
  exact h _ _ _
end
/-- found behind k turns -/
def detP (a b c : C3) : Nat → Rat
  | 0 => 0
  | 1 => a.1 * (b.2.1 * c.2.2 - b.2.2 * c.2.1)
  | 2 => a.1 * (b.2.1 * c.2.2 - b.2.2 * c.2.1) + a.2.1 * (b.2.2 * c.1 - b.1 * c.2.2)
  | _ => det3 a b c
theorem detW {a b c : C3} (ha : Ok3 a) (hb : Ok3 b) (hc : Ok3 c) : ∀ k, Wd (27720 * (27720 * 27720)) (2 ^ 183) (detP a b c k) := by
  obtain ⟨a1, a2, a3⟩ := ha
  obtain ⟨b1, b2, b3⟩ := hb
  obtain ⟨c1, c2, c3⟩ := hc
  have p1 := prod3 a1 (minor b2 c3 b3 c2)
  have p2 := prod3 a2 (minor b3 c1 b1 c3)
  have p3 := prod3 a3 (minor b1 c2 b2 c1)
  have l1 : 2 ^ 181 + 2 ^ 181 ≤ 2 ^ 183 := by decide
  have l2 : 2 ^ 181 + 2 ^ 181 + 2 ^ 181 ≤ 2 ^ 183 := by decide
  have l0 : 2 ^ 181 ≤ 2 ^ 183 := by decide
  intro k
  match k with
  | 0 => exact ⟨0, by simp [detP], by decide⟩
  | 1 => exact wd_le p1 l0
  | 2 => exact wd_le (wd_add (by decide) p1 p2) l1
  | n + 3 => exact wd_le (wd_add (by decide) (wd_add (by decide) p1 p2) p3) l2

theorem rd_law_det : RD_law_det K := by
  intro ds L Q E h
  unfold sp_law_det at h
  split at h
  · obtain ⟨a, b, c, rfl, rfl, rfl, ha, hb, hc, h⟩ := h
    have W := detW ha hb hc
    have S : ∀ k, Sm (detP a b c k) := fun k => ok3_sm (W k) (by decide)
    obtain ⟨a1, a2, a3⟩ := ha
    obtain ⟨b1, b2, b3⟩ := hb
    obtain ⟨c1, c2, c3⟩ := hc
    unfold t_law_det
    walk_at "s0"
    walk_at "rr"
    refine ⟨by decide, by decide, ?_⟩
    refine for_r (fun i τ' L' => (∃ o4 o5 o6 o7, τ' = [some (cD a), some (cD b), some (cD c), some (numD (detP a b c i)), o4, o5, o6, o7]) ∧ L' = L) ⟨⟨_, _, _, _, rfl⟩, rfl⟩ (fun _ _ _ _ _ => trivial) ?_ ?_
    · rintro i τ' L' hi ⟨⟨o4, o5, o6, o7, rfl⟩, rfl⟩
      have hi3 : i = 0 ∨ i = 1 ∨ i = 2 := by omega
      walk_at "rr"
      rcases hi3 with rfl | rfl | rfl
      · refine det_turn (ak := a.1) (bi := b.2.1) (bj := b.2.2) (ci := c.2.1) (cj := c.2.2) rfl rfl rfl rfl rfl a1 b2 b3 c2 c3 (S 0) fun i j m => ?_
        have e : detP a b c 0 + a.1 * (b.2.1 * c.2.2 - b.2.2 * c.2.1) = detP a b c 1 := Rat.zero_add _
        rw [e]
        exact .mk ⟨⟨_, _, _, _, rfl⟩, rfl⟩
      · refine det_turn (ak := a.2.1) (bi := b.2.2) (bj := b.1) (ci := c.2.2) (cj := c.1) rfl rfl rfl rfl rfl a2 b3 b1 c3 c1 (S 1) fun i j m => ?_
        exact .mk ⟨⟨_, _, _, _, rfl⟩, rfl⟩
      · refine det_turn (ak := a.2.2) (bi := b.1) (bj := b.2.1) (ci := c.1) (cj := c.2.1) rfl rfl rfl rfl rfl a3 b1 b2 c1 c2 (S 2) fun i j m => ?_
        exact .mk ⟨⟨_, _, _, _, rfl⟩, rfl⟩
    · rintro τ' L' ⟨⟨o4, o5, o6, o7, rfl⟩, rfl⟩
      walk_at "rr"
      exact .mk h
  · exact h.elim
theorem at_c {cs : List C3} {i : Int} {m : Int} (hm : m = cs.length) (h : 0 ≤ i ∧ i < m) {P : D → Prop} (p : P (cD (cAt cs i))) : atK (some (cs.map cD)) i P := by
  obtain ⟨n, rfl⟩ : ∃ n : Nat, i = n := ⟨i.toNat, by omega⟩
  have hn : n < cs.length := by omega
  refine atK_at (x := cD (cs[n]'hn)) ?_ ?_
  · rw [atN (by simpa using hn)]
    simp
  · unfold cAt at p
    rw [Int.toNat_natCast, List.getElem?_eq_getElem hn] at p
    exact p
theorem ok_at {cs : List C3} {i : Int} (h : 0 ≤ i ∧ i < cs.length) (hc : ∀ c ∈ cs, Ok3 c) : Ok3 (cAt cs i) := by
  obtain ⟨n, rfl⟩ : ∃ n : Nat, i = n := ⟨i.toNat, by omega⟩
  have hn : n < cs.length := by omega
  unfold cAt
  rw [Int.toNat_natCast, List.getElem?_eq_getElem hn]
  exact hc _ (List.getElem_mem hn)
theorem det3_w {a b c : C3} (ha : Ok3 a) (hb : Ok3 b) (hc : Ok3 c) : Wd (27720 * (27720 * 27720)) (2 ^ 183) (det3 a b c) := detW ha hb hc 3
theorem vol6_snoc {cs : List C3} {fs : List F3} {f : F3} : vol6 cs (fs ++ [f]) = vol6 cs fs + det3 (cAt cs f.1) (cAt cs f.2.1) (cAt cs f.2.2) := by
  unfold vol6
  rw [List.foldl_append]
  rfl
theorem fold_w {cs : List C3} (hc : ∀ c ∈ cs, Ok3 c) : ∀ (fs : List F3) (s : Rat) (k : Nat), Wd (27720 * (27720 * 27720)) (2 ^ 183 * k) s → (∀ f ∈ fs, InF cs.length f) → Wd (27720 * (27720 * 27720)) (2 ^ 183 * (k + fs.length)) (fs.foldl (fun s f => s + det3 (cAt cs f.1) (cAt cs f.2.1) (cAt cs f.2.2)) s)
  | [], s, k, h, _ => h
  | f :: fs, s, k, h, hf => by
    obtain ⟨h1, h2, h3⟩ := hf f (by simp)
    have d := det3_w (ok_at h1 hc) (ok_at h2 hc) (ok_at h3 hc)
    have := fold_w hc fs _ (k + 1) (wd_le (wd_add (by decide) h d) (by rw [Nat.mul_succ]; exact Nat.le_refl _)) fun g hg => hf g (by simp [hg])
    rw [List.length_cons, List.foldl_cons, show k + (fs.length + 1) = k + 1 + fs.length by omega]
    exact this
theorem vol6_w {cs : List C3} {fs : List F3} (hc : ∀ c ∈ cs, Ok3 c) (hf : ∀ f ∈ fs, InF cs.length f) (hl : fs.length ≤ 90) : Wd (27720 * (27720 * 27720)) (2 ^ 190) (vol6 cs fs) := by
  have := fold_w hc fs 0 1 ⟨0, by simp, by decide⟩ hf
  refine wd_le this ?_
  refine Nat.le_trans (Nat.mul_le_mul_left _ (show 1 + fs.length ≤ 128 by omega)) (by decide)
theorem sm6 : Sm (mkRat 1 6) := ⟨by decide, by decide⟩

theorem rd_law_volume : RD_law_volume K := by
  intro ds L Q E h
  unfold sp_law_volume at h
  split at h
  · obtain ⟨cs, fs, rfl, ⟨hc, hf, lc, lf⟩, h⟩ := h
    unfold t_law_volume
    walk_at "s0"
    walk_at "rr"
    have V : ∀ i, Sm (vol6 cs (fs.take i)) := fun i => ok3_sm (vol6_w hc (fun f hf' => hf f (List.mem_of_mem_take hf')) (by rw [List.length_take]; omega)) (by decide)
    refine for_t fs fD (fun i τ' L' => (∃ o2, τ' = [some (pairD cs fs), some (numD (vol6 cs (fs.take i))), o2]) ∧ L' = L) ⟨⟨_, rfl⟩, rfl⟩ (fun _ _ _ _ _ => trivial) ?_ ?_
    · rintro i f τ' L' hz ⟨⟨o2, rfl⟩, rfl⟩
      obtain ⟨h1, h2, h3⟩ := hf f (List.mem_of_getElem? hz)
      unfold t_law_volume_1
      walk_at "rr"
      refine at_c rfl h1 ?_
      walk_at "rr"
      refine at_c rfl h2 ?_
      walk_at "rr"
      refine at_c rfl h3 ?_
      walk_at "rr"
      have o1 := ok_at h1 hc
      have o2' := ok_at h2 hc
      have o3 := ok_at h3 hc
      refine ⟨_, _, _, rfl, rfl, rfl, o1, o2', o3, ?_⟩
      walk_at "rr"
      refine ⟨_, _, rfl, rfl, V i, ok3_sm (det3_w o1 o2' o3) (by decide), ?_⟩
      walk_at "rr"
      have et : vol6 cs (fs.take i) + det3 (cAt cs f.1) (cAt cs f.2.1) (cAt cs f.2.2) = vol6 cs (fs.take (i + 1)) := by
        rw [List.take_add_one, hz]
        exact vol6_snoc.symm
      rw [et]
      exact .mk ⟨⟨_, rfl⟩, rfl⟩
    · rintro τ' L' ⟨⟨o2, rfl⟩, rfl⟩
      rw [List.take_length]
      unfold t_law_volume_2
      walk_at "rr"
      exact ⟨vol6 cs fs, mkRat 1 6, rfl, rfl, ok3_sm (vol6_w hc hf lf) (by decide), sm6, .mk h⟩
  · exact h.elim
end Hd

open PySem PySem.Spec PyProof.Rows L2 Z
namespace Hd
local macro_rules | `(tactic| walk_at "st") => `(tactic| simp (implicitDefEqProofs := false) only [↓seqD_up, ↓seqL_up, ↓len_ilst, ↓len_up, ↓truD_ilst, up_up, List.length_map, ↓wFor_m, ↓frzK_up, ↓frzK_upi, ↓wFz_e, ↓wFg_e, ↓wLstF_e, ↓addF_int, ↓addF_l, ↓addF_tup, ↓addF_str, ↓mulF_int, ↓mulF_l, ↓wSlF_e, ↓slF_tup, ↓slF_str, ↓slF_l, ↓slF_scr, ↓slF_ref, ↓listF_eq, ↓listdF_eq, ↓sortedF_eq, ↓allF_eq, ↓sumF_eq, ↓extF_eq, ↓vEnumF_e, ↓enF_l, ↓fldF_obj, ↓fldF_ref, ↓wFldF_e, ↓wLcF_e, ↓pName_e, ↓pNil_e, ↓pCons_e, ↓pTup_e, ↓gK_some, ↓obind_e, ↓seqL_ilst, ↓addM_eq, ↓sq2_some, ↓wVar_0, ↓wVar_s, ↓hNil_e, ↓hCons_e, ↓wDget_e, ↓wDget2_e, ↓wDput_m, ↓wSortIt_e, ↓wMake_e, ↓wIfS_m, ↓wSeq_m, ↓wAsg_m, ↓hName_e, ↓wC_e, ↓wNil_e, ↓wCons_e, ↓wTup_e, ↓wLst_e, ↓wOp_e, ↓wUn_e, ↓wIf_e, ↓wAndV_e, ↓wOrV_e, ↓wNotV_e, ↓wB_e, ↓wAnd_e, ↓wOr_e, ↓zNot_e, ↓zTru_e, ↓hCons_e, ↓hTup_e, ↓hSub_e, ↓wNext_m, ↓wDrop_m, ↓wRet_m, ↓wRetN_m, ↓wPar_m, ↓wCB_e, ↓wCall_e, ↓wIxk_e, ↓wSl_e, ↓wNoPart_e, ↓wPart_e, ↓wBM_e, ↓wBM0_e, ↓wChain_e, ↓wNever_e, ↓vSeq_e, ↓vEnum_e, ↓vRng1_e, ↓vRng2_e, vZip, ↓blK_bl, ↓tupK_tup, ↓pairK_2, ↓inK_int, ↓truD_bl, ↓truD_int, ↓truD_non, ↓truD_tup, ↓isn_non, ↓isn_int, ↓isn_bl, ↓isn_str, ↓isn_tup, ↓isn_ref, ↓Z.add_int, ↓add_tup, ↓add_ref, ↓intD_eq, ↓intD0_eq, ↓Z.mul_int, ↓Z.eq_int, ↓Z.ne_int, ↓Z.eq_bl, ↓ne_bl, ↓Z.eq_str, ↓Z.ne_str, ↓eq_non, ↓eq_tup, ↓eq_ref, ↓Z.neg_int, ↓seq_tup, ↓seq_ilst, ↓Z.ix_tup, ↓ix_int, ↓sqK_some, ↓ixK_0, ↓ixK_s, ↓tyK_some, ↓ty_non, ↓ty_bl, ↓ty_int, ↓ty_str, ↓ty_tup, ↓ty_ilst, ↓isi_eq, ↓isi2_eq, isiW, ↓len_tup, ↓intc_int, ↓abs_int, ↓gcd_int, ↓list_seq, ↓tuple_seq, ↓all_ref, ↓sum_ref, ↓Z.sl_tup, ↓sl_ilst, ↓sl_ref, ↓walk_tup, ↓walk_ilst, ↓walk_ref, ↓en_ref, start', List.map_cons, List.map_nil, List.cons_append, List.nil_append, List.append_nil, List.length_cons, List.length_nil, List.replicate, List.set_cons_zero, List.set_cons_succ, List.set_nil, List.getElem?_cons_zero, List.getElem?_cons_succ, wipeD, Nat.zero_add, Nat.reduceAdd, Nat.reduceSub, Nat.sub_self, Nat.sub_zero, true_and, and_true, if_true, if_false, Bool.not_true, Bool.not_false, ite_true, ite_false, Bool.false_eq_true, decide_true, decide_false, decide_eq_true_eq, Int.cast_ofNat_Int, reduceIte, Bool.not_eq_true', decide_eq_false_iff_not, Bool.and_true, Bool.true_and, Bool.and_false, Bool.false_and, Bool.or_true, Bool.true_or, Bool.or_false, Bool.false_or, beq_self_eq_true, bne_self_eq_false, not_true_eq_false, not_false_eq_true, String.reduceBEq, String.reduceBNe, Int.reduceToNat, Bool.true_eq_false, reduceCtorEq, Int.reduceEq, Int.reduceLT, Int.reduceLE, gt_iff_lt, ge_iff_le, ↓wBreak_m, ↓wCont_m, ↓wPar3_m, trioK_3, ↓wFldS_m, ↓wFld_e, ↓wChain_e, ↓wLam_e, ↓wIsE_e, ↓wRaise0_e, ↓wCallX_e, ↓wCallKX_e, ↓wYes_e, ↓wCallK_e, isDct_eq, dkK_eq, ↓wDnewT_e])
local macro_rules | `(tactic| walk_at "go") => `(tactic| ((first | with_reducible refine hld_i ?_ | skip); try walk_at "st"))
local macro_rules | `(tactic| walk_at "sx") => `(tactic| ((try simp only [sp_is_integer, sp_lowest, sp_exact, sp_is_number, sp_is_corner, sp_is_index, sp_is_face, sp_Net_init, sp_scaled, sp_determinant, sp_steps, sp_edge_of, sp_surpluses, sp_open_edges, sp_is_closed, sp_volume, sp_law_draw, sp_law_of, sp_law_same, sp_law_low, sp_law_add, sp_law_sub, sp_law_mul, sp_law_hand, sp_law_number, sp_law_ring, sp_law_loft, sp_law_det, sp_law_volume, sp_law_bag, sp_as_number, sp_compare, sp_loft, sp_law_handed, sp_law_lt, sp_law_area, sp_law_spots, sp_law_heights, sp_law_right, sp_law_any]); try walk_at "st"))
local macro_rules | `(tactic| walk_at "s0") => `(tactic| simp (implicitDefEqProofs := false) only [start', List.map_cons, List.map_nil, List.length_cons, List.length_nil, Nat.zero_add, Nat.reduceAdd, Nat.reduceSub, List.replicate, List.cons_append, List.nil_append])
local macro_rules | `(tactic| walk_at "rr") => `(tactic| repeat (first | with_reducible refine hld_i ?_ | walk_at "st"))
local macro_rules | `(tactic| walk_at "rx") => `(tactic| repeat (first | with_reducible refine hld_i ?_ | walk_at "st" | simp only [sp_is_integer, sp_lowest, sp_exact, sp_is_number, sp_is_corner, sp_is_index, sp_is_face, sp_Net_init, sp_scaled, sp_determinant, sp_steps, sp_edge_of, sp_surpluses, sp_open_edges, sp_is_closed, sp_volume, sp_law_draw, sp_law_of, sp_law_same, sp_law_low, sp_law_add, sp_law_sub, sp_law_mul, sp_law_hand, sp_law_number, sp_law_ring, sp_law_loft, sp_law_det, sp_law_volume, sp_law_bag, sp_as_number, sp_compare, sp_loft, sp_law_handed, sp_law_lt, sp_law_area, sp_law_spots, sp_law_heights, sp_law_right, sp_law_any]))
local macro_rules | `(tactic| walk_at "dw") => `(tactic| (refine draw (by first | exact up_same | assumption) (by assumption) (by omega) (by omega) (by omega) ?_))

variable {K : PySem.W.Frag}
theorem Same.mono {L L' : Lp} (l : Le L L') : ∀ {n : Nat} {d e : D}, Same n L d e → Same n L' d e
  | 0, _, _, h => h.elim
  | n + 1, d, e, h => by
    have go : ∀ {ds es : List D}, All2 (Same n L) ds es → All2 (Same n L') ds es := fun {ds es} r => by
      induction r with
      | nil => exact .nil
      | cons a _ ih => exact .cons (Same.mono l a) ih
    unfold Same at h ⊢
    split at h
    · exact h
    · exact h
    · exact h
    · exact ⟨h.1, go h.2⟩
    · exact ⟨h.1, go h.2⟩
    · obtain ⟨ds, h1, h3, h4⟩ := h
      exact ⟨ds, l _ _ h1, h3, go h4⟩
    · exact h.elim
theorem zpD_eq : ∀ ds es : List D, zpD ds es = (ds.zip es).map fun p => .tup [p.1, p.2]
  | [], _ => rfl
  | _ :: _, [] => rfl
  | d :: ds, e :: es => congrArg (D.tup [d, e] :: ·) (zpD_eq ds es)
theorem zip_same {R : D → D → Prop} : ∀ {ds es : List D}, All2 R ds es → ∀ p ∈ ds.zip es, R p.1 p.2
  | _, _, .nil, p, h => by cases h
  | _, _, .cons a r, p, h => by
    rcases List.mem_cons.mp h with rfl | h
    · exact a
    · exact zip_same r p h

theorem same_all {n : Nat} {ds es : List D} {L : Lp} {Q : VK'} {o0 o1 o2 o3 : Option D} {st : Lp → Prop} (hz : ds.length ≤ sizeLine) (hs : All2 (Same n L) ds es) (h : Q (.bl true) L) (hst : ∀ L', Le L L' → st L') :
    lcF (pTup 2 (pCons (pName 2) (pCons (pName 3) pNil))) wYes (wCall (sp_law_sameN n) [] X0 (wCons (wVar 2) (wCons (wVar 3) wNil))) [2, 3] [o0, o1, o2, o3] (fun d L1 => allF (fun bs => bs.all id) [d] L1 fun d L1 => Dn (Q d) L1) (zpD ds es) st L := by
  rw [zpD_eq]
  refine lcF_f (ds.zip es) (fun p => .tup [p.1, p.2]) (fun _ => .bl true) (by rw [List.length_zip]; omega) hst (fun z Q' hm hq => ?_) ?_
  · walk_at "rr"
    exact ⟨zip_same hs z hm, hq⟩
  · walk_at "rr"
    refine ⟨(ds.zip es).map fun _ => true, by rw [List.map_map]; rfl, ?_⟩
    have : ((ds.zip es).map fun _ => true).all id = true := by simp
    rw [this]
    exact .mk h
abbrev sameS : List Str := ["_law_found", "_law_due", "_law_part_a", "_law_part_b"]
theorem rd_same_flat {n : Nat} {d e : D} {L : Lp} {Q : VK'} (hd : (∃ i, d = .int i ∧ e = .int i) ∨ (∃ c, d = .bl c ∧ e = .bl c) ∨ ∃ z, d = .str z ∧ e = .str z) (h : Q (.bl true) L) : t_law_same K (sp_law_sameN n) ⟨fun _ L1 => Dn (Q .non) L1, fun d L1 => Dn (Q d) L1, fun _ _ => False, fun _ _ => False⟩ (start' sameS [d, e]) L := by
  rcases hd with ⟨i, rfl, rfl⟩ | ⟨c, rfl, rfl⟩ | ⟨z, rfl, rfl⟩
  all_goals
    unfold t_law_same t_law_same_1 t_law_same_2 t_law_same_3 t_law_same_4
    unfold sameS
    walk_at "s0"
    walk_at "rr"
    refine ⟨by decide, by decide, ?_⟩
    try walk_at "rr"
    rw [if_neg (by decide)]
    walk_at "rr"
    refine ⟨by decide, by decide, ?_⟩
    try walk_at "rr"
    try rw [if_neg (by decide)]
    walk_at "rr"
    exact .mk h
theorem rd_same_tup {n : Nat} {ds es : List D} {L : Lp} {Q : VK'} (hz : ds.length ≤ sizeLine) (hs : All2 (Same n L) ds es) (h : Q (.bl true) L) : t_law_same K (sp_law_sameN n) ⟨fun _ L1 => Dn (Q .non) L1, fun d L1 => Dn (Q d) L1, fun _ _ => False, fun _ _ => False⟩ (start' sameS [.tup ds, .tup es]) L := by
  have hl := hs.length
  unfold t_law_same t_law_same_1 t_law_same_2 t_law_same_3 t_law_same_4
  unfold sameS
  walk_at "s0"
  walk_at "rr"
  refine ⟨by decide, by decide, ?_⟩
  try walk_at "rr"
  rw [if_pos (by decide)]
  walk_at "rr"
  rw [if_pos (by omega)]
  walk_at "rr"
  exact ⟨rfl, same_all hz hs h fun _ _ => ⟨rfl, rfl⟩⟩
theorem rd_same_ilst {n : Nat} {ds es : List D} {L : Lp} {Q : VK'} (hz : ds.length ≤ sizeLine) (hs : All2 (Same n L) ds es) (h : Q (.bl true) L) : t_law_same K (sp_law_sameN n) ⟨fun _ L1 => Dn (Q .non) L1, fun d L1 => Dn (Q d) L1, fun _ _ => False, fun _ _ => False⟩ (start' sameS [.ilst ds, .ilst es]) L := by
  have hl := hs.length
  unfold t_law_same t_law_same_1 t_law_same_2 t_law_same_3 t_law_same_4
  unfold sameS
  walk_at "s0"
  walk_at "rr"
  refine ⟨by decide, by decide, ?_⟩
  try walk_at "rr"
  rw [if_pos (by decide)]
  walk_at "rr"
  rw [if_pos (by omega)]
  walk_at "rr"
  exact ⟨rfl, same_all hz hs h fun _ _ => ⟨rfl, rfl⟩⟩
theorem rd_same_ref {n : Nat} {a : Addr} {ds es : List D} {L : Lp} {Q : VK'} (ha : L a = some (.lst ds)) (hz : ds.length ≤ sizeLine) (hs : All2 (Same n L) ds es) (h : Q (.bl true) L) : t_law_same K (sp_law_sameN n) ⟨fun _ L1 => Dn (Q .non) L1, fun d L1 => Dn (Q d) L1, fun _ _ => False, fun _ _ => False⟩ (start' sameS [.ref a, .ilst es]) L := by
  have hl := hs.length
  unfold t_law_same t_law_same_1 t_law_same_2 t_law_same_3 t_law_same_4
  unfold sameS
  walk_at "s0"
  walk_at "rr"
  refine ⟨by decide, by decide, ?_⟩
  try walk_at "rr"
  rw [if_pos (by decide)]
  walk_at "rr"
  simp (implicitDefEqProofs := false) only [↓ty_ref ha, ↓tyK_some]
  walk_at "rr"
  rw [len_seq (seq_ref ha)]
  walk_at "rr"
  rw [if_pos (by omega)]
  walk_at "rr"
  rw [seq_ref ha]
  dsimp only
  exact ⟨rfl, same_all hz hs h fun L' l => ⟨seq_ref (l _ _ ha), rfl⟩⟩
theorem rd_law_same (n : Nat) : RD_law_same K (sp_law_sameN n) n := by
  intro ds L Q E h
  unfold sp_law_sameN at h
  split at h
  · rename_i d e
    obtain ⟨hs, h⟩ := h
    unfold Same at hs
    split at hs
    · subst hs
      exact rd_same_flat (.inl ⟨_, rfl, rfl⟩) h
    · subst hs
      exact rd_same_flat (.inr (.inl ⟨_, rfl, rfl⟩)) h
    · subst hs
      exact rd_same_flat (.inr (.inr ⟨_, rfl, rfl⟩)) h
    · exact rd_same_tup hs.1 hs.2 h
    · exact rd_same_ilst hs.1 hs.2 h
    · obtain ⟨xs, h1, h3, h4⟩ := hs
      exact rd_same_ref h1 h3 h4 h
    · exact hs.elim
  · exact h.elim
end Hd

open PySem PySem.Spec PyProof.Rows L2 Z
namespace Hd
local macro_rules | `(tactic| walk_at "st") => `(tactic| simp (implicitDefEqProofs := false) only [↓seqD_up, ↓seqL_up, ↓len_ilst, ↓len_up, ↓truD_ilst, up_up, List.length_map, ↓wFor_m, ↓frzK_up, ↓frzK_upi, ↓wFz_e, ↓wFg_e, ↓wLstF_e, ↓addF_int, ↓addF_l, ↓addF_tup, ↓addF_str, ↓mulF_int, ↓mulF_l, ↓wSlF_e, ↓slF_tup, ↓slF_str, ↓slF_l, ↓slF_scr, ↓slF_ref, ↓listF_eq, ↓listdF_eq, ↓sortedF_eq, ↓allF_eq, ↓sumF_eq, ↓extF_eq, ↓vEnumF_e, ↓enF_l, ↓fldF_obj, ↓fldF_ref, ↓wFldF_e, ↓wLcF_e, ↓pName_e, ↓pNil_e, ↓pCons_e, ↓pTup_e, ↓gK_some, ↓obind_e, ↓seqL_ilst, ↓addM_eq, ↓sq2_some, ↓wVar_0, ↓wVar_s, ↓hNil_e, ↓hCons_e, ↓wDget_e, ↓wDget2_e, ↓wDput_m, ↓wSortIt_e, ↓wMake_e, ↓wIfS_m, ↓wSeq_m, ↓wAsg_m, ↓hName_e, ↓wC_e, ↓wNil_e, ↓wCons_e, ↓wTup_e, ↓wLst_e, ↓wOp_e, ↓wUn_e, ↓wIf_e, ↓wAndV_e, ↓wOrV_e, ↓wNotV_e, ↓wB_e, ↓wAnd_e, ↓wOr_e, ↓zNot_e, ↓zTru_e, ↓hCons_e, ↓hTup_e, ↓hSub_e, ↓wNext_m, ↓wDrop_m, ↓wRet_m, ↓wRetN_m, ↓wPar_m, ↓wCB_e, ↓wCall_e, ↓wIxk_e, ↓wSl_e, ↓wNoPart_e, ↓wPart_e, ↓wBM_e, ↓wBM0_e, ↓wChain_e, ↓wNever_e, ↓vSeq_e, ↓vEnum_e, ↓vRng1_e, ↓vRng2_e, vZip, ↓blK_bl, ↓tupK_tup, ↓pairK_2, ↓inK_int, ↓truD_bl, ↓truD_int, ↓truD_non, ↓truD_tup, ↓isn_non, ↓isn_int, ↓isn_bl, ↓isn_str, ↓isn_tup, ↓isn_ref, ↓Z.add_int, ↓add_tup, ↓add_ref, ↓intD_eq, ↓intD0_eq, ↓Z.mul_int, ↓Z.eq_int, ↓Z.ne_int, ↓Z.eq_bl, ↓ne_bl, ↓Z.eq_str, ↓Z.ne_str, ↓eq_non, ↓eq_tup, ↓eq_ref, ↓Z.neg_int, ↓seq_tup, ↓seq_ilst, ↓Z.ix_tup, ↓ix_int, ↓sqK_some, ↓ixK_0, ↓ixK_s, ↓tyK_some, ↓ty_non, ↓ty_bl, ↓ty_int, ↓ty_str, ↓ty_tup, ↓ty_ilst, ↓isi_eq, ↓isi2_eq, isiW, ↓len_tup, ↓intc_int, ↓abs_int, ↓gcd_int, ↓list_seq, ↓tuple_seq, ↓all_ref, ↓sum_ref, ↓Z.sl_tup, ↓sl_ilst, ↓sl_ref, ↓walk_tup, ↓walk_ilst, ↓walk_ref, ↓en_ref, start', List.map_cons, List.map_nil, List.cons_append, List.nil_append, List.append_nil, List.length_cons, List.length_nil, List.replicate, List.set_cons_zero, List.set_cons_succ, List.set_nil, List.getElem?_cons_zero, List.getElem?_cons_succ, wipeD, Nat.zero_add, Nat.reduceAdd, Nat.reduceSub, Nat.sub_self, Nat.sub_zero, true_and, and_true, if_true, if_false, Bool.not_true, Bool.not_false, ite_true, ite_false, Bool.false_eq_true, decide_true, decide_false, decide_eq_true_eq, Int.cast_ofNat_Int, reduceIte, Bool.not_eq_true', decide_eq_false_iff_not, Bool.and_true, Bool.true_and, Bool.and_false, Bool.false_and, Bool.or_true, Bool.true_or, Bool.or_false, Bool.false_or, beq_self_eq_true, bne_self_eq_false, not_true_eq_false, not_false_eq_true, String.reduceBEq, String.reduceBNe, Int.reduceToNat, Bool.true_eq_false, reduceCtorEq, Int.reduceEq, Int.reduceLT, Int.reduceLE, gt_iff_lt, ge_iff_le, ↓wBreak_m, ↓wCont_m, ↓wPar3_m, trioK_3, ↓wFldS_m, ↓wFld_e, ↓wChain_e, ↓wLam_e, ↓wIsE_e, ↓wRaise0_e, ↓wCallX_e, ↓wCallKX_e, ↓wYes_e, ↓wCallK_e, isDct_eq, dkK_eq, ↓wDnewT_e])
local macro_rules | `(tactic| walk_at "go") => `(tactic| ((first | with_reducible refine hld_i ?_ | skip); try walk_at "st"))
local macro_rules | `(tactic| walk_at "sx") => `(tactic| ((try simp only [sp_is_integer, sp_lowest, sp_exact, sp_is_number, sp_is_corner, sp_is_index, sp_is_face, sp_Net_init, sp_scaled, sp_determinant, sp_steps, sp_edge_of, sp_surpluses, sp_open_edges, sp_is_closed, sp_volume, sp_law_draw, sp_law_of, sp_law_same, sp_law_low, sp_law_add, sp_law_sub, sp_law_mul, sp_law_hand, sp_law_number, sp_law_ring, sp_law_loft, sp_law_det, sp_law_volume, sp_law_bag, sp_as_number, sp_compare, sp_loft, sp_law_handed, sp_law_lt, sp_law_area, sp_law_spots, sp_law_heights, sp_law_right, sp_law_any]); try walk_at "st"))
local macro_rules | `(tactic| walk_at "s0") => `(tactic| simp (implicitDefEqProofs := false) only [start', List.map_cons, List.map_nil, List.length_cons, List.length_nil, Nat.zero_add, Nat.reduceAdd, Nat.reduceSub, List.replicate, List.cons_append, List.nil_append])
local macro_rules | `(tactic| walk_at "rr") => `(tactic| repeat (first | with_reducible refine hld_i ?_ | walk_at "st"))
local macro_rules | `(tactic| walk_at "rx") => `(tactic| repeat (first | with_reducible refine hld_i ?_ | walk_at "st" | simp only [sp_is_integer, sp_lowest, sp_exact, sp_is_number, sp_is_corner, sp_is_index, sp_is_face, sp_Net_init, sp_scaled, sp_determinant, sp_steps, sp_edge_of, sp_surpluses, sp_open_edges, sp_is_closed, sp_volume, sp_law_draw, sp_law_of, sp_law_same, sp_law_low, sp_law_add, sp_law_sub, sp_law_mul, sp_law_hand, sp_law_number, sp_law_ring, sp_law_loft, sp_law_det, sp_law_volume, sp_law_bag, sp_as_number, sp_compare, sp_loft, sp_law_handed, sp_law_lt, sp_law_area, sp_law_spots, sp_law_heights, sp_law_right, sp_law_any]))
local macro_rules | `(tactic| walk_at "dw") => `(tactic| (refine draw (by first | exact up_same | assumption) (by assumption) (by omega) (by omega) (by omega) ?_))

variable {K : PySem.W.Frag}

theorem All2.getr {α β : Type} {R : α → β → Prop} : ∀ {as : List α} {bs : List β} {i : Nat} {b : β}, All2 R as bs → bs[i]? = some b → ∃ a, as[i]? = some a ∧ R a b
  | _, _, i, _, .nil, h => by simp at h
  | _, _, 0, _, .cons x r, h => by simp at h; subst h; exact ⟨_, rfl, x⟩
  | _, _, i + 1, _, .cons x r, h => by
    obtain ⟨a, h1, h2⟩ := All2.getr r (i := i) (by simpa using h)
    exact ⟨a, by simpa using h1, h2⟩
theorem All2.memr {α β : Type} {R : α → β → Prop} : ∀ {as : List α} {bs : List β} {p : α × β}, All2 R as bs → p ∈ as.zip bs → R p.1 p.2
  | _, _, p, .nil, h => by cases h
  | _, _, p, .cons x r, h => by
    rcases List.mem_cons.mp h with rfl | h
    · exact x
    · exact All2.memr r h
theorem All2.zipl {α β : Type} {R : α → β → Prop} : ∀ {as : List α} {bs : List β}, All2 R as bs → (as.zip bs).map (·.1) = as
  | _, _, .nil => rfl
  | _, _, .cons x r => congrArg (_ :: ·) (All2.zipl r)
theorem All2.zipr {α β : Type} {R : α → β → Prop} : ∀ {as : List α} {bs : List β}, All2 R as bs → (as.zip bs).map (·.2) = bs
  | _, _, .nil => rfl
  | _, _, .cons x r => congrArg (_ :: ·) (All2.zipr r)
theorem den_le {d b : Nat} {q : Rat} (hd : 0 < d) (h : Wd d b q) : q.den ≤ d := by
  obtain ⟨x, rfl, _⟩ := h
  rw [Rat.den_mkRat, if_neg (by omega)]
  exact Nat.div_le_self _ _
theorem den_big {q : Rat} (h : Ok1 q) : q.den < 2 ^ 8500 := Nat.lt_of_le_of_lt (den_le (by decide) h) (Nat.lt_of_lt_of_le (show 27720 < 2 ^ 60 by decide) (Nat.pow_le_pow_right (by decide) (by decide)))
theorem rd_Net_init (hc : Cls K (He.ga K "Net")) (n1 : NoAttr K (He.ga K "Net") "corners") (n2 : NoAttr K (He.ga K "Net") "faces") : RD_Net_init K := by
  intro ds L Q E h
  unfold sp_Net_init at h
  split at h
  · rename_i x a b
    obtain ⟨cs, fs, dcs, hg, hA, ha, hb, hx, h⟩ := h
    have hl := hA.length
    unfold t_Net_init
    walk_at "s0"
    walk_at "rr"
    unfold enF
    rw [ha, sqK_some]
    refine ⟨fun i τ' L' => (∃ o3 o4 o5 o6, τ' = [some (.ref x), some a, some b, o3, o4, o5, o6]) ∧ L' = L, ⟨⟨_, _, _, _, rfl⟩, rfl⟩, fun i τ' L' _ e => by rw [e.2]; exact ha, ?_, ?_⟩
    · rintro i y τ' L' hy ⟨⟨o3, o4, o5, o6, rfl⟩, rfl⟩
      obtain ⟨d, hd, rfl⟩ := en_at hy
      obtain ⟨c, _, hcd⟩ := hA.getr hd
      unfold t_Net_init_1
      walk_at "rr"
      refine ⟨c, hcd, ?_⟩
      walk_at "rr"
      exact .mk ⟨⟨_, _, _, _, rfl⟩, rfl⟩
    · rintro τ' L' ⟨⟨o3, o4, o5, o6, rfl⟩, rfl⟩
      walk_at "rr"
      unfold t_Net_init_2
      walk_at "rr"
      unfold enF
      rw [hb, sqK_some]
      refine ⟨fun i τ' L'' => (∃ o3 o4 o5 o6, τ' = [some (.ref x), some a, some b, o3, o4, o5, o6]) ∧ L'' = L', ⟨⟨_, _, _, _, rfl⟩, rfl⟩, fun i τ' L' _ e => by rw [e.2]; exact hb, ?_, ?_⟩
      · rintro i y τ' L'' hy ⟨⟨o3, o4, o5, o6, rfl⟩, rfl⟩
        obtain ⟨d, hd, rfl⟩ := en_at hy
        rw [List.getElem?_map] at hd
        cases hz : fs[i]? with
        | none => rw [hz] at hd; cases hd
        | some f =>
          rw [hz] at hd
          cases hd
          unfold t_Net_init_3
          walk_at "rr"
          rw [len_seq (seqL_D ha)]
          walk_at "rr"
          refine ⟨f, rfl, by rw [← hl]; exact hg.ins f (List.mem_of_getElem? hz), ?_⟩
          walk_at "rr"
          exact .mk ⟨⟨_, _, _, _, rfl⟩, rfl⟩
      · rintro τ' L'' ⟨⟨o3, o4, o5, o6, rfl⟩, rfl⟩
        walk_at "rr"
        unfold t_Net_init_4
        walk_at "rr"
        have hda := seqL_D ha
        have wk : ∀ R : List D → (Lp → Prop) → Lp → Prop, (∀ st : Lp → Prop, (∀ L', Le L'' L' → st L') → R dcs st L'') → walkK a L'' R := by
          intro R k
          unfold seqL at ha
          split at ha
          · cases ha; exact k _ fun _ _ => trivial
          · rename_i p
            split at ha
            · cases ha
              rename_i q
              exact ⟨_, q, k _ fun L' l => l _ _ q⟩
            · cases ha
          · cases ha
        refine wk _ fun st hst => ?_
        rw [← hA.zipr]
        refine lcF_f (cs.zip dcs) (·.2) (fun p => cD p.1) (by rw [List.length_zip]; exact szl (by have := hg.lc; omega)) hst (fun z Q' hm hq => ?_) ?_
        · obtain ⟨d1, d2, d3, e, h1, h2, h3⟩ := hA.memr hm
          rw [e]
          walk_at "rr"
          have ok : ∀ w ∈ [(z.1.1, d1), (z.1.2.1, d2), (z.1.2.2, d3)], Hnd w.1 w.2 ∧ Ok1 w.1 := by
            obtain ⟨k1, k2, k3⟩ := hg.nums z.1 (List.of_mem_zip hm).1
            intro w hw
            simp only [List.mem_cons, List.not_mem_nil, or_false] at hw
            rcases hw with rfl | rfl | rfl
            · exact ⟨h1, k1⟩
            · exact ⟨h2, k2⟩
            · exact ⟨h3, k3⟩
          refine lcF_f [(z.1.1, d1), (z.1.2.1, d2), (z.1.2.2, d3)] (·.2) (fun w => numD w.1) (by show 3 ≤ sizeLine; decide) (fun _ _ => trivial) (fun w Q2 hm2 hq2 => ?_) ?_
          · obtain ⟨k1, k2⟩ := ok w hm2
            walk_at "rr"
            exact .inl ⟨w.1, k1, den_big k2, hq2⟩
          · walk_at "rr"
            exact hq
        · have ez : (cs.zip dcs).map (fun p => cD p.1) = cs.map cD := by
            rw [show (fun p : C3 × D => cD p.1) = cD ∘ (·.1) from rfl, ← List.map_map, hA.zipl]
          rw [ez]
          walk_at "rr"
          rw [sfldK_eq]
          refine ⟨_, _, hx, hc, n1, by show 0 < 1000; omega, ?_⟩
          walk_at "rr"
          have eb : seqD b (Z.up L'' x (.ins (He.ga K "Net") (putFD "corners" (.tup (cs.map cD)) []))) = some (fs.map fD) := by
            unfold seqL at hb
            split at hb
            · cases hb; rfl
            · rename_i p
              split at hb
              · cases hb
                rename_i q
                have ne : p ≠ x := fun z => by subst z; rw [hx] at q; cases q
                exact seq_ref (by rw [up_ne ne]; exact q)
              · cases hb
            · cases hb
          rw [eb, sqK_some]
          rw [sfldK_eq]
          refine ⟨_, _, up_same, hc, n2, by show 1 < 1000; omega, ?_⟩
          rw [up_up]
          exact .mk h
  · exact h.elim
end Hd

open PySem PySem.Spec PyProof.Rows L2 Z
namespace Hd
local macro_rules | `(tactic| walk_at "st") => `(tactic| simp (implicitDefEqProofs := false) only [↓seqD_up, ↓seqL_up, ↓len_ilst, ↓len_up, ↓truD_ilst, up_up, List.length_map, ↓wFor_m, ↓frzK_up, ↓frzK_upi, ↓wFz_e, ↓wFg_e, ↓wLstF_e, ↓addF_int, ↓addF_l, ↓addF_tup, ↓addF_str, ↓mulF_int, ↓mulF_l, ↓wSlF_e, ↓slF_tup, ↓slF_str, ↓slF_l, ↓slF_scr, ↓slF_ref, ↓listF_eq, ↓listdF_eq, ↓sortedF_eq, ↓allF_eq, ↓sumF_eq, ↓extF_eq, ↓vEnumF_e, ↓enF_l, ↓fldF_obj, ↓fldF_ref, ↓wFldF_e, ↓wLcF_e, ↓pName_e, ↓pNil_e, ↓pCons_e, ↓pTup_e, ↓gK_some, ↓obind_e, ↓seqL_ilst, ↓addM_eq, ↓sq2_some, ↓wVar_0, ↓wVar_s, ↓hNil_e, ↓hCons_e, ↓wDget_e, ↓wDget2_e, ↓wDput_m, ↓wSortIt_e, ↓wMake_e, ↓wIfS_m, ↓wSeq_m, ↓wAsg_m, ↓hName_e, ↓wC_e, ↓wNil_e, ↓wCons_e, ↓wTup_e, ↓wLst_e, ↓wOp_e, ↓wUn_e, ↓wIf_e, ↓wAndV_e, ↓wOrV_e, ↓wNotV_e, ↓wB_e, ↓wAnd_e, ↓wOr_e, ↓zNot_e, ↓zTru_e, ↓hCons_e, ↓hTup_e, ↓hSub_e, ↓wNext_m, ↓wDrop_m, ↓wRet_m, ↓wRetN_m, ↓wPar_m, ↓wCB_e, ↓wCall_e, ↓wIxk_e, ↓wSl_e, ↓wNoPart_e, ↓wPart_e, ↓wBM_e, ↓wBM0_e, ↓wChain_e, ↓wNever_e, ↓vSeq_e, ↓vEnum_e, ↓vRng1_e, ↓vRng2_e, vZip, ↓blK_bl, ↓tupK_tup, ↓pairK_2, ↓inK_int, ↓truD_bl, ↓truD_int, ↓truD_non, ↓truD_tup, ↓isn_non, ↓isn_int, ↓isn_bl, ↓isn_str, ↓isn_tup, ↓isn_ref, ↓Z.add_int, ↓add_tup, ↓add_ref, ↓intD_eq, ↓intD0_eq, ↓Z.mul_int, ↓Z.eq_int, ↓Z.ne_int, ↓Z.eq_bl, ↓ne_bl, ↓Z.eq_str, ↓Z.ne_str, ↓eq_non, ↓eq_tup, ↓eq_ref, ↓Z.neg_int, ↓seq_tup, ↓seq_ilst, ↓Z.ix_tup, ↓ix_int, ↓sqK_some, ↓ixK_0, ↓ixK_s, ↓tyK_some, ↓ty_non, ↓ty_bl, ↓ty_int, ↓ty_str, ↓ty_tup, ↓ty_ilst, ↓isi_eq, ↓isi2_eq, isiW, ↓len_tup, ↓intc_int, ↓abs_int, ↓gcd_int, ↓list_seq, ↓tuple_seq, ↓all_ref, ↓sum_ref, ↓Z.sl_tup, ↓sl_ilst, ↓sl_ref, ↓walk_tup, ↓walk_ilst, ↓walk_ref, ↓en_ref, start', List.map_cons, List.map_nil, List.cons_append, List.nil_append, List.append_nil, List.length_cons, List.length_nil, List.replicate, List.set_cons_zero, List.set_cons_succ, List.set_nil, List.getElem?_cons_zero, List.getElem?_cons_succ, wipeD, Nat.zero_add, Nat.reduceAdd, Nat.reduceSub, Nat.sub_self, Nat.sub_zero, true_and, and_true, if_true, if_false, Bool.not_true, Bool.not_false, ite_true, ite_false, Bool.false_eq_true, decide_true, decide_false, decide_eq_true_eq, Int.cast_ofNat_Int, reduceIte, Bool.not_eq_true', decide_eq_false_iff_not, Bool.and_true, Bool.true_and, Bool.and_false, Bool.false_and, Bool.or_true, Bool.true_or, Bool.or_false, Bool.false_or, beq_self_eq_true, bne_self_eq_false, not_true_eq_false, not_false_eq_true, String.reduceBEq, String.reduceBNe, Int.reduceToNat, Bool.true_eq_false, reduceCtorEq, Int.reduceEq, Int.reduceLT, Int.reduceLE, gt_iff_lt, ge_iff_le, ↓wBreak_m, ↓wCont_m, ↓wPar3_m, trioK_3, ↓wFldS_m, ↓wFld_e, ↓wChain_e, ↓wLam_e, ↓wIsE_e, ↓wRaise0_e, ↓wCallX_e, ↓wCallKX_e, ↓wYes_e, ↓wCallK_e, isDct_eq, dkK_eq, ↓wDnewT_e])
local macro_rules | `(tactic| walk_at "go") => `(tactic| ((first | with_reducible refine hld_i ?_ | skip); try walk_at "st"))
local macro_rules | `(tactic| walk_at "sx") => `(tactic| ((try simp only [sp_is_integer, sp_lowest, sp_exact, sp_is_number, sp_is_corner, sp_is_index, sp_is_face, sp_Net_init, sp_scaled, sp_determinant, sp_steps, sp_edge_of, sp_surpluses, sp_open_edges, sp_is_closed, sp_volume, sp_law_draw, sp_law_of, sp_law_same, sp_law_low, sp_law_add, sp_law_sub, sp_law_mul, sp_law_hand, sp_law_number, sp_law_ring, sp_law_loft, sp_law_det, sp_law_volume, sp_law_bag, sp_as_number, sp_compare, sp_loft, sp_law_handed, sp_law_lt, sp_law_area, sp_law_spots, sp_law_heights, sp_law_right, sp_law_any]); try walk_at "st"))
local macro_rules | `(tactic| walk_at "s0") => `(tactic| simp (implicitDefEqProofs := false) only [start', List.map_cons, List.map_nil, List.length_cons, List.length_nil, Nat.zero_add, Nat.reduceAdd, Nat.reduceSub, List.replicate, List.cons_append, List.nil_append])
local macro_rules | `(tactic| walk_at "rr") => `(tactic| repeat (first | with_reducible refine hld_i ?_ | walk_at "st"))
local macro_rules | `(tactic| walk_at "rx") => `(tactic| repeat (first | with_reducible refine hld_i ?_ | walk_at "st" | simp only [sp_is_integer, sp_lowest, sp_exact, sp_is_number, sp_is_corner, sp_is_index, sp_is_face, sp_Net_init, sp_scaled, sp_determinant, sp_steps, sp_edge_of, sp_surpluses, sp_open_edges, sp_is_closed, sp_volume, sp_law_draw, sp_law_of, sp_law_same, sp_law_low, sp_law_add, sp_law_sub, sp_law_mul, sp_law_hand, sp_law_number, sp_law_ring, sp_law_loft, sp_law_det, sp_law_volume, sp_law_bag, sp_as_number, sp_compare, sp_loft, sp_law_handed, sp_law_lt, sp_law_area, sp_law_spots, sp_law_heights, sp_law_right, sp_law_any]))
local macro_rules | `(tactic| walk_at "dw") => `(tactic| (refine draw (by first | exact up_same | assumption) (by assumption) (by omega) (by omega) (by omega) ?_))

variable {K : PySem.W.Frag}

theorem loftA_succ (m i : Nat) : loftA m (i + 1) = loftA m i ++ [((i : Int), ((i : Int) + 1) % m, (m : Int) + ((i : Int) + 1) % m), ((i : Int), (m : Int) + ((i : Int) + 1) % m, (m : Int) + i)] := by
  unfold loftA
  rw [List.range_succ, List.flatMap_append]
  rfl
theorem loftA_len (m : Nat) : ∀ i, (loftA m i).length = 2 * i
  | 0 => rfl
  | i + 1 => by rw [loftA_succ, List.length_append, loftA_len m i]; simp; omega
theorem fanL_succ (i : Nat) : fanL (i + 1) = fanL i ++ [((0 : Int), (1 + (i : Int)) + 1, 1 + (i : Int))] := by
  unfold fanL
  rw [List.range_succ, List.map_append]
  rfl
theorem fanU_succ (m i : Nat) : fanU m (i + 1) = fanU m i ++ [((m : Int), (m : Int) + (1 + (i : Int)), (m : Int) + (1 + (i : Int)) + 1)] := by
  unfold fanU
  rw [List.range_succ, List.map_append]
  rfl
theorem fan_len (m i : Nat) : (fanL i).length = i ∧ (fanU m i).length = i := by simp [fanL, fanU]
theorem loftF_len (m : Nat) : (loftF m).length = 2 * m + 2 * (m - 2) := by
  unfold loftF
  rw [List.length_append, List.length_append, loftA_len, (fan_len m _).1, (fan_len m _).2]
  omega
theorem rd_law_loft : RD_law_loft K := by
  intro ds L Q E h
  unfold sp_law_loft at h
  split at h
  · obtain ⟨xs, ys, lo, hi, rfl, rfl, rfl, rfl, hl, h⟩ := h
    generalize hm : xs.length = m at *
    unfold t_law_loft
    walk_at "s0"
    walk_at "rr"
    intro p np
    rw [hm]
    walk_at "rr"
    refine ⟨by omega, by omega, ?_⟩
    rw [Int.toNat_natCast]
    refine for_r (fun i τ' L' => ∃ a o6 o7 o8, τ' = [some (.ilst (xs.map ptD)), some (numD lo), some (.ilst (ys.map ptD)), some (numD hi), some (.int m), some (.ref a), o6, o7, o8] ∧ L a = none ∧ L' = up L a (.lst ((loftA m i).map fD))) ⟨p, _, _, _, rfl, np, rfl⟩ (fun _ _ _ _ _ => trivial) ?_ ?_
    · rintro i τ' L' hi ⟨a, o6, o7, o8, rfl, na, rfl⟩
      unfold t_law_loft_1
      walk_at "rr"
      refine ⟨by omega, ?_⟩
      walk_at "rr"
      refine ⟨by rw [loftA_len]; exact szl (by omega), fun q nq => ?_⟩
      have ne : q ≠ a := fun z => by subst z; rw [up_same] at nq; cases nq
      have lq : L q = none := by rw [up_ne ne] at nq; exact nq
      refine ⟨_, up L q (.lst ((loftA m (i + 1)).map fD)), LeS.refl _, ?_, ⟨q, _, _, _, rfl, lq, rfl⟩⟩
      have e : (loftA m (i + 1)).map fD = (loftA m i).map fD ++ [D.tup [.int (0 + (i : Int)), .int ((0 + (i : Int) + 1) % m), .int ((m : Int) + (0 + (i : Int) + 1) % m)], D.tup [.int (0 + (i : Int)), .int ((m : Int) + (0 + (i : Int) + 1) % m), .int ((m : Int) + (0 + (i : Int)))]] := by
        rw [loftA_succ, List.map_append, Int.zero_add]
        rfl
      rw [e]
      exact Le.up (Le.new1 na)
    · rintro τ' L' ⟨a, o6, o7, o8, rfl, na, rfl⟩
      walk_at "rr"
      unfold t_law_loft_2
      walk_at "rr"
      refine ⟨⟨by decide, by decide, by omega, by omega⟩, ?_⟩
      have en : ((m : Int) - 1 - 1).toNat = m - 2 := by omega
      rw [en]
      refine for_r (fun i τ' L' => (∃ o6 o7 o8, τ' = [some (.ilst (xs.map ptD)), some (numD lo), some (.ilst (ys.map ptD)), some (numD hi), some (.int m), some (.ref a), o6, o7, o8]) ∧ L' = up L a (.lst ((loftA m m ++ fanL i).map fD))) ⟨⟨_, _, _, rfl⟩, by rw [show fanL 0 = [] from rfl, List.append_nil]⟩ (fun _ _ _ _ _ => trivial) ?_ ?_
      · rintro i τ' L' hi ⟨⟨o6, o7, o8, rfl⟩, rfl⟩
        unfold t_law_loft_3
        walk_at "rr"
        refine ⟨kind_up, ?_⟩
        refine app_up (by rw [List.length_map, List.length_append, loftA_len, (fan_len m _).1]; exact Nat.lt_of_le_of_lt (show _ ≤ 100 by omega) (by decide)) ?_
        refine .mk ⟨⟨_, _, _, rfl⟩, ?_⟩
        rw [fanL_succ, ← List.append_assoc, List.map_append (l₂ := [_])]
        rfl
      · rintro τ' L' ⟨⟨o6, o7, o8, rfl⟩, rfl⟩
        walk_at "rr"
        unfold t_law_loft_4
        walk_at "rr"
        refine ⟨⟨by decide, by decide, by omega, by omega⟩, ?_⟩
        rw [en]
        refine for_r (fun i τ' L' => (∃ o6 o7 o8, τ' = [some (.ilst (xs.map ptD)), some (numD lo), some (.ilst (ys.map ptD)), some (numD hi), some (.int m), some (.ref a), o6, o7, o8]) ∧ L' = up L a (.lst ((loftA m m ++ fanL (m - 2) ++ fanU m i).map fD))) ⟨⟨_, _, _, rfl⟩, by rw [show fanU m 0 = [] from rfl, List.append_nil]⟩ (fun _ _ _ _ _ => trivial) ?_ ?_
        · rintro i τ' L' hi ⟨⟨o6, o7, o8, rfl⟩, rfl⟩
          unfold t_law_loft_5
          walk_at "rr"
          refine ⟨kind_up, ?_⟩
          refine app_up (by rw [List.length_map, List.length_append, List.length_append, loftA_len, (fan_len m _).1, (fan_len m _).2]; exact Nat.lt_of_le_of_lt (show _ ≤ 100 by omega) (by decide)) ?_
          refine .mk ⟨⟨_, _, _, rfl⟩, ?_⟩
          rw [fanU_succ, ← List.append_assoc, List.map_append (l₂ := [_])]
          rfl
        · rintro τ' L' ⟨⟨o6, o7, o8, rfl⟩, rfl⟩
          walk_at "rr"
          unfold t_law_loft_6
          walk_at "rr"
          refine lcF_f xs ptD (fun x => cD (x.1, x.2, lo)) (szl (by omega)) (fun _ _ => trivial) (fun z Q' _ hq => ?_) ?_
          · walk_at "rr"; exact hq
          walk_at "rr"
          refine lcF_f ys ptD (fun x => cD (x.1, x.2, hi)) (szl (by omega)) (fun _ _ => trivial) (fun z Q' _ hq => ?_) ?_
          · walk_at "rr"; exact hq
          walk_at "rr"
          refine ⟨szl (by omega), ?_⟩
          walk_at "rr"
          rw [del_no na]
          have e : xs.map (fun x => cD (x.1, x.2, lo)) ++ ys.map (fun x => cD (x.1, x.2, hi)) = (loftC xs ys lo hi).map cD := by
            unfold loftC
            rw [List.map_append, List.map_map, List.map_map]
            rfl
          rw [e]
          exact .mk h
  · exact h.elim
theorem unite_take {ps : List (List C3 × List F3)} {i : Nat} {p : List C3 × List F3} (h : ps[i]? = some p) : unite (ps.take (i + 1)) = ((unite (ps.take i)).1 ++ p.1, (unite (ps.take i)).2 ++ p.2.map (shf (unite (ps.take i)).1.length)) := by
  unfold unite
  rw [List.take_add_one, h, List.foldl_append]
  rfl
theorem unite_len : ∀ (ps : List (List C3 × List F3)) (a : List C3 × List F3), (∀ p ∈ ps, Good p.1 p.2) → (ps.foldl (fun a p => (a.1 ++ p.1, a.2 ++ p.2.map (shf a.1.length))) a).1.length ≤ a.1.length + 40 * ps.length ∧ (ps.foldl (fun a p => (a.1 ++ p.1, a.2 ++ p.2.map (shf a.1.length))) a).2.length ≤ a.2.length + 90 * ps.length
  | [], a, _ => by simp
  | p :: ps, a, h => by
    have g := h p (by simp)
    have := unite_len ps (a.1 ++ p.1, a.2 ++ p.2.map (shf a.1.length)) fun q hq => h q (by simp [hq])
    simp only [List.foldl_cons, List.length_cons, List.length_append, List.length_map] at this ⊢
    have h1 := g.lc
    have h2 := g.lf
    omega
theorem unite_le {ps : List (List C3 × List F3)} (h : ∀ p ∈ ps, Good p.1 p.2) (hl : ps.length ≤ 3) (i : Nat) : (unite (ps.take i)).1.length ≤ 120 ∧ (unite (ps.take i)).2.length ≤ 270 := by
  have := unite_len (ps.take i) ([], []) fun p hp => h p (List.mem_of_mem_take hp)
  have hl2 : (ps.take i).length ≤ 3 := by rw [List.length_take]; omega
  simp only [List.length_nil] at this
  unfold unite
  omega
end Hd

open PySem PySem.Spec PyProof.Rows L2 Z
namespace Hd
local macro_rules | `(tactic| walk_at "st") => `(tactic| simp (implicitDefEqProofs := false) only [↓seqD_up, ↓seqL_up, ↓len_ilst, ↓len_up, ↓truD_ilst, up_up, List.length_map, ↓wFor_m, ↓frzK_up, ↓frzK_upi, ↓wFz_e, ↓wFg_e, ↓wLstF_e, ↓addF_int, ↓addF_l, ↓addF_tup, ↓addF_str, ↓mulF_int, ↓mulF_l, ↓wSlF_e, ↓slF_tup, ↓slF_str, ↓slF_l, ↓slF_scr, ↓slF_ref, ↓listF_eq, ↓listdF_eq, ↓sortedF_eq, ↓allF_eq, ↓sumF_eq, ↓extF_eq, ↓vEnumF_e, ↓enF_l, ↓fldF_obj, ↓fldF_ref, ↓wFldF_e, ↓wLcF_e, ↓pName_e, ↓pNil_e, ↓pCons_e, ↓pTup_e, ↓gK_some, ↓obind_e, ↓seqL_ilst, ↓addM_eq, ↓sq2_some, ↓wVar_0, ↓wVar_s, ↓hNil_e, ↓hCons_e, ↓wDget_e, ↓wDget2_e, ↓wDput_m, ↓wSortIt_e, ↓wMake_e, ↓wIfS_m, ↓wSeq_m, ↓wAsg_m, ↓hName_e, ↓wC_e, ↓wNil_e, ↓wCons_e, ↓wTup_e, ↓wLst_e, ↓wOp_e, ↓wUn_e, ↓wIf_e, ↓wAndV_e, ↓wOrV_e, ↓wNotV_e, ↓wB_e, ↓wAnd_e, ↓wOr_e, ↓zNot_e, ↓zTru_e, ↓hCons_e, ↓hTup_e, ↓hSub_e, ↓wNext_m, ↓wDrop_m, ↓wRet_m, ↓wRetN_m, ↓wPar_m, ↓wCB_e, ↓wCall_e, ↓wIxk_e, ↓wSl_e, ↓wNoPart_e, ↓wPart_e, ↓wBM_e, ↓wBM0_e, ↓wChain_e, ↓wNever_e, ↓vSeq_e, ↓vEnum_e, ↓vRng1_e, ↓vRng2_e, vZip, ↓blK_bl, ↓tupK_tup, ↓pairK_2, ↓inK_int, ↓truD_bl, ↓truD_int, ↓truD_non, ↓truD_tup, ↓isn_non, ↓isn_int, ↓isn_bl, ↓isn_str, ↓isn_tup, ↓isn_ref, ↓Z.add_int, ↓add_tup, ↓add_ref, ↓intD_eq, ↓intD0_eq, ↓Z.mul_int, ↓Z.eq_int, ↓Z.ne_int, ↓Z.eq_bl, ↓ne_bl, ↓Z.eq_str, ↓Z.ne_str, ↓eq_non, ↓eq_tup, ↓eq_ref, ↓Z.neg_int, ↓seq_tup, ↓seq_ilst, ↓Z.ix_tup, ↓ix_int, ↓sqK_some, ↓ixK_0, ↓ixK_s, ↓tyK_some, ↓ty_non, ↓ty_bl, ↓ty_int, ↓ty_str, ↓ty_tup, ↓ty_ilst, ↓isi_eq, ↓isi2_eq, isiW, ↓len_tup, ↓intc_int, ↓abs_int, ↓gcd_int, ↓list_seq, ↓tuple_seq, ↓all_ref, ↓sum_ref, ↓Z.sl_tup, ↓sl_ilst, ↓sl_ref, ↓walk_tup, ↓walk_ilst, ↓walk_ref, ↓en_ref, start', List.map_cons, List.map_nil, List.cons_append, List.nil_append, List.append_nil, List.length_cons, List.length_nil, List.replicate, List.set_cons_zero, List.set_cons_succ, List.set_nil, List.getElem?_cons_zero, List.getElem?_cons_succ, wipeD, Nat.zero_add, Nat.reduceAdd, Nat.reduceSub, Nat.sub_self, Nat.sub_zero, true_and, and_true, if_true, if_false, Bool.not_true, Bool.not_false, ite_true, ite_false, Bool.false_eq_true, decide_true, decide_false, decide_eq_true_eq, Int.cast_ofNat_Int, reduceIte, Bool.not_eq_true', decide_eq_false_iff_not, Bool.and_true, Bool.true_and, Bool.and_false, Bool.false_and, Bool.or_true, Bool.true_or, Bool.or_false, Bool.false_or, beq_self_eq_true, bne_self_eq_false, not_true_eq_false, not_false_eq_true, String.reduceBEq, String.reduceBNe, Int.reduceToNat, Bool.true_eq_false, reduceCtorEq, Int.reduceEq, Int.reduceLT, Int.reduceLE, gt_iff_lt, ge_iff_le, ↓wBreak_m, ↓wCont_m, ↓wPar3_m, trioK_3, ↓wFldS_m, ↓wFld_e, ↓wChain_e, ↓wLam_e, ↓wIsE_e, ↓wRaise0_e, ↓wCallX_e, ↓wCallKX_e, ↓wYes_e, ↓wCallK_e, isDct_eq, dkK_eq, ↓wDnewT_e])
local macro_rules | `(tactic| walk_at "go") => `(tactic| ((first | with_reducible refine hld_i ?_ | skip); try walk_at "st"))
local macro_rules | `(tactic| walk_at "sx") => `(tactic| ((try simp only [sp_is_integer, sp_lowest, sp_exact, sp_is_number, sp_is_corner, sp_is_index, sp_is_face, sp_Net_init, sp_scaled, sp_determinant, sp_steps, sp_edge_of, sp_surpluses, sp_open_edges, sp_is_closed, sp_volume, sp_law_draw, sp_law_of, sp_law_same, sp_law_low, sp_law_add, sp_law_sub, sp_law_mul, sp_law_hand, sp_law_number, sp_law_ring, sp_law_loft, sp_law_det, sp_law_volume, sp_law_bag, sp_as_number, sp_compare, sp_loft, sp_law_handed, sp_law_lt, sp_law_area, sp_law_spots, sp_law_heights, sp_law_right, sp_law_any]); try walk_at "st"))
local macro_rules | `(tactic| walk_at "s0") => `(tactic| simp (implicitDefEqProofs := false) only [start', List.map_cons, List.map_nil, List.length_cons, List.length_nil, Nat.zero_add, Nat.reduceAdd, Nat.reduceSub, List.replicate, List.cons_append, List.nil_append])
local macro_rules | `(tactic| walk_at "rr") => `(tactic| repeat (first | with_reducible refine hld_i ?_ | walk_at "st"))
local macro_rules | `(tactic| walk_at "rx") => `(tactic| repeat (first | with_reducible refine hld_i ?_ | walk_at "st" | simp only [sp_is_integer, sp_lowest, sp_exact, sp_is_number, sp_is_corner, sp_is_index, sp_is_face, sp_Net_init, sp_scaled, sp_determinant, sp_steps, sp_edge_of, sp_surpluses, sp_open_edges, sp_is_closed, sp_volume, sp_law_draw, sp_law_of, sp_law_same, sp_law_low, sp_law_add, sp_law_sub, sp_law_mul, sp_law_hand, sp_law_number, sp_law_ring, sp_law_loft, sp_law_det, sp_law_volume, sp_law_bag, sp_as_number, sp_compare, sp_loft, sp_law_handed, sp_law_lt, sp_law_area, sp_law_spots, sp_law_heights, sp_law_right, sp_law_any]))
local macro_rules | `(tactic| walk_at "dw") => `(tactic| (refine draw (by first | exact up_same | assumption) (by assumption) (by omega) (by omega) (by omega) ?_))

variable {K : PySem.W.Frag}

theorem up_comm {L : Lp} {a b : Addr} {o u : O} (h : a ≠ b) : up (up L a o) b u = up (up L b u) a o := by
  funext x
  by_cases h1 : x = b
  · subst h1; rw [up_same, up_ne (Ne.symm h), up_same]
  · by_cases h2 : x = a
    · subst h2; rw [up_ne h1, up_same, up_same]
    · rw [up_ne h1, up_ne h2, up_ne h2, up_ne h1]
theorem all_hc : ∀ cs : List C3, All2 HC cs (cs.map cD)
  | [] => .nil
  | c :: cs => .cons ⟨_, _, _, rfl, .inl rfl, .inl rfl, .inl rfl⟩ (all_hc cs)
theorem fld_c {K : PySem.W.Frag} {cs : List C3} {fs : List F3} {L : Lp} {Q : D → Prop} (hc : Cls K (He.ga K "Net")) (n1 : NoAttr K (He.ga K "Net") "corners") (h : Q (.tup (cs.map cD))) : fldF K (netD K cs fs) "corners" L Q := by
  rw [fldF_obj]
  exact ⟨hc, n1, _, rfl, h⟩
theorem fld_f {K : PySem.W.Frag} {cs : List C3} {fs : List F3} {L : Lp} {Q : D → Prop} (hc : Cls K (He.ga K "Net")) (n2 : NoAttr K (He.ga K "Net") "faces") (h : Q (.tup (fs.map fD))) : fldF K (netD K cs fs) "faces" L Q := by
  rw [fldF_obj]
  exact ⟨hc, n2, _, rfl, h⟩
theorem ok3_num {a b c : Rat} (h1 : Ok1 a) (h2 : Ok1 b) (h3 : Ok1 c) : Ok3 (a, b, c) := ⟨h1, h2, h3⟩
theorem inF_lift {m n : Int} (h : m ≤ n) {f : F3} (k : InF m f) : InF n f := by
  obtain ⟨⟨a, b⟩, ⟨c, d⟩, ⟨e, g⟩⟩ := k
  exact ⟨⟨a, by omega⟩, ⟨c, by omega⟩, ⟨e, by omega⟩⟩
theorem loftF_in {m : Nat} (h : 3 ≤ m ∧ m ≤ 5) : ∀ f ∈ loftF m, InF (2 * (m : Int)) f := by
  have : m = 3 ∨ m = 4 ∨ m = 5 := by omega
  unfold InF
  rcases this with rfl | rfl | rfl <;> decide
theorem loft_good {xs ys : List (Rat × Rat)} {lo hi : Rat} (hl : 3 ≤ xs.length ∧ xs.length ≤ 5 ∧ ys.length = xs.length) (h1 : ∀ x ∈ xs, Ok1 x.1 ∧ Ok1 x.2) (h2 : ∀ x ∈ ys, Ok1 x.1 ∧ Ok1 x.2) (h3 : Ok1 lo) (h4 : Ok1 hi) : Good (loftC xs ys lo hi) (loftF xs.length) ∧ (loftC xs ys lo hi).length ≤ 10 ∧ (loftF xs.length).length ≤ 16 := by
  have lc : (loftC xs ys lo hi).length = 2 * xs.length := by
    unfold loftC
    rw [List.length_append, List.length_map, List.length_map, hl.2.2]
    omega
  have lf := loftF_len xs.length
  refine ⟨⟨fun c hc => ?_, fun f hf => ?_, by omega, by omega⟩, by omega, by omega⟩
  · unfold loftC at hc
    rcases List.mem_append.mp hc with hc | hc
    · obtain ⟨x, hx, rfl⟩ := List.mem_map.mp hc
      exact ⟨(h1 x hx).1, (h1 x hx).2, h3⟩
    · obtain ⟨x, hx, rfl⟩ := List.mem_map.mp hc
      exact ⟨(h2 x hx).1, (h2 x hx).2, h4⟩
  · have := loftF_in ⟨hl.1, hl.2.1⟩ f hf
    rw [lc]
    exact inF_lift (by omega) this
end Hd

open PySem PySem.Spec PyProof.Rows L2 Z
namespace Hd
local macro_rules | `(tactic| walk_at "st") => `(tactic| simp (implicitDefEqProofs := false) only [↓seqD_up, ↓seqL_up, ↓len_ilst, ↓len_up, ↓truD_ilst, up_up, List.length_map, ↓wFor_m, ↓frzK_up, ↓frzK_upi, ↓wFz_e, ↓wFg_e, ↓wLstF_e, ↓addF_int, ↓addF_l, ↓addF_tup, ↓addF_str, ↓mulF_int, ↓mulF_l, ↓wSlF_e, ↓slF_tup, ↓slF_str, ↓slF_l, ↓slF_scr, ↓slF_ref, ↓listF_eq, ↓listdF_eq, ↓sortedF_eq, ↓allF_eq, ↓sumF_eq, ↓extF_eq, ↓vEnumF_e, ↓enF_l, ↓fldF_obj, ↓fldF_ref, ↓wFldF_e, ↓wLcF_e, ↓pName_e, ↓pNil_e, ↓pCons_e, ↓pTup_e, ↓gK_some, ↓obind_e, ↓seqL_ilst, ↓addM_eq, ↓sq2_some, ↓wVar_0, ↓wVar_s, ↓hNil_e, ↓hCons_e, ↓wDget_e, ↓wDget2_e, ↓wDput_m, ↓wSortIt_e, ↓wMake_e, ↓wIfS_m, ↓wSeq_m, ↓wAsg_m, ↓hName_e, ↓wC_e, ↓wNil_e, ↓wCons_e, ↓wTup_e, ↓wLst_e, ↓wOp_e, ↓wUn_e, ↓wIf_e, ↓wAndV_e, ↓wOrV_e, ↓wNotV_e, ↓wB_e, ↓wAnd_e, ↓wOr_e, ↓zNot_e, ↓zTru_e, ↓hCons_e, ↓hTup_e, ↓hSub_e, ↓wNext_m, ↓wDrop_m, ↓wRet_m, ↓wRetN_m, ↓wPar_m, ↓wCB_e, ↓wCall_e, ↓wIxk_e, ↓wSl_e, ↓wNoPart_e, ↓wPart_e, ↓wBM_e, ↓wBM0_e, ↓wChain_e, ↓wNever_e, ↓vSeq_e, ↓vEnum_e, ↓vRng1_e, ↓vRng2_e, vZip, ↓blK_bl, ↓tupK_tup, ↓pairK_2, ↓inK_int, ↓truD_bl, ↓truD_int, ↓truD_non, ↓truD_tup, ↓isn_non, ↓isn_int, ↓isn_bl, ↓isn_str, ↓isn_tup, ↓isn_ref, ↓Z.add_int, ↓add_tup, ↓add_ref, ↓intD_eq, ↓intD0_eq, ↓Z.mul_int, ↓Z.eq_int, ↓Z.ne_int, ↓Z.eq_bl, ↓ne_bl, ↓Z.eq_str, ↓Z.ne_str, ↓eq_non, ↓eq_tup, ↓eq_ref, ↓Z.neg_int, ↓seq_tup, ↓seq_ilst, ↓Z.ix_tup, ↓ix_int, ↓sqK_some, ↓ixK_0, ↓ixK_s, ↓tyK_some, ↓ty_non, ↓ty_bl, ↓ty_int, ↓ty_str, ↓ty_tup, ↓ty_ilst, ↓isi_eq, ↓isi2_eq, isiW, ↓len_tup, ↓intc_int, ↓abs_int, ↓gcd_int, ↓list_seq, ↓tuple_seq, ↓all_ref, ↓sum_ref, ↓Z.sl_tup, ↓sl_ilst, ↓sl_ref, ↓walk_tup, ↓walk_ilst, ↓walk_ref, ↓en_ref, start', List.map_cons, List.map_nil, List.cons_append, List.nil_append, List.append_nil, List.length_cons, List.length_nil, List.replicate, List.set_cons_zero, List.set_cons_succ, List.set_nil, List.getElem?_cons_zero, List.getElem?_cons_succ, wipeD, Nat.zero_add, Nat.reduceAdd, Nat.reduceSub, Nat.sub_self, Nat.sub_zero, true_and, and_true, if_true, if_false, Bool.not_true, Bool.not_false, ite_true, ite_false, Bool.false_eq_true, decide_true, decide_false, decide_eq_true_eq, Int.cast_ofNat_Int, reduceIte, Bool.not_eq_true', decide_eq_false_iff_not, Bool.and_true, Bool.true_and, Bool.and_false, Bool.false_and, Bool.or_true, Bool.true_or, Bool.or_false, Bool.false_or, beq_self_eq_true, bne_self_eq_false, not_true_eq_false, not_false_eq_true, String.reduceBEq, String.reduceBNe, Int.reduceToNat, Bool.true_eq_false, reduceCtorEq, Int.reduceEq, Int.reduceLT, Int.reduceLE, gt_iff_lt, ge_iff_le, ↓wBreak_m, ↓wCont_m, ↓wPar3_m, trioK_3, ↓wFldS_m, ↓wFld_e, ↓wChain_e, ↓wLam_e, ↓wIsE_e, ↓wRaise0_e, ↓wCallX_e, ↓wCallKX_e, ↓wYes_e, ↓wCallK_e, isDct_eq, dkK_eq, ↓wDnewT_e])
local macro_rules | `(tactic| walk_at "go") => `(tactic| ((first | with_reducible refine hld_i ?_ | skip); try walk_at "st"))
local macro_rules | `(tactic| walk_at "sx") => `(tactic| ((try simp only [sp_is_integer, sp_lowest, sp_exact, sp_is_number, sp_is_corner, sp_is_index, sp_is_face, sp_Net_init, sp_scaled, sp_determinant, sp_steps, sp_edge_of, sp_surpluses, sp_open_edges, sp_is_closed, sp_volume, sp_law_draw, sp_law_of, sp_law_same, sp_law_low, sp_law_add, sp_law_sub, sp_law_mul, sp_law_hand, sp_law_number, sp_law_ring, sp_law_loft, sp_law_det, sp_law_volume, sp_law_bag, sp_as_number, sp_compare, sp_loft, sp_law_handed, sp_law_lt, sp_law_area, sp_law_spots, sp_law_heights, sp_law_right, sp_law_any]); try walk_at "st"))
local macro_rules | `(tactic| walk_at "s0") => `(tactic| simp (implicitDefEqProofs := false) only [start', List.map_cons, List.map_nil, List.length_cons, List.length_nil, Nat.zero_add, Nat.reduceAdd, Nat.reduceSub, List.replicate, List.cons_append, List.nil_append])
local macro_rules | `(tactic| walk_at "rr") => `(tactic| repeat (first | with_reducible refine hld_i ?_ | walk_at "st"))
local macro_rules | `(tactic| walk_at "rx") => `(tactic| repeat (first | with_reducible refine hld_i ?_ | walk_at "st" | simp only [sp_is_integer, sp_lowest, sp_exact, sp_is_number, sp_is_corner, sp_is_index, sp_is_face, sp_Net_init, sp_scaled, sp_determinant, sp_steps, sp_edge_of, sp_surpluses, sp_open_edges, sp_is_closed, sp_volume, sp_law_draw, sp_law_of, sp_law_same, sp_law_low, sp_law_add, sp_law_sub, sp_law_mul, sp_law_hand, sp_law_number, sp_law_ring, sp_law_loft, sp_law_det, sp_law_volume, sp_law_bag, sp_as_number, sp_compare, sp_loft, sp_law_handed, sp_law_lt, sp_law_area, sp_law_spots, sp_law_heights, sp_law_right, sp_law_any]))
local macro_rules | `(tactic| walk_at "dw") => `(tactic| (refine draw (by first | exact up_same | assumption) (by assumption) (by omega) (by omega) (by omega) ?_))

variable {K : PySem.W.Frag}

/-- the scale behind some corners, then some of the next one's numbers -/
def lcs (s : Nat) (qs : List Rat) : Nat := qs.foldl (fun s q => Nat.lcm s q.den) s
theorem lcs_le {s : Nat} (hs : s ∣ 27720) : ∀ {qs : List Rat}, (∀ q ∈ qs, q.den ∣ 27720) → lcs s qs ∣ 27720 := by
  intro qs
  induction qs generalizing s with
  | nil => intro _; exact hs
  | cons q qs ih =>
    intro h
    exact ih (Nat.lcm_dvd hs (h q (by simp))) fun r hr => h r (by simp [hr])
theorem le27 {n : Nat} (h : n ∣ 27720) : n < 2 ^ 64 := Nat.lt_of_le_of_lt (Nat.le_of_dvd (by decide) h) (by decide)
theorem scl_take_dvd {cs : List C3} (h : ∀ c ∈ cs, Ok3 c) (i : Nat) : scl (cs.take i) ∣ 27720 := scl_dvd (cs.take i) 1 (Nat.one_dvd _) fun c hc => by
  obtain ⟨h1, h2, h3⟩ := h c (List.mem_of_mem_take hc)
  exact ⟨den_dvd (by decide) h1, den_dvd (by decide) h2, den_dvd (by decide) h3⟩
theorem scl_succ {cs : List C3} {i : Nat} {c : C3} (h : cs[i]? = some c) : scl (cs.take (i + 1)) = lcs (scl (cs.take i)) [c.1, c.2.1, c.2.2] := by
  unfold scl
  rw [List.take_add_one, h, List.foldl_append]
  rfl
theorem num_lt {d b : Nat} {q : Rat} (hd : 0 < d) (h : Wd d b q) : q.num.natAbs < b := by
  obtain ⟨x, rfl, hx⟩ := h
  rw [mk_num (by omega)]
  exact Nat.lt_of_le_of_lt (Int.natAbs_ediv_le_natAbs _ _) hx
theorem tms_ok {S : Nat} {q : Rat} (h : Ok1 q) (hS : S ≤ 27720) : CDivW (S : Int) (q.den : Int) ∧ CMulW q.num ((S : Int) / (q.den : Int)) ∧ (tms S q).natAbs < 2 ^ 100 := by
  have hd := q.den_pos
  have h1 := num_lt (by decide) h
  have h2 : ((S : Int) / (q.den : Int)).natAbs < 2 ^ 20 := by
    have := Int.natAbs_ediv_le_natAbs (S : Int) (q.den : Int)
    omega
  refine ⟨wide_div (b := 8500) (by omega) ?_ (by decide) (by decide), mulok h1 h2 (by decide), ?_⟩
  · rw [Int.natAbs_natCast]; exact den_big h
  · exact Nat.lt_of_lt_of_le (lt_mul2 h1 h2) (Nat.pow_le_pow_right (by decide) (by decide))
theorem rd_scaled : RD_scaled K := by
  intro ds L Q E h
  unfold sp_scaled at h
  split at h
  · obtain ⟨cs, rfl, hl, hok, h⟩ := h
    obtain ⟨s0, s1⟩ := scl_le hok
    unfold t_scaled
    walk_at "s0"
    walk_at "rr"
    refine for_t cs cD (fun i τ' L' => (∃ o2 o3 o4 o5, τ' = [some (.tup (cs.map cD)), some (.int (scl (cs.take i))), o2, o3, o4, o5]) ∧ L' = L) ⟨⟨_, _, _, _, rfl⟩, rfl⟩ (fun _ _ _ _ _ => trivial) ?_ ?_
    · rintro i c τ' L' hz ⟨⟨o2, o3, o4, o5, rfl⟩, rfl⟩
      obtain ⟨k1, k2, k3⟩ := hok c (List.mem_of_getElem? hz)
      have hdv : ∀ q ∈ [c.1, c.2.1, c.2.2], q.den ∣ 27720 := by
        intro q hq
        simp only [List.mem_cons, List.not_mem_nil, or_false] at hq
        rcases hq with rfl | rfl | rfl
        · exact den_dvd (by decide) k1
        · exact den_dvd (by decide) k2
        · exact den_dvd (by decide) k3
      unfold t_scaled_1
      walk_at "rr"
      refine for_t [c.1, c.2.1, c.2.2] numD (fun j τ' L'' => (∃ o3 o4 o5, τ' = [some (.tup (cs.map cD)), some (.int (lcs (scl (cs.take i)) ([c.1, c.2.1, c.2.2].take j))), some (cD c), o3, o4, o5]) ∧ L'' = L') ⟨⟨_, _, _, rfl⟩, rfl⟩ (fun _ _ _ _ _ => trivial) ?_ ?_
      · rintro j q τ' L'' hq ⟨⟨o3, o4, o5, rfl⟩, rfl⟩
        unfold t_scaled_2
        walk_at "rr"
        rw [lcm_int]
        rw [Int.natAbs_natCast, Int.natAbs_natCast]
        refine ⟨le27 (lcs_le (scl_take_dvd hok i) fun q hq => hdv q (List.mem_of_mem_take hq)), le27 (hdv q (List.mem_of_getElem? hq)), ?_⟩
        walk_at "rr"
        have e : lcs (scl (cs.take i)) ([c.1, c.2.1, c.2.2].take (j + 1)) = Nat.lcm (lcs (scl (cs.take i)) ([c.1, c.2.1, c.2.2].take j)) q.den := by
          unfold lcs
          rw [List.take_add_one, hq, List.foldl_append]
          rfl
        rw [← e]
        exact .mk ⟨⟨_, _, _, rfl⟩, rfl⟩
      · rintro τ' L'' ⟨⟨o3, o4, o5, rfl⟩, rfl⟩
        rw [List.take_length, ← scl_succ hz]
        exact .mk ⟨⟨_, _, _, _, rfl⟩, rfl⟩
    · rintro τ' L' ⟨⟨o2, o3, o4, o5, rfl⟩, rfl⟩
      rw [List.take_length]
      walk_at "rr"
      unfold t_scaled_3
      walk_at "rr"
      refine lcF_f cs cD (scD (scl cs)) (szl (by omega)) (fun _ _ => trivial) (fun c Q' hm hq => ?_) ?_
      · walk_at "rr"
        obtain ⟨k1, k2, k3⟩ := hok c hm
        have ok : ∀ q ∈ [c.1, c.2.1, c.2.2], Ok1 q := by
          intro q hq
          simp only [List.mem_cons, List.not_mem_nil, or_false] at hq
          rcases hq with rfl | rfl | rfl <;> assumption
        refine lcF_f [c.1, c.2.1, c.2.2] numD (fun q => .int (tms (scl cs) q)) (by show 3 ≤ sizeLine; decide) (fun _ _ => trivial) (fun q Q2 hm2 hq2 => ?_) ?_
        · walk_at "rr"
          obtain ⟨t1, t2, _⟩ := tms_ok (ok q hm2) s1
          exact ⟨t1, t2, hq2⟩
        · walk_at "rr"
          exact hq
      · walk_at "rr"
        exact .mk h
  · exact h.elim
theorem at_s {S : Nat} {cs : List C3} {i : Int} {m : Int} (hm : m = cs.length) (h : 0 ≤ i ∧ i < m) {P : D → Prop} (p : P (scD S (cAt cs i))) : atK (some (cs.map (scD S))) i P := by
  obtain ⟨n, rfl⟩ : ∃ n : Nat, i = n := ⟨i.toNat, by omega⟩
  have hn : n < cs.length := by omega
  refine atK_at (x := scD S (cs[n]'hn)) ?_ ?_
  · rw [atN (by simpa using hn)]
    simp
  · unfold cAt at p
    rw [Int.toNat_natCast, List.getElem?_eq_getElem hn] at p
    exact p
theorem rd_volume (hc : Cls K (He.ga K "Net")) (n1 : NoAttr K (He.ga K "Net") "corners") (n2 : NoAttr K (He.ga K "Net") "faces") : RD_volume K := by
  intro ds L Q E h
  unfold sp_volume at h
  split at h
  · obtain ⟨cs, fs, rfl, ⟨hok, hin, lc, lf⟩, h⟩ := h
    obtain ⟨s0, s1⟩ := scl_le hok
    unfold t_volume
    walk_at "s0"
    walk_at "rr"
    refine ⟨hc, n1, _, rfl, cs, rfl, lc, hok, ?_⟩
    walk_at "rr"
    refine ⟨hc, n2, _, rfl, ?_⟩
    walk_at "rr"
    refine lcF_f fs fD (fun f => .int (det9C (scl cs) (cAt cs f.1) (cAt cs f.2.1) (cAt cs f.2.2))) (szl (by omega)) (fun _ _ => trivial) (fun f Q' hm hq => ?_) ?_
    · obtain ⟨h1, h2, h3⟩ := hin f hm
      walk_at "rr"
      refine at_s rfl h1 ?_
      walk_at "rr"
      refine at_s rfl h2 ?_
      walk_at "rr"
      refine at_s rfl h3 ?_
      walk_at "rr"
      have big : ∀ q, Ok1 q → (tms (scl cs) q).natAbs < 2 ^ 2000 := fun q hq => Nat.lt_of_lt_of_le (tms_ok hq s1).2.2 (Nat.pow_le_pow_right (by decide) (by decide))
      obtain ⟨a1, a2, a3⟩ := ok_at h1 hok
      obtain ⟨b1, b2, b3⟩ := ok_at h2 hok
      obtain ⟨c1, c2, c3⟩ := ok_at h3 hok
      refine ⟨?_, hq⟩
      simp only [List.mem_cons, List.not_mem_nil, or_false, forall_eq_or_imp, forall_eq]
      exact ⟨big _ a1, big _ a2, big _ a3, big _ b1, big _ b2, big _ b3, big _ c1, big _ c2, big _ c3⟩
    · walk_at "rr"
      refine ⟨fs.map fun f => det9C (scl cs) (cAt cs f.1) (cAt cs f.2.1) (cAt cs f.2.2), by rw [List.map_map]; rfl, ?_⟩
      walk_at "rr"
      have b0 : ((scl cs : Nat) : Int).natAbs < 2 ^ 15 := by rw [Int.natAbs_natCast]; omega
      have e3 : ((scl cs : Nat) : Int) ^ (3 : Int).toNat = ((scl cs ^ 3 : Nat) : Int) := by rw [Int.natCast_pow]; rfl
      have b3 : scl cs ^ 3 ≤ 27720 ^ 3 := Nat.pow_le_pow_left s1 3
      have b4 : scl cs ^ 3 < 2 ^ 60 := Nat.lt_of_le_of_lt b3 (by decide)
      refine ⟨CPowW.of (Nat.lt_of_lt_of_le b0 (Nat.pow_le_pow_right (by decide) (by decide))) (by decide) (by decide), ?_⟩
      walk_at "rr"
      have e3' : ((scl cs : Nat) : Int) ^ 3 = ((scl cs ^ 3 : Nat) : Int) := by rw [Int.natCast_pow]
      try rw [e3']
      try rw [e3]
      refine ⟨mulok (a := 60) (b := 60) (by decide) (by rw [Int.natAbs_natCast]; exact b4) (by decide), .inr ⟨_, _, rfl, ?_, ?_, .mk ?_⟩⟩
      · have : 0 < scl cs ^ 3 := Nat.pow_pos s0
        omega
      · exact Nat.lt_of_lt_of_le (show (6 * ((scl cs ^ 3 : Nat) : Int)).natAbs < 2 ^ 64 by omega) (Nat.pow_le_pow_right (by decide) (by decide))
      · have e6 : (6 * ((scl cs ^ 3 : Nat) : Int)).toNat = 6 * scl cs ^ 3 := by omega
        rw [e6, total_eq s0 (scl_at cs)]
        exact h
  · exact h.elim
end Hd

open PySem PySem.Spec PyProof.Rows L2 Z
namespace Hd
local macro_rules | `(tactic| walk_at "st") => `(tactic| simp (implicitDefEqProofs := false) only [↓seqD_up, ↓seqL_up, ↓len_ilst, ↓len_up, ↓truD_ilst, up_up, List.length_map, ↓wFor_m, ↓frzK_up, ↓frzK_upi, ↓wFz_e, ↓wFg_e, ↓wLstF_e, ↓addF_int, ↓addF_l, ↓addF_tup, ↓addF_str, ↓mulF_int, ↓mulF_l, ↓wSlF_e, ↓slF_tup, ↓slF_str, ↓slF_l, ↓slF_scr, ↓slF_ref, ↓listF_eq, ↓listdF_eq, ↓sortedF_eq, ↓allF_eq, ↓sumF_eq, ↓extF_eq, ↓vEnumF_e, ↓enF_l, ↓fldF_obj, ↓fldF_ref, ↓wFldF_e, ↓wLcF_e, ↓pName_e, ↓pNil_e, ↓pCons_e, ↓pTup_e, ↓gK_some, ↓obind_e, ↓seqL_ilst, ↓addM_eq, ↓sq2_some, ↓wVar_0, ↓wVar_s, ↓hNil_e, ↓hCons_e, ↓wDget_e, ↓wDget2_e, ↓wDput_m, ↓wSortIt_e, ↓wMake_e, ↓wIfS_m, ↓wSeq_m, ↓wAsg_m, ↓hName_e, ↓wC_e, ↓wNil_e, ↓wCons_e, ↓wTup_e, ↓wLst_e, ↓wOp_e, ↓wUn_e, ↓wIf_e, ↓wAndV_e, ↓wOrV_e, ↓wNotV_e, ↓wB_e, ↓wAnd_e, ↓wOr_e, ↓zNot_e, ↓zTru_e, ↓hCons_e, ↓hTup_e, ↓hSub_e, ↓wNext_m, ↓wDrop_m, ↓wRet_m, ↓wRetN_m, ↓wPar_m, ↓wCB_e, ↓wCall_e, ↓wIxk_e, ↓wSl_e, ↓wNoPart_e, ↓wPart_e, ↓wBM_e, ↓wBM0_e, ↓wChain_e, ↓wNever_e, ↓vSeq_e, ↓vEnum_e, ↓vRng1_e, ↓vRng2_e, vZip, ↓blK_bl, ↓tupK_tup, ↓pairK_2, ↓inK_int, ↓truD_bl, ↓truD_int, ↓truD_non, ↓truD_tup, ↓isn_non, ↓isn_int, ↓isn_bl, ↓isn_str, ↓isn_tup, ↓isn_ref, ↓Z.add_int, ↓add_tup, ↓add_ref, ↓intD_eq, ↓intD0_eq, ↓Z.mul_int, ↓Z.eq_int, ↓Z.ne_int, ↓Z.eq_bl, ↓ne_bl, ↓Z.eq_str, ↓Z.ne_str, ↓eq_non, ↓eq_tup, ↓eq_ref, ↓Z.neg_int, ↓seq_tup, ↓seq_ilst, ↓Z.ix_tup, ↓ix_int, ↓sqK_some, ↓ixK_0, ↓ixK_s, ↓tyK_some, ↓ty_non, ↓ty_bl, ↓ty_int, ↓ty_str, ↓ty_tup, ↓ty_ilst, ↓isi_eq, ↓isi2_eq, isiW, ↓len_tup, ↓intc_int, ↓abs_int, ↓gcd_int, ↓list_seq, ↓tuple_seq, ↓all_ref, ↓sum_ref, ↓Z.sl_tup, ↓sl_ilst, ↓sl_ref, ↓walk_tup, ↓walk_ilst, ↓walk_ref, ↓en_ref, start', List.map_cons, List.map_nil, List.cons_append, List.nil_append, List.append_nil, List.length_cons, List.length_nil, List.replicate, List.set_cons_zero, List.set_cons_succ, List.set_nil, List.getElem?_cons_zero, List.getElem?_cons_succ, wipeD, Nat.zero_add, Nat.reduceAdd, Nat.reduceSub, Nat.sub_self, Nat.sub_zero, true_and, and_true, if_true, if_false, Bool.not_true, Bool.not_false, ite_true, ite_false, Bool.false_eq_true, decide_true, decide_false, decide_eq_true_eq, Int.cast_ofNat_Int, reduceIte, Bool.not_eq_true', decide_eq_false_iff_not, Bool.and_true, Bool.true_and, Bool.and_false, Bool.false_and, Bool.or_true, Bool.true_or, Bool.or_false, Bool.false_or, beq_self_eq_true, bne_self_eq_false, not_true_eq_false, not_false_eq_true, String.reduceBEq, String.reduceBNe, Int.reduceToNat, Bool.true_eq_false, reduceCtorEq, Int.reduceEq, Int.reduceLT, Int.reduceLE, gt_iff_lt, ge_iff_le, ↓wBreak_m, ↓wCont_m, ↓wPar3_m, trioK_3, ↓wFldS_m, ↓wFld_e, ↓wChain_e, ↓wLam_e, ↓wIsE_e, ↓wRaise0_e, ↓wCallX_e, ↓wCallKX_e, ↓wYes_e, ↓wCallK_e, isDct_eq, dkK_eq, ↓wDnewT_e])
local macro_rules | `(tactic| walk_at "go") => `(tactic| ((first | with_reducible refine hld_i ?_ | skip); try walk_at "st"))
local macro_rules | `(tactic| walk_at "sx") => `(tactic| ((try simp only [sp_is_integer, sp_lowest, sp_exact, sp_is_number, sp_is_corner, sp_is_index, sp_is_face, sp_Net_init, sp_scaled, sp_determinant, sp_steps, sp_edge_of, sp_surpluses, sp_open_edges, sp_is_closed, sp_volume, sp_law_draw, sp_law_of, sp_law_same, sp_law_low, sp_law_add, sp_law_sub, sp_law_mul, sp_law_hand, sp_law_number, sp_law_ring, sp_law_loft, sp_law_det, sp_law_volume, sp_law_bag, sp_as_number, sp_compare, sp_loft, sp_law_handed, sp_law_lt, sp_law_area, sp_law_spots, sp_law_heights, sp_law_right, sp_law_any]); try walk_at "st"))
local macro_rules | `(tactic| walk_at "s0") => `(tactic| simp (implicitDefEqProofs := false) only [start', List.map_cons, List.map_nil, List.length_cons, List.length_nil, Nat.zero_add, Nat.reduceAdd, Nat.reduceSub, List.replicate, List.cons_append, List.nil_append])
local macro_rules | `(tactic| walk_at "rr") => `(tactic| repeat (first | with_reducible refine hld_i ?_ | walk_at "st"))
local macro_rules | `(tactic| walk_at "rx") => `(tactic| repeat (first | with_reducible refine hld_i ?_ | walk_at "st" | simp only [sp_is_integer, sp_lowest, sp_exact, sp_is_number, sp_is_corner, sp_is_index, sp_is_face, sp_Net_init, sp_scaled, sp_determinant, sp_steps, sp_edge_of, sp_surpluses, sp_open_edges, sp_is_closed, sp_volume, sp_law_draw, sp_law_of, sp_law_same, sp_law_low, sp_law_add, sp_law_sub, sp_law_mul, sp_law_hand, sp_law_number, sp_law_ring, sp_law_loft, sp_law_det, sp_law_volume, sp_law_bag, sp_as_number, sp_compare, sp_loft, sp_law_handed, sp_law_lt, sp_law_area, sp_law_spots, sp_law_heights, sp_law_right, sp_law_any]))
local macro_rules | `(tactic| walk_at "dw") => `(tactic| (refine draw (by first | exact up_same | assumption) (by assumption) (by omega) (by omega) (by omega) ?_))

variable {K : PySem.W.Frag}

theorem same_num {n : Nat} {L : Lp} (q : Rat) : Same (n + 2) L (numD q) (numD q) := ⟨szl (Nat.le_of_ble_eq_true rfl), .cons rfl (.cons rfl .nil)⟩
theorem same_f {n : Nat} {L : Lp} (f : F3) : Same (n + 2) L (fD f) (fD f) := ⟨szl (Nat.le_of_ble_eq_true rfl), .cons rfl (.cons rfl (.cons rfl .nil))⟩
theorem same_c {n : Nat} {L : Lp} (c : C3) : Same (n + 3) L (cD c) (cD c) := ⟨szl (Nat.le_of_ble_eq_true rfl), .cons (same_num _) (.cons (same_num _) (.cons (same_num _) .nil))⟩
theorem all_same {α : Type} {R : D → D → Prop} (enc : α → D) (h : ∀ a, R (enc a) (enc a)) : ∀ l : List α, All2 R (l.map enc) (l.map enc)
  | [] => .nil
  | a :: l => .cons (h a) (all_same enc h l)
theorem len_opn (fs : List F3) : (opn fs).length ≤ 3 * fs.length := by
  unfold opn
  refine Nat.le_trans (List.length_filter_le _ _) ?_
  rw [List.length_mergeSort]
  exact surp_len fs
theorem same_e {L : Lp} {d e : D} {Q : VK'} {E : XK'} (h : Same 6 L d e) (q : Q (.bl true) L) : sp_law_same [d, e] L Q E := ⟨h, q⟩
theorem sz {α : Type} {l : List α} {enc : α → D} {n : Nat} (h : l.length ≤ n) (hn : n ≤ 1000) : (l.map enc).length ≤ sizeLine := by
  rw [List.length_map]
  exact szl (Nat.le_trans h hn)
end Hd

open PySem PySem.Spec PyProof.Rows L2 Z
namespace Hd
theorem opn_nil {fs : List F3} (h : ∀ e ∈ surp fs, e.2.2 = 0) : opn fs = [] := by
  unfold opn
  rw [List.filter_eq_nil_iff]
  intro e he
  simp [h e ((List.mergeSort_perm (surp fs) le3).mem_iff.mp he)]
/-- the lofts of k24: closed, their faces in range -/
theorem surp_loft : ∀ m ∈ [3, 4, 5, 6, 7], ∀ e ∈ surp (loftF m), e.2.2 = 0 := by decide +kernel
theorem opn_loft {m : Nat} (h : m ∈ [3, 4, 5, 6, 7]) : opn (loftF m) = [] := opn_nil (surp_loft m h)
theorem loftF_in7 : ∀ m ∈ [3, 4, 5, 6, 7], ∀ f ∈ loftF m, (0 ≤ f.1 ∧ f.1 < 2 * (m : Int)) ∧ (0 ≤ f.2.1 ∧ f.2.1 < 2 * (m : Int)) ∧ (0 ≤ f.2.2 ∧ f.2.2 < 2 * (m : Int)) := by decide +kernel
theorem loftF_len7 : ∀ m ∈ [3, 4, 5, 6, 7], (loftF m).length ≤ 90 := by decide +kernel
end Hd

open PySem PySem.Spec PyProof.Rows L2 Z
namespace Hd
local macro_rules | `(tactic| walk_at "st") => `(tactic| simp (implicitDefEqProofs := false) only [↓seqD_up, ↓seqL_up, ↓len_ilst, ↓len_up, ↓truD_ilst, up_up, List.length_map, ↓wFor_m, ↓frzK_up, ↓frzK_upi, ↓wFz_e, ↓wFg_e, ↓wLstF_e, ↓addF_int, ↓addF_l, ↓addF_tup, ↓addF_str, ↓mulF_int, ↓mulF_l, ↓wSlF_e, ↓slF_tup, ↓slF_str, ↓slF_l, ↓slF_scr, ↓slF_ref, ↓listF_eq, ↓listdF_eq, ↓sortedF_eq, ↓allF_eq, ↓sumF_eq, ↓extF_eq, ↓vEnumF_e, ↓enF_l, ↓fldF_obj, ↓fldF_ref, ↓wFldF_e, ↓wLcF_e, ↓pName_e, ↓pNil_e, ↓pCons_e, ↓pTup_e, ↓gK_some, ↓obind_e, ↓seqL_ilst, ↓addM_eq, ↓sq2_some, ↓wVar_0, ↓wVar_s, ↓hNil_e, ↓hCons_e, ↓wDget_e, ↓wDget2_e, ↓wDput_m, ↓wSortIt_e, ↓wMake_e, ↓wIfS_m, ↓wSeq_m, ↓wAsg_m, ↓hName_e, ↓wC_e, ↓wNil_e, ↓wCons_e, ↓wTup_e, ↓wLst_e, ↓wOp_e, ↓wUn_e, ↓wIf_e, ↓wAndV_e, ↓wOrV_e, ↓wNotV_e, ↓wB_e, ↓wAnd_e, ↓wOr_e, ↓zNot_e, ↓zTru_e, ↓hCons_e, ↓hTup_e, ↓hSub_e, ↓wNext_m, ↓wDrop_m, ↓wRet_m, ↓wRetN_m, ↓wPar_m, ↓wCB_e, ↓wCall_e, ↓wIxk_e, ↓wSl_e, ↓wNoPart_e, ↓wPart_e, ↓wBM_e, ↓wBM0_e, ↓wChain_e, ↓wNever_e, ↓vSeq_e, ↓vEnum_e, ↓vRng1_e, ↓vRng2_e, vZip, ↓blK_bl, ↓tupK_tup, ↓pairK_2, ↓inK_int, ↓truD_bl, ↓truD_int, ↓truD_non, ↓truD_tup, ↓isn_non, ↓isn_int, ↓isn_bl, ↓isn_str, ↓isn_tup, ↓isn_ref, ↓Z.add_int, ↓add_tup, ↓add_ref, ↓intD_eq, ↓intD0_eq, ↓Z.mul_int, ↓Z.eq_int, ↓Z.ne_int, ↓Z.eq_bl, ↓ne_bl, ↓Z.eq_str, ↓Z.ne_str, ↓eq_non, ↓eq_tup, ↓eq_ref, ↓Z.neg_int, ↓seq_tup, ↓seq_ilst, ↓Z.ix_tup, ↓ix_int, ↓sqK_some, ↓ixK_0, ↓ixK_s, ↓tyK_some, ↓ty_non, ↓ty_bl, ↓ty_int, ↓ty_str, ↓ty_tup, ↓ty_ilst, ↓isi_eq, ↓isi2_eq, isiW, ↓len_tup, ↓intc_int, ↓abs_int, ↓gcd_int, ↓list_seq, ↓tuple_seq, ↓all_ref, ↓sum_ref, ↓Z.sl_tup, ↓sl_ilst, ↓sl_ref, ↓walk_tup, ↓walk_ilst, ↓walk_ref, ↓en_ref, start', List.map_cons, List.map_nil, List.cons_append, List.nil_append, List.append_nil, List.length_cons, List.length_nil, List.replicate, List.set_cons_zero, List.set_cons_succ, List.set_nil, List.getElem?_cons_zero, List.getElem?_cons_succ, wipeD, Nat.zero_add, Nat.reduceAdd, Nat.reduceSub, Nat.sub_self, Nat.sub_zero, true_and, and_true, if_true, if_false, Bool.not_true, Bool.not_false, ite_true, ite_false, Bool.false_eq_true, decide_true, decide_false, decide_eq_true_eq, Int.cast_ofNat_Int, reduceIte, Bool.not_eq_true', decide_eq_false_iff_not, Bool.and_true, Bool.true_and, Bool.and_false, Bool.false_and, Bool.or_true, Bool.true_or, Bool.or_false, Bool.false_or, beq_self_eq_true, bne_self_eq_false, not_true_eq_false, not_false_eq_true, String.reduceBEq, String.reduceBNe, Int.reduceToNat, Bool.true_eq_false, reduceCtorEq, Int.reduceEq, Int.reduceLT, Int.reduceLE, gt_iff_lt, ge_iff_le, ↓wBreak_m, ↓wCont_m, ↓wPar3_m, trioK_3, ↓wFldS_m, ↓wFld_e, ↓wChain_e, ↓wLam_e, ↓wIsE_e, ↓wRaise0_e, ↓wCallX_e, ↓wCallKX_e, ↓wYes_e, ↓wCallK_e, isDct_eq, dkK_eq, ↓wDnewT_e])
local macro_rules | `(tactic| walk_at "go") => `(tactic| ((first | with_reducible refine hld_i ?_ | skip); try walk_at "st"))
local macro_rules | `(tactic| walk_at "sx") => `(tactic| ((try simp only [sp_is_integer, sp_lowest, sp_exact, sp_is_number, sp_is_corner, sp_is_index, sp_is_face, sp_Net_init, sp_scaled, sp_determinant, sp_steps, sp_edge_of, sp_surpluses, sp_open_edges, sp_is_closed, sp_volume, sp_law_draw, sp_law_of, sp_law_same, sp_law_low, sp_law_add, sp_law_sub, sp_law_mul, sp_law_hand, sp_law_number, sp_law_ring, sp_law_loft, sp_law_det, sp_law_volume, sp_law_bag, sp_as_number, sp_compare, sp_loft, sp_law_handed, sp_law_lt, sp_law_area, sp_law_spots, sp_law_heights, sp_law_right, sp_law_any]); try walk_at "st"))
local macro_rules | `(tactic| walk_at "s0") => `(tactic| simp (implicitDefEqProofs := false) only [start', List.map_cons, List.map_nil, List.length_cons, List.length_nil, Nat.zero_add, Nat.reduceAdd, Nat.reduceSub, List.replicate, List.cons_append, List.nil_append])
local macro_rules | `(tactic| walk_at "rr") => `(tactic| repeat (first | with_reducible refine hld_i ?_ | walk_at "st"))
local macro_rules | `(tactic| walk_at "rx") => `(tactic| repeat (first | with_reducible refine hld_i ?_ | walk_at "st" | simp only [sp_is_integer, sp_lowest, sp_exact, sp_is_number, sp_is_corner, sp_is_index, sp_is_face, sp_Net_init, sp_scaled, sp_determinant, sp_steps, sp_edge_of, sp_surpluses, sp_open_edges, sp_is_closed, sp_volume, sp_law_draw, sp_law_of, sp_law_same, sp_law_low, sp_law_add, sp_law_sub, sp_law_mul, sp_law_hand, sp_law_number, sp_law_ring, sp_law_loft, sp_law_det, sp_law_volume, sp_law_bag, sp_as_number, sp_compare, sp_loft, sp_law_handed, sp_law_lt, sp_law_area, sp_law_spots, sp_law_heights, sp_law_right, sp_law_any]))
local macro_rules | `(tactic| walk_at "dw") => `(tactic| (refine draw (by first | exact up_same | assumption) (by assumption) (by omega) (by omega) (by omega) ?_))

variable {K : PySem.W.Frag}
theorem numD_i1 {q : Rat} (h : q.den = 1) : numD q = .tup [.int q.num, .int 1] := by unfold numD; rw [h]; rfl
theorem rd_as_number : RD_as_number K := by
  intro ds L Q E h
  unfold sp_as_number at h
  split at h
  · rename_i d
    obtain ⟨q, hq, h⟩ := h
    rcases hq with rfl | ⟨h1, rfl⟩
    · unfold t_as_number
      walk_at "s0"
      walk_at "rx"
      exact Dn.mk h
    · unfold t_as_number
      walk_at "s0"
      walk_at "rx"
      rw [numD_i1 h1] at h
      exact Dn.mk h
  · exact h.elim
theorem lt_num {p q : Rat} : (p.num * (q.den : Int) < q.num * (p.den : Int)) ↔ p < q := (Rat.lt_iff p q).symm
theorem rd_law_lt : RD_law_lt K := by
  intro ds L Q E h
  unfold sp_law_lt at h
  split at h
  · rename_i d e
    obtain ⟨p, q, rfl, rfl, hp, hq, h⟩ := h
    unfold t_law_lt
    walk_at "s0"
    walk_at "rr"
    refine ⟨(sm_mul hp hq).2.2.1, (sm_mul hp hq).2.2.2, ?_⟩
    rw [decide_eq_decide.mpr lt_num]
    exact Dn.mk h
  · exact h.elim
end Hd

open PySem PySem.Spec PyProof.Rows L2 Z
namespace Hd
local macro_rules | `(tactic| walk_at "st") => `(tactic| simp (implicitDefEqProofs := false) only [↓seqD_up, ↓seqL_up, ↓len_ilst, ↓len_up, ↓truD_ilst, up_up, List.length_map, ↓wFor_m, ↓frzK_up, ↓frzK_upi, ↓wFz_e, ↓wFg_e, ↓wLstF_e, ↓addF_int, ↓addF_l, ↓addF_tup, ↓addF_str, ↓mulF_int, ↓mulF_l, ↓wSlF_e, ↓slF_tup, ↓slF_str, ↓slF_l, ↓slF_scr, ↓slF_ref, ↓listF_eq, ↓listdF_eq, ↓sortedF_eq, ↓allF_eq, ↓sumF_eq, ↓extF_eq, ↓vEnumF_e, ↓enF_l, ↓fldF_obj, ↓fldF_ref, ↓wFldF_e, ↓wLcF_e, ↓pName_e, ↓pNil_e, ↓pCons_e, ↓pTup_e, ↓gK_some, ↓obind_e, ↓seqL_ilst, ↓addM_eq, ↓sq2_some, ↓wVar_0, ↓wVar_s, ↓hNil_e, ↓hCons_e, ↓wDget_e, ↓wDget2_e, ↓wDput_m, ↓wSortIt_e, ↓wMake_e, ↓wIfS_m, ↓wSeq_m, ↓wAsg_m, ↓hName_e, ↓wC_e, ↓wNil_e, ↓wCons_e, ↓wTup_e, ↓wLst_e, ↓wOp_e, ↓wUn_e, ↓wIf_e, ↓wAndV_e, ↓wOrV_e, ↓wNotV_e, ↓wB_e, ↓wAnd_e, ↓wOr_e, ↓zNot_e, ↓zTru_e, ↓hCons_e, ↓hTup_e, ↓hSub_e, ↓wNext_m, ↓wDrop_m, ↓wRet_m, ↓wRetN_m, ↓wPar_m, ↓wCB_e, ↓wCall_e, ↓wIxk_e, ↓wSl_e, ↓wNoPart_e, ↓wPart_e, ↓wBM_e, ↓wBM0_e, ↓wChain_e, ↓wNever_e, ↓vSeq_e, ↓vEnum_e, ↓vRng1_e, ↓vRng2_e, vZip, ↓blK_bl, ↓tupK_tup, ↓pairK_2, ↓inK_int, ↓truD_bl, ↓truD_int, ↓truD_non, ↓truD_tup, ↓isn_non, ↓isn_int, ↓isn_bl, ↓isn_str, ↓isn_tup, ↓isn_ref, ↓Z.add_int, ↓add_tup, ↓add_ref, ↓intD_eq, ↓intD0_eq, ↓Z.mul_int, ↓Z.eq_int, ↓Z.ne_int, ↓Z.eq_bl, ↓ne_bl, ↓Z.eq_str, ↓Z.ne_str, ↓eq_non, ↓eq_tup, ↓eq_ref, ↓Z.neg_int, ↓seq_tup, ↓seq_ilst, ↓Z.ix_tup, ↓ix_int, ↓sqK_some, ↓ixK_0, ↓ixK_s, ↓tyK_some, ↓ty_non, ↓ty_bl, ↓ty_int, ↓ty_str, ↓ty_tup, ↓ty_ilst, ↓isi_eq, ↓isi2_eq, isiW, ↓len_tup, ↓intc_int, ↓abs_int, ↓gcd_int, ↓list_seq, ↓tuple_seq, ↓all_ref, ↓sum_ref, ↓Z.sl_tup, ↓sl_ilst, ↓sl_ref, ↓walk_tup, ↓walk_ilst, ↓walk_ref, ↓en_ref, start', List.map_cons, List.map_nil, List.cons_append, List.nil_append, List.append_nil, List.length_cons, List.length_nil, List.replicate, List.set_cons_zero, List.set_cons_succ, List.set_nil, List.getElem?_cons_zero, List.getElem?_cons_succ, wipeD, Nat.zero_add, Nat.reduceAdd, Nat.reduceSub, Nat.sub_self, Nat.sub_zero, true_and, and_true, if_true, if_false, Bool.not_true, Bool.not_false, ite_true, ite_false, Bool.false_eq_true, decide_true, decide_false, decide_eq_true_eq, Int.cast_ofNat_Int, reduceIte, Bool.not_eq_true', decide_eq_false_iff_not, Bool.and_true, Bool.true_and, Bool.and_false, Bool.false_and, Bool.or_true, Bool.true_or, Bool.or_false, Bool.false_or, beq_self_eq_true, bne_self_eq_false, not_true_eq_false, not_false_eq_true, String.reduceBEq, String.reduceBNe, Int.reduceToNat, Bool.true_eq_false, reduceCtorEq, Int.reduceEq, Int.reduceLT, Int.reduceLE, gt_iff_lt, ge_iff_le, ↓wBreak_m, ↓wCont_m, ↓wPar3_m, trioK_3, ↓wFldS_m, ↓wFld_e, ↓wChain_e, ↓wLam_e, ↓wIsE_e, ↓wRaise0_e, ↓wCallX_e, ↓wCallKX_e, ↓wYes_e, ↓wCallK_e, isDct_eq, dkK_eq, ↓wDnewT_e])
local macro_rules | `(tactic| walk_at "go") => `(tactic| ((first | with_reducible refine hld_i ?_ | skip); try walk_at "st"))
local macro_rules | `(tactic| walk_at "sx") => `(tactic| ((try simp only [sp_is_integer, sp_lowest, sp_exact, sp_is_number, sp_is_corner, sp_is_index, sp_is_face, sp_Net_init, sp_scaled, sp_determinant, sp_steps, sp_edge_of, sp_surpluses, sp_open_edges, sp_is_closed, sp_volume, sp_law_draw, sp_law_of, sp_law_same, sp_law_low, sp_law_add, sp_law_sub, sp_law_mul, sp_law_hand, sp_law_number, sp_law_ring, sp_law_loft, sp_law_det, sp_law_volume, sp_law_bag, sp_as_number, sp_compare, sp_loft, sp_law_handed, sp_law_lt, sp_law_area, sp_law_spots, sp_law_heights, sp_law_right, sp_law_any]); try walk_at "st"))
local macro_rules | `(tactic| walk_at "s0") => `(tactic| simp (implicitDefEqProofs := false) only [start', List.map_cons, List.map_nil, List.length_cons, List.length_nil, Nat.zero_add, Nat.reduceAdd, Nat.reduceSub, List.replicate, List.cons_append, List.nil_append])
local macro_rules | `(tactic| walk_at "rr") => `(tactic| repeat (first | with_reducible refine hld_i ?_ | walk_at "st"))
local macro_rules | `(tactic| walk_at "rx") => `(tactic| repeat (first | with_reducible refine hld_i ?_ | walk_at "st" | simp only [sp_is_integer, sp_lowest, sp_exact, sp_is_number, sp_is_corner, sp_is_index, sp_is_face, sp_Net_init, sp_scaled, sp_determinant, sp_steps, sp_edge_of, sp_surpluses, sp_open_edges, sp_is_closed, sp_volume, sp_law_draw, sp_law_of, sp_law_same, sp_law_low, sp_law_add, sp_law_sub, sp_law_mul, sp_law_hand, sp_law_number, sp_law_ring, sp_law_loft, sp_law_det, sp_law_volume, sp_law_bag, sp_as_number, sp_compare, sp_loft, sp_law_handed, sp_law_lt, sp_law_area, sp_law_spots, sp_law_heights, sp_law_right, sp_law_any]))
local macro_rules | `(tactic| walk_at "dw") => `(tactic| (refine draw (by first | exact up_same | assumption) (by assumption) (by omega) (by omega) (by omega) ?_))

variable {K : PySem.W.Frag}
theorem rd_compare : RD_compare K := by
  intro ds L Q E h
  unfold sp_compare at h
  split at h
  · rename_i d e
    obtain ⟨p, q, hp, hq, sp, sq, h⟩ := h
    unfold t_compare t_compare_1
    walk_at "s0"
    walk_at "rr"
    refine ⟨p, hp, ?_⟩
    walk_at "rr"
    refine ⟨q, hq, ?_⟩
    walk_at "rr"
    refine ⟨(sm_mul sp sq).2.2.1, (sm_mul sp sq).2.2.2, ?_⟩
    walk_at "rr"
    have e1 := @lt_num p q
    have e2 := @lt_num q p
    unfold cmpR at h
    by_cases c1 : p < q
    · rw [if_pos c1] at h
      rw [if_pos (e1.mpr c1)]
      walk_at "rr"
      exact Dn.mk h
    · rw [if_neg c1] at h
      rw [if_neg (fun z => c1 (e1.mp z))]
      walk_at "rr"
      by_cases c2 : q < p
      · rw [if_pos c2] at h
        rw [if_pos (e2.mpr c2)]
        walk_at "rr"
        exact Dn.mk h
      · rw [if_neg c2] at h
        rw [if_neg (fun z => c2 (e2.mp z))]
        walk_at "rr"
        exact Dn.mk h
  · exact h.elim
end Hd

open PySem PySem.Spec PyProof.Rows L2 Z
namespace Hd
local macro_rules | `(tactic| walk_at "st") => `(tactic| simp (implicitDefEqProofs := false) only [↓seqD_up, ↓seqL_up, ↓len_ilst, ↓len_up, ↓truD_ilst, up_up, List.length_map, ↓wFor_m, ↓frzK_up, ↓frzK_upi, ↓wFz_e, ↓wFg_e, ↓wLstF_e, ↓addF_int, ↓addF_l, ↓addF_tup, ↓addF_str, ↓mulF_int, ↓mulF_l, ↓wSlF_e, ↓slF_tup, ↓slF_str, ↓slF_l, ↓slF_scr, ↓slF_ref, ↓listF_eq, ↓listdF_eq, ↓sortedF_eq, ↓allF_eq, ↓sumF_eq, ↓extF_eq, ↓vEnumF_e, ↓enF_l, ↓fldF_obj, ↓fldF_ref, ↓wFldF_e, ↓wLcF_e, ↓pName_e, ↓pNil_e, ↓pCons_e, ↓pTup_e, ↓gK_some, ↓obind_e, ↓seqL_ilst, ↓addM_eq, ↓sq2_some, ↓wVar_0, ↓wVar_s, ↓hNil_e, ↓hCons_e, ↓wDget_e, ↓wDget2_e, ↓wDput_m, ↓wSortIt_e, ↓wMake_e, ↓wIfS_m, ↓wSeq_m, ↓wAsg_m, ↓hName_e, ↓wC_e, ↓wNil_e, ↓wCons_e, ↓wTup_e, ↓wLst_e, ↓wOp_e, ↓wUn_e, ↓wIf_e, ↓wAndV_e, ↓wOrV_e, ↓wNotV_e, ↓wB_e, ↓wAnd_e, ↓wOr_e, ↓zNot_e, ↓zTru_e, ↓hCons_e, ↓hTup_e, ↓hSub_e, ↓wNext_m, ↓wDrop_m, ↓wRet_m, ↓wRetN_m, ↓wPar_m, ↓wCB_e, ↓wCall_e, ↓wIxk_e, ↓wSl_e, ↓wNoPart_e, ↓wPart_e, ↓wBM_e, ↓wBM0_e, ↓wChain_e, ↓wNever_e, ↓vSeq_e, ↓vEnum_e, ↓vRng1_e, ↓vRng2_e, vZip, ↓blK_bl, ↓tupK_tup, ↓pairK_2, ↓inK_int, ↓truD_bl, ↓truD_int, ↓truD_non, ↓truD_tup, ↓isn_non, ↓isn_int, ↓isn_bl, ↓isn_str, ↓isn_tup, ↓isn_ref, ↓Z.add_int, ↓add_tup, ↓add_ref, ↓intD_eq, ↓intD0_eq, ↓Z.mul_int, ↓Z.eq_int, ↓Z.ne_int, ↓Z.eq_bl, ↓ne_bl, ↓Z.eq_str, ↓Z.ne_str, ↓eq_non, ↓eq_tup, ↓eq_ref, ↓Z.neg_int, ↓seq_tup, ↓seq_ilst, ↓Z.ix_tup, ↓ix_int, ↓sqK_some, ↓ixK_0, ↓ixK_s, ↓tyK_some, ↓ty_non, ↓ty_bl, ↓ty_int, ↓ty_str, ↓ty_tup, ↓ty_ilst, ↓isi_eq, ↓isi2_eq, isiW, ↓len_tup, ↓intc_int, ↓abs_int, ↓gcd_int, ↓list_seq, ↓tuple_seq, ↓all_ref, ↓sum_ref, ↓Z.sl_tup, ↓sl_ilst, ↓sl_ref, ↓walk_tup, ↓walk_ilst, ↓walk_ref, ↓en_ref, start', List.map_cons, List.map_nil, List.cons_append, List.nil_append, List.append_nil, List.length_cons, List.length_nil, List.replicate, List.set_cons_zero, List.set_cons_succ, List.set_nil, List.getElem?_cons_zero, List.getElem?_cons_succ, wipeD, Nat.zero_add, Nat.reduceAdd, Nat.reduceSub, Nat.sub_self, Nat.sub_zero, true_and, and_true, if_true, if_false, Bool.not_true, Bool.not_false, ite_true, ite_false, Bool.false_eq_true, decide_true, decide_false, decide_eq_true_eq, Int.cast_ofNat_Int, reduceIte, Bool.not_eq_true', decide_eq_false_iff_not, Bool.and_true, Bool.true_and, Bool.and_false, Bool.false_and, Bool.or_true, Bool.true_or, Bool.or_false, Bool.false_or, beq_self_eq_true, bne_self_eq_false, not_true_eq_false, not_false_eq_true, String.reduceBEq, String.reduceBNe, Int.reduceToNat, Bool.true_eq_false, reduceCtorEq, Int.reduceEq, Int.reduceLT, Int.reduceLE, gt_iff_lt, ge_iff_le, ↓wBreak_m, ↓wCont_m, ↓wPar3_m, trioK_3, ↓wFldS_m, ↓wFld_e, ↓wChain_e, ↓wLam_e, ↓wIsE_e, ↓wRaise0_e, ↓wCallX_e, ↓wCallKX_e, ↓wYes_e, ↓wCallK_e, isDct_eq, dkK_eq, ↓wDnewT_e])
local macro_rules | `(tactic| walk_at "go") => `(tactic| ((first | with_reducible refine hld_i ?_ | skip); try walk_at "st"))
local macro_rules | `(tactic| walk_at "sx") => `(tactic| ((try simp only [sp_is_integer, sp_lowest, sp_exact, sp_is_number, sp_is_corner, sp_is_index, sp_is_face, sp_Net_init, sp_scaled, sp_determinant, sp_steps, sp_edge_of, sp_surpluses, sp_open_edges, sp_is_closed, sp_volume, sp_law_draw, sp_law_of, sp_law_same, sp_law_low, sp_law_add, sp_law_sub, sp_law_mul, sp_law_hand, sp_law_number, sp_law_ring, sp_law_loft, sp_law_det, sp_law_volume, sp_law_bag, sp_as_number, sp_compare, sp_loft, sp_law_handed, sp_law_lt, sp_law_area, sp_law_spots, sp_law_heights, sp_law_right, sp_law_any]); try walk_at "st"))
local macro_rules | `(tactic| walk_at "s0") => `(tactic| simp (implicitDefEqProofs := false) only [start', List.map_cons, List.map_nil, List.length_cons, List.length_nil, Nat.zero_add, Nat.reduceAdd, Nat.reduceSub, List.replicate, List.cons_append, List.nil_append])
local macro_rules | `(tactic| walk_at "rr") => `(tactic| repeat (first | with_reducible refine hld_i ?_ | walk_at "st"))
local macro_rules | `(tactic| walk_at "rx") => `(tactic| repeat (first | with_reducible refine hld_i ?_ | walk_at "st" | simp only [sp_is_integer, sp_lowest, sp_exact, sp_is_number, sp_is_corner, sp_is_index, sp_is_face, sp_Net_init, sp_scaled, sp_determinant, sp_steps, sp_edge_of, sp_surpluses, sp_open_edges, sp_is_closed, sp_volume, sp_law_draw, sp_law_of, sp_law_same, sp_law_low, sp_law_add, sp_law_sub, sp_law_mul, sp_law_hand, sp_law_number, sp_law_ring, sp_law_loft, sp_law_det, sp_law_volume, sp_law_bag, sp_as_number, sp_compare, sp_loft, sp_law_handed, sp_law_lt, sp_law_area, sp_law_spots, sp_law_heights, sp_law_right, sp_law_any]))
local macro_rules | `(tactic| walk_at "dw") => `(tactic| (refine draw (by first | exact up_same | assumption) (by assumption) (by omega) (by omega) (by omega) ?_))

variable {K : PySem.W.Frag}
theorem rd_law_right (hc : Cls K (He.ga K "Net")) (n1 : NoAttr K (He.ga K "Net") "corners") (n2 : NoAttr K (He.ga K "Net") "faces") : RD_law_right K := by
  intro ds L Q E h
  unfold sp_law_right at h
  split at h
  · obtain ⟨cs, fs, rfl, rfl, hg, ho, h⟩ := h
    have lf := hg.lf
    have lc := hg.lc
    unfold t_law_right
    walk_at "s0"
    walk_at "rr"
    refine ⟨hc, n1, _, rfl, ?_⟩
    walk_at "rr"
    refine ⟨hc, n2, _, rfl, ?_⟩
    walk_at "rr"
    refine same_e ⟨szl (Nat.le_of_ble_eq_true rfl), .cons ⟨sz (n := 40) lc (by decide), all_same _ same_c _⟩ (.cons ⟨sz (n := 90) lf (by decide), all_same _ same_f _⟩ .nil)⟩ ?_
    walk_at "rr"
    unfold t_law_right_1
    walk_at "rr"
    refine ⟨cs, fs, rfl, lf, ?_⟩
    rw [ho]
    walk_at "rr"
    refine ⟨cs, fs, rfl, lf, fun p np => ?_⟩
    rw [ho]
    walk_at "rr"
    rw [del_no np]
    refine ⟨cs, fs, rfl, hg, ?_⟩
    walk_at "rr"
    refine ⟨cs, fs, rfl, hg, ?_⟩
    walk_at "rr"
    refine same_e ⟨szl (Nat.le_of_ble_eq_true rfl), .cons rfl (.cons ⟨szl (Nat.le_of_ble_eq_true rfl), .nil⟩ (.cons (same_num _) .nil))⟩ ?_
    exact Dn.mk h
  · exact h.elim
end Hd

open PySem PySem.Spec PyProof.Rows L2 Z
namespace Hd
local macro_rules | `(tactic| walk_at "st") => `(tactic| simp (implicitDefEqProofs := false) only [↓seqD_up, ↓seqL_up, ↓len_ilst, ↓len_up, ↓truD_ilst, up_up, List.length_map, ↓wFor_m, ↓frzK_up, ↓frzK_upi, ↓wFz_e, ↓wFg_e, ↓wLstF_e, ↓addF_int, ↓addF_l, ↓addF_tup, ↓addF_str, ↓mulF_int, ↓mulF_l, ↓wSlF_e, ↓slF_tup, ↓slF_str, ↓slF_l, ↓slF_scr, ↓slF_ref, ↓listF_eq, ↓listdF_eq, ↓sortedF_eq, ↓allF_eq, ↓sumF_eq, ↓extF_eq, ↓vEnumF_e, ↓enF_l, ↓fldF_obj, ↓fldF_ref, ↓wFldF_e, ↓wLcF_e, ↓pName_e, ↓pNil_e, ↓pCons_e, ↓pTup_e, ↓gK_some, ↓obind_e, ↓seqL_ilst, ↓addM_eq, ↓sq2_some, ↓wVar_0, ↓wVar_s, ↓hNil_e, ↓hCons_e, ↓wDget_e, ↓wDget2_e, ↓wDput_m, ↓wSortIt_e, ↓wMake_e, ↓wIfS_m, ↓wSeq_m, ↓wAsg_m, ↓hName_e, ↓wC_e, ↓wNil_e, ↓wCons_e, ↓wTup_e, ↓wLst_e, ↓wOp_e, ↓wUn_e, ↓wIf_e, ↓wAndV_e, ↓wOrV_e, ↓wNotV_e, ↓wB_e, ↓wAnd_e, ↓wOr_e, ↓zNot_e, ↓zTru_e, ↓hCons_e, ↓hTup_e, ↓hSub_e, ↓wNext_m, ↓wDrop_m, ↓wRet_m, ↓wRetN_m, ↓wPar_m, ↓wCB_e, ↓wCall_e, ↓wIxk_e, ↓wSl_e, ↓wNoPart_e, ↓wPart_e, ↓wBM_e, ↓wBM0_e, ↓wChain_e, ↓wNever_e, ↓vSeq_e, ↓vEnum_e, ↓vRng1_e, ↓vRng2_e, vZip, ↓blK_bl, ↓tupK_tup, ↓pairK_2, ↓inK_int, ↓truD_bl, ↓truD_int, ↓truD_non, ↓truD_tup, ↓isn_non, ↓isn_int, ↓isn_bl, ↓isn_str, ↓isn_tup, ↓isn_ref, ↓Z.add_int, ↓add_tup, ↓add_ref, ↓intD_eq, ↓intD0_eq, ↓Z.mul_int, ↓Z.eq_int, ↓Z.ne_int, ↓Z.eq_bl, ↓ne_bl, ↓Z.eq_str, ↓Z.ne_str, ↓eq_non, ↓eq_tup, ↓eq_ref, ↓Z.neg_int, ↓seq_tup, ↓seq_ilst, ↓Z.ix_tup, ↓ix_int, ↓sqK_some, ↓ixK_0, ↓ixK_s, ↓tyK_some, ↓ty_non, ↓ty_bl, ↓ty_int, ↓ty_str, ↓ty_tup, ↓ty_ilst, ↓isi_eq, ↓isi2_eq, isiW, ↓len_tup, ↓intc_int, ↓abs_int, ↓gcd_int, ↓list_seq, ↓tuple_seq, ↓all_ref, ↓sum_ref, ↓Z.sl_tup, ↓sl_ilst, ↓sl_ref, ↓walk_tup, ↓walk_ilst, ↓walk_ref, ↓en_ref, start', List.map_cons, List.map_nil, List.cons_append, List.nil_append, List.append_nil, List.length_cons, List.length_nil, List.replicate, List.set_cons_zero, List.set_cons_succ, List.set_nil, List.getElem?_cons_zero, List.getElem?_cons_succ, wipeD, Nat.zero_add, Nat.reduceAdd, Nat.reduceSub, Nat.sub_self, Nat.sub_zero, true_and, and_true, if_true, if_false, Bool.not_true, Bool.not_false, ite_true, ite_false, Bool.false_eq_true, decide_true, decide_false, decide_eq_true_eq, Int.cast_ofNat_Int, reduceIte, Bool.not_eq_true', decide_eq_false_iff_not, Bool.and_true, Bool.true_and, Bool.and_false, Bool.false_and, Bool.or_true, Bool.true_or, Bool.or_false, Bool.false_or, beq_self_eq_true, bne_self_eq_false, not_true_eq_false, not_false_eq_true, String.reduceBEq, String.reduceBNe, Int.reduceToNat, Bool.true_eq_false, reduceCtorEq, Int.reduceEq, Int.reduceLT, Int.reduceLE, gt_iff_lt, ge_iff_le, ↓wBreak_m, ↓wCont_m, ↓wPar3_m, trioK_3, ↓wFldS_m, ↓wFld_e, ↓wChain_e, ↓wLam_e, ↓wIsE_e, ↓wRaise0_e, ↓wCallX_e, ↓wCallKX_e, ↓wYes_e, ↓wCallK_e, isDct_eq, dkK_eq, ↓wDnewT_e])
local macro_rules | `(tactic| walk_at "go") => `(tactic| ((first | with_reducible refine hld_i ?_ | skip); try walk_at "st"))
local macro_rules | `(tactic| walk_at "sx") => `(tactic| ((try simp only [sp_is_integer, sp_lowest, sp_exact, sp_is_number, sp_is_corner, sp_is_index, sp_is_face, sp_Net_init, sp_scaled, sp_determinant, sp_steps, sp_edge_of, sp_surpluses, sp_open_edges, sp_is_closed, sp_volume, sp_law_draw, sp_law_of, sp_law_same, sp_law_low, sp_law_add, sp_law_sub, sp_law_mul, sp_law_hand, sp_law_number, sp_law_ring, sp_law_loft, sp_law_det, sp_law_volume, sp_law_bag, sp_as_number, sp_compare, sp_loft, sp_law_handed, sp_law_lt, sp_law_area, sp_law_spots, sp_law_heights, sp_law_right, sp_law_any]); try walk_at "st"))
local macro_rules | `(tactic| walk_at "s0") => `(tactic| simp (implicitDefEqProofs := false) only [start', List.map_cons, List.map_nil, List.length_cons, List.length_nil, Nat.zero_add, Nat.reduceAdd, Nat.reduceSub, List.replicate, List.cons_append, List.nil_append])
local macro_rules | `(tactic| walk_at "rr") => `(tactic| repeat (first | with_reducible refine hld_i ?_ | walk_at "st"))
local macro_rules | `(tactic| walk_at "rx") => `(tactic| repeat (first | with_reducible refine hld_i ?_ | walk_at "st" | simp only [sp_is_integer, sp_lowest, sp_exact, sp_is_number, sp_is_corner, sp_is_index, sp_is_face, sp_Net_init, sp_scaled, sp_determinant, sp_steps, sp_edge_of, sp_surpluses, sp_open_edges, sp_is_closed, sp_volume, sp_law_draw, sp_law_of, sp_law_same, sp_law_low, sp_law_add, sp_law_sub, sp_law_mul, sp_law_hand, sp_law_number, sp_law_ring, sp_law_loft, sp_law_det, sp_law_volume, sp_law_bag, sp_as_number, sp_compare, sp_loft, sp_law_handed, sp_law_lt, sp_law_area, sp_law_spots, sp_law_heights, sp_law_right, sp_law_any]))
local macro_rules | `(tactic| walk_at "dw") => `(tactic| (refine draw (by first | exact up_same | assumption) (by assumption) (by omega) (by omega) (by omega) ?_))

variable {K : PySem.W.Frag}
theorem rd_law_heights : RD_law_heights K := by
  intro ds L Q E h
  unfold sp_law_heights at h
  split at h
  · rename_i b
    obtain ⟨o, T, hb, hB, hT, h⟩ := h
    unfold t_law_heights
    walk_at "s0"
    walk_at "rr"
    refine ⟨o, T, hb, hB, by omega, fun p o1 hp hB1 => ?_⟩
    walk_at "rr"
    refine ⟨o1, T + 9, up_same, hB1, by omega, fun q o2 hq hB2 => ?_⟩
    walk_at "rr"
    refine draw up_same hB2 (by omega) (by decide) (by decide) fun n o3 hn hB3 => ?_
    walk_at "rr"
    have e1 := h p q o3 hp hq (hB3.le (by omega))
    have e2 := h q p o3 hq hp (hB3.le (by omega))
    by_cases c1 : 0 < (n : Int)
    · rw [if_pos c1]
      walk_at "rr"
      refine ⟨q, p, rfl, rfl, ok1_sm hq, ok1_sm hp, ?_⟩
      walk_at "rr"
      by_cases c2 : q < p
      · rw [if_pos c2]
        walk_at "rr"
        exact Dn.mk e2
      · rw [if_neg c2]
        walk_at "rr"
        exact Dn.mk e1
    · rw [if_neg c1]
      walk_at "rr"
      exact Dn.mk e1
  · exact h.elim
end Hd

open PySem PySem.Spec PyProof.Rows L2 Z
namespace Hd
local macro_rules | `(tactic| walk_at "st") => `(tactic| simp (implicitDefEqProofs := false) only [↓seqD_up, ↓seqL_up, ↓len_ilst, ↓len_up, ↓truD_ilst, up_up, List.length_map, ↓wFor_m, ↓frzK_up, ↓frzK_upi, ↓wFz_e, ↓wFg_e, ↓wLstF_e, ↓addF_int, ↓addF_l, ↓addF_tup, ↓addF_str, ↓mulF_int, ↓mulF_l, ↓wSlF_e, ↓slF_tup, ↓slF_str, ↓slF_l, ↓slF_scr, ↓slF_ref, ↓listF_eq, ↓listdF_eq, ↓sortedF_eq, ↓allF_eq, ↓sumF_eq, ↓extF_eq, ↓vEnumF_e, ↓enF_l, ↓fldF_obj, ↓fldF_ref, ↓wFldF_e, ↓wLcF_e, ↓pName_e, ↓pNil_e, ↓pCons_e, ↓pTup_e, ↓gK_some, ↓obind_e, ↓seqL_ilst, ↓addM_eq, ↓sq2_some, ↓wVar_0, ↓wVar_s, ↓hNil_e, ↓hCons_e, ↓wDget_e, ↓wDget2_e, ↓wDput_m, ↓wSortIt_e, ↓wMake_e, ↓wIfS_m, ↓wSeq_m, ↓wAsg_m, ↓hName_e, ↓wC_e, ↓wNil_e, ↓wCons_e, ↓wTup_e, ↓wLst_e, ↓wOp_e, ↓wUn_e, ↓wIf_e, ↓wAndV_e, ↓wOrV_e, ↓wNotV_e, ↓wB_e, ↓wAnd_e, ↓wOr_e, ↓zNot_e, ↓zTru_e, ↓hCons_e, ↓hTup_e, ↓hSub_e, ↓wNext_m, ↓wDrop_m, ↓wRet_m, ↓wRetN_m, ↓wPar_m, ↓wCB_e, ↓wCall_e, ↓wIxk_e, ↓wSl_e, ↓wNoPart_e, ↓wPart_e, ↓wBM_e, ↓wBM0_e, ↓wChain_e, ↓wNever_e, ↓vSeq_e, ↓vEnum_e, ↓vRng1_e, ↓vRng2_e, vZip, ↓blK_bl, ↓tupK_tup, ↓pairK_2, ↓inK_int, ↓truD_bl, ↓truD_int, ↓truD_non, ↓truD_tup, ↓isn_non, ↓isn_int, ↓isn_bl, ↓isn_str, ↓isn_tup, ↓isn_ref, ↓Z.add_int, ↓add_tup, ↓add_ref, ↓intD_eq, ↓intD0_eq, ↓Z.mul_int, ↓Z.eq_int, ↓Z.ne_int, ↓Z.eq_bl, ↓ne_bl, ↓Z.eq_str, ↓Z.ne_str, ↓eq_non, ↓eq_tup, ↓eq_ref, ↓Z.neg_int, ↓seq_tup, ↓seq_ilst, ↓Z.ix_tup, ↓ix_int, ↓sqK_some, ↓ixK_0, ↓ixK_s, ↓tyK_some, ↓ty_non, ↓ty_bl, ↓ty_int, ↓ty_str, ↓ty_tup, ↓ty_ilst, ↓isi_eq, ↓isi2_eq, isiW, ↓len_tup, ↓intc_int, ↓abs_int, ↓gcd_int, ↓list_seq, ↓tuple_seq, ↓all_ref, ↓sum_ref, ↓Z.sl_tup, ↓sl_ilst, ↓sl_ref, ↓walk_tup, ↓walk_ilst, ↓walk_ref, ↓en_ref, start', List.map_cons, List.map_nil, List.cons_append, List.nil_append, List.append_nil, List.length_cons, List.length_nil, List.replicate, List.set_cons_zero, List.set_cons_succ, List.set_nil, List.getElem?_cons_zero, List.getElem?_cons_succ, wipeD, Nat.zero_add, Nat.reduceAdd, Nat.reduceSub, Nat.sub_self, Nat.sub_zero, true_and, and_true, if_true, if_false, Bool.not_true, Bool.not_false, ite_true, ite_false, Bool.false_eq_true, decide_true, decide_false, decide_eq_true_eq, Int.cast_ofNat_Int, reduceIte, Bool.not_eq_true', decide_eq_false_iff_not, Bool.and_true, Bool.true_and, Bool.and_false, Bool.false_and, Bool.or_true, Bool.true_or, Bool.or_false, Bool.false_or, beq_self_eq_true, bne_self_eq_false, not_true_eq_false, not_false_eq_true, String.reduceBEq, String.reduceBNe, Int.reduceToNat, Bool.true_eq_false, reduceCtorEq, Int.reduceEq, Int.reduceLT, Int.reduceLE, gt_iff_lt, ge_iff_le, ↓wBreak_m, ↓wCont_m, ↓wPar3_m, trioK_3, ↓wFldS_m, ↓wFld_e, ↓wChain_e, ↓wLam_e, ↓wIsE_e, ↓wRaise0_e, ↓wCallX_e, ↓wCallKX_e, ↓wYes_e, ↓wCallK_e, isDct_eq, dkK_eq, ↓wDnewT_e])
local macro_rules | `(tactic| walk_at "go") => `(tactic| ((first | with_reducible refine hld_i ?_ | skip); try walk_at "st"))
local macro_rules | `(tactic| walk_at "sx") => `(tactic| ((try simp only [sp_is_integer, sp_lowest, sp_exact, sp_is_number, sp_is_corner, sp_is_index, sp_is_face, sp_Net_init, sp_scaled, sp_determinant, sp_steps, sp_edge_of, sp_surpluses, sp_open_edges, sp_is_closed, sp_volume, sp_law_draw, sp_law_of, sp_law_same, sp_law_low, sp_law_add, sp_law_sub, sp_law_mul, sp_law_hand, sp_law_number, sp_law_ring, sp_law_loft, sp_law_det, sp_law_volume, sp_law_bag, sp_as_number, sp_compare, sp_loft, sp_law_handed, sp_law_lt, sp_law_area, sp_law_spots, sp_law_heights, sp_law_right, sp_law_any]); try walk_at "st"))
local macro_rules | `(tactic| walk_at "s0") => `(tactic| simp (implicitDefEqProofs := false) only [start', List.map_cons, List.map_nil, List.length_cons, List.length_nil, Nat.zero_add, Nat.reduceAdd, Nat.reduceSub, List.replicate, List.cons_append, List.nil_append])
local macro_rules | `(tactic| walk_at "rr") => `(tactic| repeat (first | with_reducible refine hld_i ?_ | walk_at "st"))
local macro_rules | `(tactic| walk_at "rx") => `(tactic| repeat (first | with_reducible refine hld_i ?_ | walk_at "st" | simp only [sp_is_integer, sp_lowest, sp_exact, sp_is_number, sp_is_corner, sp_is_index, sp_is_face, sp_Net_init, sp_scaled, sp_determinant, sp_steps, sp_edge_of, sp_surpluses, sp_open_edges, sp_is_closed, sp_volume, sp_law_draw, sp_law_of, sp_law_same, sp_law_low, sp_law_add, sp_law_sub, sp_law_mul, sp_law_hand, sp_law_number, sp_law_ring, sp_law_loft, sp_law_det, sp_law_volume, sp_law_bag, sp_as_number, sp_compare, sp_loft, sp_law_handed, sp_law_lt, sp_law_area, sp_law_spots, sp_law_heights, sp_law_right, sp_law_any]))
local macro_rules | `(tactic| walk_at "dw") => `(tactic| (refine draw (by first | exact up_same | assumption) (by assumption) (by omega) (by omega) (by omega) ?_))

variable {K : PySem.W.Frag}
/-- a list made with draws from the bag, kept to be written -/
theorem lcM_b {α : Type} {g : TG'} {te : TE'} {vs : List Nat} {τ : S'} {L : Lp} {Q : VK'} {b : Addr} {wi : TI'} (zs : List α) (enc : α → D) (A : Nat → List D → O → Prop) (hz : zs.length ≤ sizeLine) (o : O) (hb : L b = some o) (a0 : A 0 [] o)
    (hi : ∀ R : List D → (Lp → Prop) → Lp → Prop, (∀ st : Lp → Prop, (∀ p u o', L p = none → st (up (up L b o') p u)) → R (zs.map enc) st L) → wi τ L R)
    (step : ∀ (i : Nat) (z : α) (acc : List D) (o1 : O) (p : Addr) (Q' : VK'), zs[i]? = some z → L p = none → A i acc o1 → (∀ y o2, A (i + 1) (acc ++ [y]) o2 → Q' y (up (up L b o2) p (.lst acc))) →
      g (enc z) (wipeD τ vs) (up (up L b o1) p (.lst acc)) fun τ2 L2 => te τ2 L2 Q')
    (hq : ∀ p acc o1, L p = none → A zs.length acc o1 → acc.length = zs.length → Q (.ref p) (up (up L b o1) p (.lst acc))) : wLc wi g wYes te vs τ L Q := by
  refine hi _ fun st hst p np => ?_
  have hpb : p ≠ b := fun z => by subst z; rw [np] at hb; cases hb
  refine ⟨fun i L' => ∃ acc o1, A i acc o1 ∧ acc.length = i ∧ L' = up (up L b o1) p (.lst acc), ⟨[], o, a0, rfl, by rw [up_id hb]⟩, ?_, ?_, ?_⟩
  · rintro i L' _ ⟨acc, o1, _, _, rfl⟩
    exact hst p _ o1 np
  · rintro i x L' hx ⟨acc, o1, ha, hl, rfl⟩
    rw [List.getElem?_map] at hx
    cases hz2 : zs[i]? with
    | none => rw [hz2] at hx; cases hx
    | some z =>
      rw [hz2] at hx
      cases hx
      have il := getlt hz2
      unfold wYes
      simp only [if_true]
      refine step i z acc o1 p _ hz2 np ha fun y o2 h2 => ⟨acc, up_same, by omega, ?_⟩
      rw [up_up]
      exact .mk ⟨acc ++ [y], o2, h2, by simp [hl], rfl⟩
  · rintro L' ⟨acc, o1, ha, hl, rfl⟩
    rw [List.length_map] at ha hl
    exact hq p acc o1 np ha hl
end Hd

open PySem PySem.Spec PyProof.Rows L2 Z
namespace Hd
local macro_rules | `(tactic| walk_at "st") => `(tactic| simp (implicitDefEqProofs := false) only [↓seqD_up, ↓seqL_up, ↓len_ilst, ↓len_up, ↓truD_ilst, up_up, List.length_map, ↓wFor_m, ↓frzK_up, ↓frzK_upi, ↓wFz_e, ↓wFg_e, ↓wLstF_e, ↓addF_int, ↓addF_l, ↓addF_tup, ↓addF_str, ↓mulF_int, ↓mulF_l, ↓wSlF_e, ↓slF_tup, ↓slF_str, ↓slF_l, ↓slF_scr, ↓slF_ref, ↓listF_eq, ↓listdF_eq, ↓sortedF_eq, ↓allF_eq, ↓sumF_eq, ↓extF_eq, ↓vEnumF_e, ↓enF_l, ↓fldF_obj, ↓fldF_ref, ↓wFldF_e, ↓wLcF_e, ↓pName_e, ↓pNil_e, ↓pCons_e, ↓pTup_e, ↓gK_some, ↓obind_e, ↓seqL_ilst, ↓addM_eq, ↓sq2_some, ↓wVar_0, ↓wVar_s, ↓hNil_e, ↓hCons_e, ↓wDget_e, ↓wDget2_e, ↓wDput_m, ↓wSortIt_e, ↓wMake_e, ↓wIfS_m, ↓wSeq_m, ↓wAsg_m, ↓hName_e, ↓wC_e, ↓wNil_e, ↓wCons_e, ↓wTup_e, ↓wLst_e, ↓wOp_e, ↓wUn_e, ↓wIf_e, ↓wAndV_e, ↓wOrV_e, ↓wNotV_e, ↓wB_e, ↓wAnd_e, ↓wOr_e, ↓zNot_e, ↓zTru_e, ↓hCons_e, ↓hTup_e, ↓hSub_e, ↓wNext_m, ↓wDrop_m, ↓wRet_m, ↓wRetN_m, ↓wPar_m, ↓wCB_e, ↓wCall_e, ↓wIxk_e, ↓wSl_e, ↓wNoPart_e, ↓wPart_e, ↓wBM_e, ↓wBM0_e, ↓wChain_e, ↓wNever_e, ↓vSeq_e, ↓vEnum_e, ↓vRng1_e, ↓vRng2_e, vZip, ↓blK_bl, ↓tupK_tup, ↓pairK_2, ↓inK_int, ↓truD_bl, ↓truD_int, ↓truD_non, ↓truD_tup, ↓isn_non, ↓isn_int, ↓isn_bl, ↓isn_str, ↓isn_tup, ↓isn_ref, ↓Z.add_int, ↓add_tup, ↓add_ref, ↓intD_eq, ↓intD0_eq, ↓Z.mul_int, ↓Z.eq_int, ↓Z.ne_int, ↓Z.eq_bl, ↓ne_bl, ↓Z.eq_str, ↓Z.ne_str, ↓eq_non, ↓eq_tup, ↓eq_ref, ↓Z.neg_int, ↓seq_tup, ↓seq_ilst, ↓Z.ix_tup, ↓ix_int, ↓sqK_some, ↓ixK_0, ↓ixK_s, ↓tyK_some, ↓ty_non, ↓ty_bl, ↓ty_int, ↓ty_str, ↓ty_tup, ↓ty_ilst, ↓isi_eq, ↓isi2_eq, isiW, ↓len_tup, ↓intc_int, ↓abs_int, ↓gcd_int, ↓list_seq, ↓tuple_seq, ↓all_ref, ↓sum_ref, ↓Z.sl_tup, ↓sl_ilst, ↓sl_ref, ↓walk_tup, ↓walk_ilst, ↓walk_ref, ↓en_ref, start', List.map_cons, List.map_nil, List.cons_append, List.nil_append, List.append_nil, List.length_cons, List.length_nil, List.replicate, List.set_cons_zero, List.set_cons_succ, List.set_nil, List.getElem?_cons_zero, List.getElem?_cons_succ, wipeD, Nat.zero_add, Nat.reduceAdd, Nat.reduceSub, Nat.sub_self, Nat.sub_zero, true_and, and_true, if_true, if_false, Bool.not_true, Bool.not_false, ite_true, ite_false, Bool.false_eq_true, decide_true, decide_false, decide_eq_true_eq, Int.cast_ofNat_Int, reduceIte, Bool.not_eq_true', decide_eq_false_iff_not, Bool.and_true, Bool.true_and, Bool.and_false, Bool.false_and, Bool.or_true, Bool.true_or, Bool.or_false, Bool.false_or, beq_self_eq_true, bne_self_eq_false, not_true_eq_false, not_false_eq_true, String.reduceBEq, String.reduceBNe, Int.reduceToNat, Bool.true_eq_false, reduceCtorEq, Int.reduceEq, Int.reduceLT, Int.reduceLE, gt_iff_lt, ge_iff_le, ↓wBreak_m, ↓wCont_m, ↓wPar3_m, trioK_3, ↓wFldS_m, ↓wFld_e, ↓wChain_e, ↓wLam_e, ↓wIsE_e, ↓wRaise0_e, ↓wCallX_e, ↓wCallKX_e, ↓wYes_e, ↓wCallK_e, isDct_eq, dkK_eq, ↓wDnewT_e])
local macro_rules | `(tactic| walk_at "go") => `(tactic| ((first | with_reducible refine hld_i ?_ | skip); try walk_at "st"))
local macro_rules | `(tactic| walk_at "sx") => `(tactic| ((try simp only [sp_is_integer, sp_lowest, sp_exact, sp_is_number, sp_is_corner, sp_is_index, sp_is_face, sp_Net_init, sp_scaled, sp_determinant, sp_steps, sp_edge_of, sp_surpluses, sp_open_edges, sp_is_closed, sp_volume, sp_law_draw, sp_law_of, sp_law_same, sp_law_low, sp_law_add, sp_law_sub, sp_law_mul, sp_law_hand, sp_law_number, sp_law_ring, sp_law_loft, sp_law_det, sp_law_volume, sp_law_bag, sp_as_number, sp_compare, sp_loft, sp_law_handed, sp_law_lt, sp_law_area, sp_law_spots, sp_law_heights, sp_law_right, sp_law_any]); try walk_at "st"))
local macro_rules | `(tactic| walk_at "s0") => `(tactic| simp (implicitDefEqProofs := false) only [start', List.map_cons, List.map_nil, List.length_cons, List.length_nil, Nat.zero_add, Nat.reduceAdd, Nat.reduceSub, List.replicate, List.cons_append, List.nil_append])
local macro_rules | `(tactic| walk_at "rr") => `(tactic| repeat (first | with_reducible refine hld_i ?_ | walk_at "st"))
local macro_rules | `(tactic| walk_at "rx") => `(tactic| repeat (first | with_reducible refine hld_i ?_ | walk_at "st" | simp only [sp_is_integer, sp_lowest, sp_exact, sp_is_number, sp_is_corner, sp_is_index, sp_is_face, sp_Net_init, sp_scaled, sp_determinant, sp_steps, sp_edge_of, sp_surpluses, sp_open_edges, sp_is_closed, sp_volume, sp_law_draw, sp_law_of, sp_law_same, sp_law_low, sp_law_add, sp_law_sub, sp_law_mul, sp_law_hand, sp_law_number, sp_law_ring, sp_law_loft, sp_law_det, sp_law_volume, sp_law_bag, sp_as_number, sp_compare, sp_loft, sp_law_handed, sp_law_lt, sp_law_area, sp_law_spots, sp_law_heights, sp_law_right, sp_law_any]))
local macro_rules | `(tactic| walk_at "dw") => `(tactic| (refine draw (by first | exact up_same | assumption) (by assumption) (by omega) (by omega) (by omega) ?_))

variable {K : PySem.W.Frag}
theorem up_out {L : Lp} {p b : Addr} {o1 o2 u : O} (h : p ≠ b) : up (up (up L b o1) p u) b o2 = up (up L b o2) p u := by
  rw [up_comm h, up_up]
theorem rd_law_handed : RD_law_handed K := by
  intro ds L Q E h
  unfold sp_law_handed at h
  split at h
  · rename_i b d
    obtain ⟨o, T, xs, hb, hB, hT, rfl, hz, h⟩ := h
    unfold t_law_handed
    walk_at "s0"
    walk_at "rr"
    refine lcM_b xs ptD (fun i ds o => All2 HP (xs.take i) ds ∧ IsBag (T + 2 * i) o) (szl (by omega)) o hb ⟨.nil, hB⟩ (fun R k => ?_) ?_ ?_
    · walk_at "rr"
      exact k _ fun _ _ _ _ => trivial
    · rintro i z acc o1 p Q' hi np ⟨a0, hB1⟩ hq
      have hil := getlt hi
      have hpb : p ≠ b := fun z => by subst z; rw [np] at hb; cases hb
      walk_at "rr"
      refine lcF_b [z.1, z.2] numD id (fun j bs o => All2 Hnd ([z.1, z.2].take j) bs ∧ IsBag (T + 2 * i + j) o) (szl (by show 2 ≤ 1000; decide)) (fun _ _ _ => trivial) o1 (by rw [up_ne (Ne.symm hpb), up_same]) ⟨.nil, hB1⟩ ?_ ?_
      · rintro j q bs o2 Q2 hj ⟨a1, hB2⟩ hq2
        have hjl := getlt hj
        have hjl : j < 2 := hjl
        walk_at "rr"
        refine ⟨o2, _, q, up_same, hB2, by omega, rfl, fun y o3 hy hB3 => ?_⟩
        have := hq2 y o3 ⟨a1.take hj hy, hB3⟩
        simpa only [up_up, id] using this
      · rintro bs2 o2 ⟨a1, hB2⟩ hl
        walk_at "rr"
        rw [List.map_id, up_out hpb]
        refine hq (.tup bs2) o2 ⟨a0.take hi ?_, ?_⟩
        · have a1 : All2 Hnd [z.1, z.2] bs2 := a1
          match bs2, a1 with
          | [d1, d2], .cons h1 (.cons h2 .nil) => exact ⟨d1, d2, rfl, h1, h2⟩
        · have : T + 2 * (i + 1) = T + 2 * i + 2 := by omega
          rw [this]; exact hB2
    · rintro p acc o1 np ⟨a1, hB1⟩ hl
      rw [List.take_length] at a1
      exact .mk (h acc o1 p (hB1.le (by omega)) a1 np)
  · exact h.elim
end Hd

open PySem PySem.Spec PyProof.Rows L2 Z
namespace Hd
local macro_rules | `(tactic| walk_at "st") => `(tactic| simp (implicitDefEqProofs := false) only [↓seqD_up, ↓seqL_up, ↓len_ilst, ↓len_up, ↓truD_ilst, up_up, List.length_map, ↓wFor_m, ↓frzK_up, ↓frzK_upi, ↓wFz_e, ↓wFg_e, ↓wLstF_e, ↓addF_int, ↓addF_l, ↓addF_tup, ↓addF_str, ↓mulF_int, ↓mulF_l, ↓wSlF_e, ↓slF_tup, ↓slF_str, ↓slF_l, ↓slF_scr, ↓slF_ref, ↓listF_eq, ↓listdF_eq, ↓sortedF_eq, ↓allF_eq, ↓sumF_eq, ↓extF_eq, ↓vEnumF_e, ↓enF_l, ↓fldF_obj, ↓fldF_ref, ↓wFldF_e, ↓wLcF_e, ↓pName_e, ↓pNil_e, ↓pCons_e, ↓pTup_e, ↓gK_some, ↓obind_e, ↓seqL_ilst, ↓addM_eq, ↓sq2_some, ↓wVar_0, ↓wVar_s, ↓hNil_e, ↓hCons_e, ↓wDget_e, ↓wDget2_e, ↓wDput_m, ↓wSortIt_e, ↓wMake_e, ↓wIfS_m, ↓wSeq_m, ↓wAsg_m, ↓hName_e, ↓wC_e, ↓wNil_e, ↓wCons_e, ↓wTup_e, ↓wLst_e, ↓wOp_e, ↓wUn_e, ↓wIf_e, ↓wAndV_e, ↓wOrV_e, ↓wNotV_e, ↓wB_e, ↓wAnd_e, ↓wOr_e, ↓zNot_e, ↓zTru_e, ↓hCons_e, ↓hTup_e, ↓hSub_e, ↓wNext_m, ↓wDrop_m, ↓wRet_m, ↓wRetN_m, ↓wPar_m, ↓wCB_e, ↓wCall_e, ↓wIxk_e, ↓wSl_e, ↓wNoPart_e, ↓wPart_e, ↓wBM_e, ↓wBM0_e, ↓wChain_e, ↓wNever_e, ↓vSeq_e, ↓vEnum_e, ↓vRng1_e, ↓vRng2_e, vZip, ↓blK_bl, ↓tupK_tup, ↓pairK_2, ↓inK_int, ↓truD_bl, ↓truD_int, ↓truD_non, ↓truD_tup, ↓isn_non, ↓isn_int, ↓isn_bl, ↓isn_str, ↓isn_tup, ↓isn_ref, ↓Z.add_int, ↓add_tup, ↓add_ref, ↓intD_eq, ↓intD0_eq, ↓Z.mul_int, ↓Z.eq_int, ↓Z.ne_int, ↓Z.eq_bl, ↓ne_bl, ↓Z.eq_str, ↓Z.ne_str, ↓eq_non, ↓eq_tup, ↓eq_ref, ↓Z.neg_int, ↓seq_tup, ↓seq_ilst, ↓Z.ix_tup, ↓ix_int, ↓sqK_some, ↓ixK_0, ↓ixK_s, ↓tyK_some, ↓ty_non, ↓ty_bl, ↓ty_int, ↓ty_str, ↓ty_tup, ↓ty_ilst, ↓isi_eq, ↓isi2_eq, isiW, ↓len_tup, ↓intc_int, ↓abs_int, ↓gcd_int, ↓list_seq, ↓tuple_seq, ↓all_ref, ↓sum_ref, ↓Z.sl_tup, ↓sl_ilst, ↓sl_ref, ↓walk_tup, ↓walk_ilst, ↓walk_ref, ↓en_ref, start', List.map_cons, List.map_nil, List.cons_append, List.nil_append, List.append_nil, List.length_cons, List.length_nil, List.replicate, List.set_cons_zero, List.set_cons_succ, List.set_nil, List.getElem?_cons_zero, List.getElem?_cons_succ, wipeD, Nat.zero_add, Nat.reduceAdd, Nat.reduceSub, Nat.sub_self, Nat.sub_zero, true_and, and_true, if_true, if_false, Bool.not_true, Bool.not_false, ite_true, ite_false, Bool.false_eq_true, decide_true, decide_false, decide_eq_true_eq, Int.cast_ofNat_Int, reduceIte, Bool.not_eq_true', decide_eq_false_iff_not, Bool.and_true, Bool.true_and, Bool.and_false, Bool.false_and, Bool.or_true, Bool.true_or, Bool.or_false, Bool.false_or, beq_self_eq_true, bne_self_eq_false, not_true_eq_false, not_false_eq_true, String.reduceBEq, String.reduceBNe, Int.reduceToNat, Bool.true_eq_false, reduceCtorEq, Int.reduceEq, Int.reduceLT, Int.reduceLE, gt_iff_lt, ge_iff_le, ↓wBreak_m, ↓wCont_m, ↓wPar3_m, trioK_3, ↓wFldS_m, ↓wFld_e, ↓wChain_e, ↓wLam_e, ↓wIsE_e, ↓wRaise0_e, ↓wCallX_e, ↓wCallKX_e, ↓wYes_e, ↓wCallK_e, isDct_eq, dkK_eq, ↓wDnewT_e])
local macro_rules | `(tactic| walk_at "go") => `(tactic| ((first | with_reducible refine hld_i ?_ | skip); try walk_at "st"))
local macro_rules | `(tactic| walk_at "sx") => `(tactic| ((try simp only [sp_is_integer, sp_lowest, sp_exact, sp_is_number, sp_is_corner, sp_is_index, sp_is_face, sp_Net_init, sp_scaled, sp_determinant, sp_steps, sp_edge_of, sp_surpluses, sp_open_edges, sp_is_closed, sp_volume, sp_law_draw, sp_law_of, sp_law_same, sp_law_low, sp_law_add, sp_law_sub, sp_law_mul, sp_law_hand, sp_law_number, sp_law_ring, sp_law_loft, sp_law_det, sp_law_volume, sp_law_bag, sp_as_number, sp_compare, sp_loft, sp_law_handed, sp_law_lt, sp_law_area, sp_law_spots, sp_law_heights, sp_law_right, sp_law_any]); try walk_at "st"))
local macro_rules | `(tactic| walk_at "s0") => `(tactic| simp (implicitDefEqProofs := false) only [start', List.map_cons, List.map_nil, List.length_cons, List.length_nil, Nat.zero_add, Nat.reduceAdd, Nat.reduceSub, List.replicate, List.cons_append, List.nil_append])
local macro_rules | `(tactic| walk_at "rr") => `(tactic| repeat (first | with_reducible refine hld_i ?_ | walk_at "st"))
local macro_rules | `(tactic| walk_at "rx") => `(tactic| repeat (first | with_reducible refine hld_i ?_ | walk_at "st" | simp only [sp_is_integer, sp_lowest, sp_exact, sp_is_number, sp_is_corner, sp_is_index, sp_is_face, sp_Net_init, sp_scaled, sp_determinant, sp_steps, sp_edge_of, sp_surpluses, sp_open_edges, sp_is_closed, sp_volume, sp_law_draw, sp_law_of, sp_law_same, sp_law_low, sp_law_add, sp_law_sub, sp_law_mul, sp_law_hand, sp_law_number, sp_law_ring, sp_law_loft, sp_law_det, sp_law_volume, sp_law_bag, sp_as_number, sp_compare, sp_loft, sp_law_handed, sp_law_lt, sp_law_area, sp_law_spots, sp_law_heights, sp_law_right, sp_law_any]))
local macro_rules | `(tactic| walk_at "dw") => `(tactic| (refine draw (by first | exact up_same | assumption) (by assumption) (by omega) (by omega) (by omega) ?_))

variable {K : PySem.W.Frag}
theorem mem_snoc {α : Type} {P : α → Prop} {xs : List α} {x : α} (h : ∀ y ∈ xs, P y) (hx : P x) : ∀ y ∈ xs ++ [x], P y := by
  intro y hy
  rcases List.mem_append.mp hy with hy | hy
  · exact h y hy
  · rw [List.mem_singleton.mp hy]; exact hx
theorem rd_law_spots : RD_law_spots K := by
  intro ds L Q E h
  unfold sp_law_spots at h
  split at h
  · rename_i b m
    obtain ⟨o, T, hb, hB, hT, h0, h7, h⟩ := h
    obtain ⟨n, rfl⟩ : ∃ n : Nat, m = n := ⟨m.toNat, by omega⟩
    unfold t_law_spots
    walk_at "s0"
    walk_at "rr"
    intro p np
    have hpb : p ≠ b := fun z => by subst z; rw [np] at hb; cases hb
    walk_at "rr"
    refine ⟨by omega, by omega, ?_⟩
    rw [Int.toNat_natCast]
    refine for_r (fun i τ' L' => ∃ (xs : List (Rat × Rat)) (o1 : O) (o3 : Option D), τ' = [some (.ref b), some (.int n), some (.ref p), o3] ∧ xs.length = i ∧ (∀ x ∈ xs, Ok2 x) ∧ IsBag (T + 20 * i) o1 ∧ L' = up (up L b o1) p (.lst (xs.map ptD))) ⟨[], o, _, rfl, rfl, by simp, hB, by rw [up_id hb]; rfl⟩ (fun _ _ _ _ _ => trivial) ?_ ?_
    · rintro i τ' L' hi ⟨xs, o1, o3, rfl, hl, hok, hB1, rfl⟩
      have bb : ∀ o2 : O, Z.up (Z.up L b o2) p (.lst (xs.map ptD)) b = some o2 := fun o2 => by rw [up_ne (Ne.symm hpb), up_same]
      have szx : (xs.map ptD).length < sizeLine := by rw [List.length_map]; exact Nat.lt_of_lt_of_le (show xs.length < 8 by omega) (szl (by decide))
      unfold t_law_spots_1
      walk_at "rr"
      by_cases c1 : (0 : Int) < 0 + i
      · rw [if_pos c1]
        walk_at "rr"
        refine draw (bb o1) hB1 (by omega) (by decide) (by decide) fun k o2 hk hB2 => ?_
        walk_at "rr"
        rw [up_out hpb]
        by_cases c2 : (k : Int) = 0
        · rw [if_pos c2]
          walk_at "rr"
          refine ⟨kind_up, ?_⟩
          refine draw (bb o2) hB2 (by omega) (by omega) (by omega) fun j o4 hj hB4 => ?_
          walk_at "rr"
          rw [up_out hpb]
          have hj2 : j < xs.length := by omega
          rw [seq_ref up_same]
          refine atK_at (x := ptD (xs[j]'hj2)) ?_ ?_
          · rw [atN (by rw [List.length_map]; exact hj2), List.getElem_map]
          refine app_up szx ?_
          refine .mk ⟨xs ++ [xs[j]'hj2], o4, _, rfl, by rw [List.length_append, List.length_singleton, hl], mem_snoc hok (hok _ (List.getElem_mem hj2)), hB4.le (by omega), ?_⟩
          rw [List.map_append]
          rfl
        · rw [if_neg c2]
          walk_at "rr"
          refine ⟨kind_up, ?_⟩
          refine ⟨o2, _, bb o2, hB2, by omega, fun u o4 hu hB4 => ?_⟩
          walk_at "rr"
          rw [up_out hpb]
          refine ⟨o4, _, bb o4, hB4, by omega, fun v o5 hv hB5 => ?_⟩
          walk_at "rr"
          rw [up_out hpb]
          refine app_up szx ?_
          refine .mk ⟨xs ++ [(u, v)], o5, _, rfl, by rw [List.length_append, List.length_singleton, hl], mem_snoc hok ⟨hu, hv⟩, hB5.le (by omega), ?_⟩
          rw [List.map_append]
          rfl
      · rw [if_neg c1]
        walk_at "rr"
        refine ⟨kind_up, ?_⟩
        refine ⟨o1, _, bb o1, hB1, by omega, fun u o4 hu hB4 => ?_⟩
        walk_at "rr"
        rw [up_out hpb]
        refine ⟨o4, _, bb o4, hB4, by omega, fun v o5 hv hB5 => ?_⟩
        walk_at "rr"
        rw [up_out hpb]
        refine app_up szx ?_
        refine .mk ⟨xs ++ [(u, v)], o5, _, rfl, by rw [List.length_append, List.length_singleton, hl], mem_snoc hok ⟨hu, hv⟩, hB5.le (by omega), ?_⟩
        rw [List.map_append]
        rfl
    · rintro τ' L' ⟨xs, o1, o3, rfl, hl, hok, hB1, rfl⟩
      walk_at "rr"
      rw [del_no (by rw [up_ne hpb]; exact np)]
      exact Dn.mk (h xs o1 (by omega) hok (hB1.le (by omega)))
  · exact h.elim
end Hd

open PySem PySem.Spec PyProof.Rows L2 Z
namespace Hd
local macro_rules | `(tactic| walk_at "st") => `(tactic| simp (implicitDefEqProofs := false) only [↓seqD_up, ↓seqL_up, ↓len_ilst, ↓len_up, ↓truD_ilst, up_up, List.length_map, ↓wFor_m, ↓frzK_up, ↓frzK_upi, ↓wFz_e, ↓wFg_e, ↓wLstF_e, ↓addF_int, ↓addF_l, ↓addF_tup, ↓addF_str, ↓mulF_int, ↓mulF_l, ↓wSlF_e, ↓slF_tup, ↓slF_str, ↓slF_l, ↓slF_scr, ↓slF_ref, ↓listF_eq, ↓listdF_eq, ↓sortedF_eq, ↓allF_eq, ↓sumF_eq, ↓extF_eq, ↓vEnumF_e, ↓enF_l, ↓fldF_obj, ↓fldF_ref, ↓wFldF_e, ↓wLcF_e, ↓pName_e, ↓pNil_e, ↓pCons_e, ↓pTup_e, ↓gK_some, ↓obind_e, ↓seqL_ilst, ↓addM_eq, ↓sq2_some, ↓wVar_0, ↓wVar_s, ↓hNil_e, ↓hCons_e, ↓wDget_e, ↓wDget2_e, ↓wDput_m, ↓wSortIt_e, ↓wMake_e, ↓wIfS_m, ↓wSeq_m, ↓wAsg_m, ↓hName_e, ↓wC_e, ↓wNil_e, ↓wCons_e, ↓wTup_e, ↓wLst_e, ↓wOp_e, ↓wUn_e, ↓wIf_e, ↓wAndV_e, ↓wOrV_e, ↓wNotV_e, ↓wB_e, ↓wAnd_e, ↓wOr_e, ↓zNot_e, ↓zTru_e, ↓hCons_e, ↓hTup_e, ↓hSub_e, ↓wNext_m, ↓wDrop_m, ↓wRet_m, ↓wRetN_m, ↓wPar_m, ↓wCB_e, ↓wCall_e, ↓wIxk_e, ↓wSl_e, ↓wNoPart_e, ↓wPart_e, ↓wBM_e, ↓wBM0_e, ↓wChain_e, ↓wNever_e, ↓vSeq_e, ↓vEnum_e, ↓vRng1_e, ↓vRng2_e, vZip, ↓blK_bl, ↓tupK_tup, ↓pairK_2, ↓inK_int, ↓truD_bl, ↓truD_int, ↓truD_non, ↓truD_tup, ↓isn_non, ↓isn_int, ↓isn_bl, ↓isn_str, ↓isn_tup, ↓isn_ref, ↓Z.add_int, ↓add_tup, ↓add_ref, ↓intD_eq, ↓intD0_eq, ↓Z.mul_int, ↓Z.eq_int, ↓Z.ne_int, ↓Z.eq_bl, ↓ne_bl, ↓Z.eq_str, ↓Z.ne_str, ↓eq_non, ↓eq_tup, ↓eq_ref, ↓Z.neg_int, ↓seq_tup, ↓seq_ilst, ↓Z.ix_tup, ↓ix_int, ↓sqK_some, ↓ixK_0, ↓ixK_s, ↓tyK_some, ↓ty_non, ↓ty_bl, ↓ty_int, ↓ty_str, ↓ty_tup, ↓ty_ilst, ↓isi_eq, ↓isi2_eq, isiW, ↓len_tup, ↓intc_int, ↓abs_int, ↓gcd_int, ↓list_seq, ↓tuple_seq, ↓all_ref, ↓sum_ref, ↓Z.sl_tup, ↓sl_ilst, ↓sl_ref, ↓walk_tup, ↓walk_ilst, ↓walk_ref, ↓en_ref, start', List.map_cons, List.map_nil, List.cons_append, List.nil_append, List.append_nil, List.length_cons, List.length_nil, List.replicate, List.set_cons_zero, List.set_cons_succ, List.set_nil, List.getElem?_cons_zero, List.getElem?_cons_succ, wipeD, Nat.zero_add, Nat.reduceAdd, Nat.reduceSub, Nat.sub_self, Nat.sub_zero, true_and, and_true, if_true, if_false, Bool.not_true, Bool.not_false, ite_true, ite_false, Bool.false_eq_true, decide_true, decide_false, decide_eq_true_eq, Int.cast_ofNat_Int, reduceIte, Bool.not_eq_true', decide_eq_false_iff_not, Bool.and_true, Bool.true_and, Bool.and_false, Bool.false_and, Bool.or_true, Bool.true_or, Bool.or_false, Bool.false_or, beq_self_eq_true, bne_self_eq_false, not_true_eq_false, not_false_eq_true, String.reduceBEq, String.reduceBNe, Int.reduceToNat, Bool.true_eq_false, reduceCtorEq, Int.reduceEq, Int.reduceLT, Int.reduceLE, gt_iff_lt, ge_iff_le, ↓wBreak_m, ↓wCont_m, ↓wPar3_m, trioK_3, ↓wFldS_m, ↓wFld_e, ↓wChain_e, ↓wLam_e, ↓wIsE_e, ↓wRaise0_e, ↓wCallX_e, ↓wCallKX_e, ↓wYes_e, ↓wCallK_e, isDct_eq, dkK_eq, ↓wDnewT_e])
local macro_rules | `(tactic| walk_at "go") => `(tactic| ((first | with_reducible refine hld_i ?_ | skip); try walk_at "st"))
local macro_rules | `(tactic| walk_at "sx") => `(tactic| ((try simp only [sp_is_integer, sp_lowest, sp_exact, sp_is_number, sp_is_corner, sp_is_index, sp_is_face, sp_Net_init, sp_scaled, sp_determinant, sp_steps, sp_edge_of, sp_surpluses, sp_open_edges, sp_is_closed, sp_volume, sp_law_draw, sp_law_of, sp_law_same, sp_law_low, sp_law_add, sp_law_sub, sp_law_mul, sp_law_hand, sp_law_number, sp_law_ring, sp_law_loft, sp_law_det, sp_law_volume, sp_law_bag, sp_as_number, sp_compare, sp_loft, sp_law_handed, sp_law_lt, sp_law_area, sp_law_spots, sp_law_heights, sp_law_right, sp_law_any]); try walk_at "st"))
local macro_rules | `(tactic| walk_at "s0") => `(tactic| simp (implicitDefEqProofs := false) only [start', List.map_cons, List.map_nil, List.length_cons, List.length_nil, Nat.zero_add, Nat.reduceAdd, Nat.reduceSub, List.replicate, List.cons_append, List.nil_append])
local macro_rules | `(tactic| walk_at "rr") => `(tactic| repeat (first | with_reducible refine hld_i ?_ | walk_at "st"))
local macro_rules | `(tactic| walk_at "rx") => `(tactic| repeat (first | with_reducible refine hld_i ?_ | walk_at "st" | simp only [sp_is_integer, sp_lowest, sp_exact, sp_is_number, sp_is_corner, sp_is_index, sp_is_face, sp_Net_init, sp_scaled, sp_determinant, sp_steps, sp_edge_of, sp_surpluses, sp_open_edges, sp_is_closed, sp_volume, sp_law_draw, sp_law_of, sp_law_same, sp_law_low, sp_law_add, sp_law_sub, sp_law_mul, sp_law_hand, sp_law_number, sp_law_ring, sp_law_loft, sp_law_det, sp_law_volume, sp_law_bag, sp_as_number, sp_compare, sp_loft, sp_law_handed, sp_law_lt, sp_law_area, sp_law_spots, sp_law_heights, sp_law_right, sp_law_any]))
local macro_rules | `(tactic| walk_at "dw") => `(tactic| (refine draw (by first | exact up_same | assumption) (by assumption) (by omega) (by omega) (by omega) ?_))

variable {K : PySem.W.Frag}
theorem cut_sub {α : Type} (f : α → D) (xs : List α) (lo hi : Option Int) : ∃ ys : List α, Z.cutD (xs.map f) lo hi = ys.map f ∧ ys.length ≤ xs.length ∧ ∀ y ∈ ys, y ∈ xs := by
  refine ⟨(xs.drop (HT.sIx xs.length 0 lo)).take (HT.sIx xs.length xs.length hi - HT.sIx xs.length 0 lo), ?_, ?_, fun y hy => List.mem_of_mem_drop (List.mem_of_mem_take hy)⟩
  · unfold Z.cutD
    rw [List.length_map, List.map_take, List.map_drop]
  · rw [List.length_take, List.length_drop]; omega
theorem half_pt : (D.tup [.tup [.int 1, .int 2], .tup [.int 0, .int 1]]) = ptD (mkRat 1 2, mkRat 0 1) := rfl
theorem half_ok : Ok2 (mkRat 1 2, mkRat 0 1) := ⟨wd_mk (n := 1) (d := 2) (D := 27720) (b := 2 ^ 60) (by decide) (by decide) (by decide) (by decide), wd_mk (n := 0) (d := 1) (D := 27720) (b := 2 ^ 60) (by decide) (by decide) (by decide) (by decide)⟩
theorem any_tail {Q : VK'} {E : Prop} {b : Addr} {o : O} {T : Nat} {L : Lp} {xs ys : List (Rat × Rat)} {w : Int} {o1 o5 o6 o7 : Option D} (hB : IsBag T o) (hT : T + 20 < 1099511627776) (hx : ∀ x ∈ xs, Ok2 x) (hy : ∀ x ∈ ys, Ok2 x) (lx : xs.length ≤ 7) (ly : ys.length ≤ 8)
    (h : ∀ (lo hi : Rat) (ys : List (Rat × Rat)) o', (∀ x ∈ ys, Ok2 x) → Ok1 lo → Ok1 hi → ys.length ≤ 8 → IsBag (T + 20) o' → Q (.tup [.ilst (xs.map ptD), numD lo, .ilst (ys.map ptD), numD hi]) (up L b o')) :
    t_law_any_3 K { nx := fun _ L1 => Dn (Q .non) L1, rt := fun d L1 => Dn (Q d) L1 } [some (.ref b), o1, some (.ilst (xs.map ptD)), some (.ilst (ys.map ptD)), some (.int w), o5, o6, o7] (up L b o) := by
  have fin : ∀ (zs : List (Rat × Rat)), (∀ x ∈ zs, Ok2 x) → zs.length ≤ 8 → t_law_any_4 K { nx := fun _ L1 => Dn (Q .non) L1, rt := fun d L1 => Dn (Q d) L1 } [some (.ref b), o1, some (.ilst (xs.map ptD)), some (.ilst (zs.map ptD)), some (.int w), o5, o6, o7] (up L b o) := by
    intro zs hz lz
    unfold t_law_any_4
    walk_at "rr"
    refine ⟨o, T, up_same, hB, hT, fun lo hi o' hlo hhi hB' => ?_⟩
    walk_at "rr"
    by_cases c : w = 4
    · rw [if_pos c]
      unfold t_law_any_5
      walk_at "rr"
      exact Dn.mk (h lo lo zs o' hz hlo hlo lz hB')
    · rw [if_neg c]
      unfold t_law_any_5
      walk_at "rr"
      exact Dn.mk (h lo hi zs o' hz hlo hhi lz hB')
  unfold t_law_any_3
  walk_at "rr"
  by_cases c : w = 3
  · rw [if_pos c]
    walk_at "rr"
    exact fin [] (by simp) (by simp)
  · rw [if_neg c]
    walk_at "rr"
    exact fin ys hy ly
theorem rd_law_any : RD_law_any K := by
  intro ds L Q E h
  unfold sp_law_any at h
  split at h
  · rename_i b
    obtain ⟨o, T, hb, hB, hT, h⟩ := h
    unfold t_law_any
    walk_at "s0"
    walk_at "rr"
    refine draw hb hB (by omega) (by decide) (by decide) fun m o1 hm hB1 => ?_
    walk_at "rr"
    refine ⟨o1, _, up_same, hB1, by omega, by omega, by omega, fun xs o2 lx hx hB2 => ?_⟩
    walk_at "rr"
    refine ⟨o2, _, up_same, hB2, by omega, by omega, by omega, fun ys o3 ly hy hB3 => ?_⟩
    walk_at "rr"
    refine draw up_same hB3 (by omega) (by decide) (by decide) fun w o4 hw hB4 => ?_
    walk_at "rr"
    have tail : ∀ (xs ys : List (Rat × Rat)) (o : O) (T2 : Nat) (o5 : Option D), IsBag T2 o → T2 ≤ T + 403 → (∀ x ∈ xs, Ok2 x) → (∀ x ∈ ys, Ok2 x) → xs.length ≤ 7 → ys.length ≤ 8 →
        t_law_any_3 K { nx := fun _ L1 => Dn (Q .non) L1, rt := fun d L1 => Dn (Q d) L1 } [some (.ref b), some (.int (3 + (m : Int))), some (.ilst (xs.map ptD)), some (.ilst (ys.map ptD)), some (.int w), o5, none, none] (up L b o) := fun xs ys o T2 o5 hB2 hT2 hx hy lx ly =>
      any_tail (E := True) hB2 (by omega) hx hy lx ly fun lo hi zs o' hz hlo hhi lz hB' => h xs zs lo hi o' hx hz hlo hhi lx lz (hB'.le (by omega))
    have tail2 : ∀ (xs ys : List (Rat × Rat)) (o : O) (T2 : Nat), IsBag T2 o → T2 ≤ T + 402 → (∀ x ∈ xs, Ok2 x) → (∀ x ∈ ys, Ok2 x) → xs.length ≤ 7 → ys.length ≤ 8 →
        t_law_any_2 K { nx := fun _ L1 => Dn (Q .non) L1, rt := fun d L1 => Dn (Q d) L1 } [some (.ref b), some (.int (3 + (m : Int))), some (.ilst (xs.map ptD)), some (.ilst (ys.map ptD)), some (.int w), none, none, none] (up L b o) := by
      intro xs ys o T2 hB2 hT2 hx hy lx ly
      unfold t_law_any_2
      walk_at "rr"
      by_cases c : (w : Int) = 2
      · rw [if_pos c]
        walk_at "rr"
        refine draw up_same hB2 (by omega) (by decide) (by decide) fun s o5 hs hB5 => ?_
        walk_at "rr"
        obtain ⟨xs', ex, lx', hx'⟩ := cut_sub ptD xs none (some (s : Int))
        obtain ⟨ys', ey, ly', hy'⟩ := cut_sub ptD ys none (some (s : Int))
        rw [ex, ey]
        exact tail xs' ys' o5 _ _ hB5 (by omega) (fun x hm => hx x (hx' x hm)) (fun x hm => hy x (hy' x hm)) (by omega) (by omega)
      · rw [if_neg c]
        walk_at "rr"
        exact tail xs ys o _ _ hB2 (by omega) hx hy lx ly
    have tail1 : ∀ (xs : List (Rat × Rat)), (∀ x ∈ xs, Ok2 x) → xs.length ≤ 7 →
        t_law_any_1 K { nx := fun _ L1 => Dn (Q .non) L1, rt := fun d L1 => Dn (Q d) L1 } [some (.ref b), some (.int (3 + (m : Int))), some (.ilst (xs.map ptD)), some (.ilst (ys.map ptD)), some (.int w), none, none, none] (up L b o4) := by
      intro xs hx lx
      unfold t_law_any_1
      walk_at "rr"
      by_cases c : (w : Int) = 1
      · rw [if_pos c]
        walk_at "rr"
        refine ⟨szl (by omega), ?_⟩
        walk_at "rr"
        have e : ys.map ptD ++ [D.tup [.tup [.int 1, .int 2], .tup [.int 0, .int 1]]] = (ys ++ [(mkRat 1 2, mkRat 0 1)]).map ptD := by rw [half_pt, List.map_append]; rfl
        rw [e]
        exact tail2 xs _ o4 _ hB4 (by omega) hx (mem_snoc hy half_ok) lx (by rw [List.length_append, List.length_singleton]; omega)
      · rw [if_neg c]
        walk_at "rr"
        exact tail2 xs ys o4 _ hB4 (by omega) hx hy lx (by omega)
    by_cases c : (w : Int) = 0
    · rw [if_pos c]
      walk_at "rr"
      obtain ⟨xs', ex, lx', hx'⟩ := cut_sub ptD xs none (some (-1))
      rw [ex]
      exact tail1 xs' (fun x hm => hx x (hx' x hm)) (by omega)
    · rw [if_neg c]
      walk_at "rr"
      exact tail1 xs hx (by omega)
  · exact h.elim
end Hd

open PySem PySem.Spec PyProof.Rows L2 Z
namespace Hd
local macro_rules | `(tactic| walk_at "st") => `(tactic| simp (implicitDefEqProofs := false) only [↓seqD_up, ↓seqL_up, ↓len_ilst, ↓len_up, ↓truD_ilst, up_up, List.length_map, ↓wFor_m, ↓frzK_up, ↓frzK_upi, ↓wFz_e, ↓wFg_e, ↓wLstF_e, ↓addF_int, ↓addF_l, ↓addF_tup, ↓addF_str, ↓mulF_int, ↓mulF_l, ↓wSlF_e, ↓slF_tup, ↓slF_str, ↓slF_l, ↓slF_scr, ↓slF_ref, ↓listF_eq, ↓listdF_eq, ↓sortedF_eq, ↓allF_eq, ↓sumF_eq, ↓extF_eq, ↓vEnumF_e, ↓enF_l, ↓fldF_obj, ↓fldF_ref, ↓wFldF_e, ↓wLcF_e, ↓pName_e, ↓pNil_e, ↓pCons_e, ↓pTup_e, ↓gK_some, ↓obind_e, ↓seqL_ilst, ↓addM_eq, ↓sq2_some, ↓wVar_0, ↓wVar_s, ↓hNil_e, ↓hCons_e, ↓wDget_e, ↓wDget2_e, ↓wDput_m, ↓wSortIt_e, ↓wMake_e, ↓wIfS_m, ↓wSeq_m, ↓wAsg_m, ↓hName_e, ↓wC_e, ↓wNil_e, ↓wCons_e, ↓wTup_e, ↓wLst_e, ↓wOp_e, ↓wUn_e, ↓wIf_e, ↓wAndV_e, ↓wOrV_e, ↓wNotV_e, ↓wB_e, ↓wAnd_e, ↓wOr_e, ↓zNot_e, ↓zTru_e, ↓hCons_e, ↓hTup_e, ↓hSub_e, ↓wNext_m, ↓wDrop_m, ↓wRet_m, ↓wRetN_m, ↓wPar_m, ↓wCB_e, ↓wCall_e, ↓wIxk_e, ↓wSl_e, ↓wNoPart_e, ↓wPart_e, ↓wBM_e, ↓wBM0_e, ↓wChain_e, ↓wNever_e, ↓vSeq_e, ↓vEnum_e, ↓vRng1_e, ↓vRng2_e, vZip, ↓blK_bl, ↓tupK_tup, ↓pairK_2, ↓inK_int, ↓truD_bl, ↓truD_int, ↓truD_non, ↓truD_tup, ↓isn_non, ↓isn_int, ↓isn_bl, ↓isn_str, ↓isn_tup, ↓isn_ref, ↓Z.add_int, ↓add_tup, ↓add_ref, ↓intD_eq, ↓intD0_eq, ↓Z.mul_int, ↓Z.eq_int, ↓Z.ne_int, ↓Z.eq_bl, ↓ne_bl, ↓Z.eq_str, ↓Z.ne_str, ↓eq_non, ↓eq_tup, ↓eq_ref, ↓Z.neg_int, ↓seq_tup, ↓seq_ilst, ↓Z.ix_tup, ↓ix_int, ↓sqK_some, ↓ixK_0, ↓ixK_s, ↓tyK_some, ↓ty_non, ↓ty_bl, ↓ty_int, ↓ty_str, ↓ty_tup, ↓ty_ilst, ↓isi_eq, ↓isi2_eq, isiW, ↓len_tup, ↓intc_int, ↓abs_int, ↓gcd_int, ↓list_seq, ↓tuple_seq, ↓all_ref, ↓sum_ref, ↓Z.sl_tup, ↓sl_ilst, ↓sl_ref, ↓walk_tup, ↓walk_ilst, ↓walk_ref, ↓en_ref, start', List.map_cons, List.map_nil, List.cons_append, List.nil_append, List.append_nil, List.length_cons, List.length_nil, List.replicate, List.set_cons_zero, List.set_cons_succ, List.set_nil, List.getElem?_cons_zero, List.getElem?_cons_succ, wipeD, Nat.zero_add, Nat.reduceAdd, Nat.reduceSub, Nat.sub_self, Nat.sub_zero, true_and, and_true, if_true, if_false, Bool.not_true, Bool.not_false, ite_true, ite_false, Bool.false_eq_true, decide_true, decide_false, decide_eq_true_eq, Int.cast_ofNat_Int, reduceIte, Bool.not_eq_true', decide_eq_false_iff_not, Bool.and_true, Bool.true_and, Bool.and_false, Bool.false_and, Bool.or_true, Bool.true_or, Bool.or_false, Bool.false_or, beq_self_eq_true, bne_self_eq_false, not_true_eq_false, not_false_eq_true, String.reduceBEq, String.reduceBNe, Int.reduceToNat, Bool.true_eq_false, reduceCtorEq, Int.reduceEq, Int.reduceLT, Int.reduceLE, gt_iff_lt, ge_iff_le, ↓wBreak_m, ↓wCont_m, ↓wPar3_m, trioK_3, ↓wFldS_m, ↓wFld_e, ↓wChain_e, ↓wLam_e, ↓wIsE_e, ↓wRaise0_e, ↓wCallX_e, ↓wCallKX_e, ↓wYes_e, ↓wCallK_e, isDct_eq, dkK_eq, ↓wDnewT_e])
local macro_rules | `(tactic| walk_at "go") => `(tactic| ((first | with_reducible refine hld_i ?_ | skip); try walk_at "st"))
local macro_rules | `(tactic| walk_at "sx") => `(tactic| ((try simp only [sp_is_integer, sp_lowest, sp_exact, sp_is_number, sp_is_corner, sp_is_index, sp_is_face, sp_Net_init, sp_scaled, sp_determinant, sp_steps, sp_edge_of, sp_surpluses, sp_open_edges, sp_is_closed, sp_volume, sp_law_draw, sp_law_of, sp_law_same, sp_law_low, sp_law_add, sp_law_sub, sp_law_mul, sp_law_hand, sp_law_number, sp_law_ring, sp_law_loft, sp_law_det, sp_law_volume, sp_law_bag, sp_as_number, sp_compare, sp_loft, sp_law_handed, sp_law_lt, sp_law_area, sp_law_spots, sp_law_heights, sp_law_right, sp_law_any]); try walk_at "st"))
local macro_rules | `(tactic| walk_at "s0") => `(tactic| simp (implicitDefEqProofs := false) only [start', List.map_cons, List.map_nil, List.length_cons, List.length_nil, Nat.zero_add, Nat.reduceAdd, Nat.reduceSub, List.replicate, List.cons_append, List.nil_append])
local macro_rules | `(tactic| walk_at "rr") => `(tactic| repeat (first | with_reducible refine hld_i ?_ | walk_at "st"))
local macro_rules | `(tactic| walk_at "rx") => `(tactic| repeat (first | with_reducible refine hld_i ?_ | walk_at "st" | simp only [sp_is_integer, sp_lowest, sp_exact, sp_is_number, sp_is_corner, sp_is_index, sp_is_face, sp_Net_init, sp_scaled, sp_determinant, sp_steps, sp_edge_of, sp_surpluses, sp_open_edges, sp_is_closed, sp_volume, sp_law_draw, sp_law_of, sp_law_same, sp_law_low, sp_law_add, sp_law_sub, sp_law_mul, sp_law_hand, sp_law_number, sp_law_ring, sp_law_loft, sp_law_det, sp_law_volume, sp_law_bag, sp_as_number, sp_compare, sp_loft, sp_law_handed, sp_law_lt, sp_law_area, sp_law_spots, sp_law_heights, sp_law_right, sp_law_any]))
local macro_rules | `(tactic| walk_at "dw") => `(tactic| (refine draw (by first | exact up_same | assumption) (by assumption) (by omega) (by omega) (by omega) ?_))

variable {K : PySem.W.Frag}
theorem at_prev {xs : List (Rat × Rat)} {i : Nat} {z : (Rat × Rat) × (Rat × Rat)} (h : (prv xs)[i]? = some z) : atI (xs.map ptD) (0 + (i : Int) - 1) = some (ptD z.2) ∧ atI (xs.map ptD) (0 + (i : Int)) = some (ptD z.1) ∧ z.1 ∈ xs ∧ z.2 ∈ xs := by
  unfold prv at h
  rw [List.getElem?_zip_eq_some] at h
  obtain ⟨h1, h2⟩ := h
  have hi := getlt h1
  have el : xs.getLast?.getD (0, 0) = xs[xs.length - 1]'(by omega) := by
    rw [List.getLast?_eq_getElem?, List.getElem?_eq_getElem (by omega)]
    rfl
  refine ⟨?_, ?_, List.mem_of_getElem? h1, ?_⟩
  · cases i with
    | zero =>
      simp at h2
      unfold atI
      rw [show ixN (xs.map ptD).length (0 + ((0 : Nat) : Int) - 1) = some (xs.length - 1) by
        unfold ixN; rw [List.length_map]; simp; omega]
      show (xs.map ptD)[xs.length - 1]? = some (ptD z.2)
      rw [List.getElem?_map, List.getElem?_eq_getElem (by omega), ← h2, el]
      rfl
    | succ j =>
      have e : xs[j]? = some z.2 := by simpa using h2
      rw [show (0 + ((j + 1 : Nat) : Int) - 1) = (j : Int) by omega, atN (by rw [List.length_map]; omega), List.getElem_map]
      rw [List.getElem?_eq_getElem (by omega)] at e
      rw [Option.some.inj e]
  · rw [Int.zero_add, atN (by rw [List.length_map]; exact hi), List.getElem_map]
    rw [List.getElem?_eq_getElem hi] at h1
    rw [Option.some.inj h1]
  · cases i with
    | zero =>
      simp at h2
      rw [← h2, el]
      exact List.getElem_mem _
    | succ j => exact List.mem_of_getElem? (i := j) (by simpa using h2)
theorem prv_len (xs : List (Rat × Rat)) : (prv xs).length = xs.length := by
  unfold prv
  rw [List.length_zip, List.length_cons]
  omega
abbrev arI (xs : List (Rat × Rat)) (i : Nat) : Rat := ((prv xs).take i).foldl (fun s z => s + trm z) 0
theorem arI_succ {xs : List (Rat × Rat)} {i : Nat} {z : (Rat × Rat) × (Rat × Rat)} (h : (prv xs)[i]? = some z) : arI xs (i + 1) = arI xs i + trm z := by
  unfold arI
  rw [List.take_add_one, h, List.foldl_append]
  rfl
theorem ok6_ok1 {q : Rat} (h : Ok6 q) : Ok1 q := oks_ok1 (ok6_oks h)
theorem mul6 {p q : Rat} (h : Ok6 p) (k : Ok6 q) : Wd 36 1000000 (p * q) := wd_mul h k
theorem trm_w {p q : Rat × Rat} (hp : Ok6 p.1 ∧ Ok6 p.2) (hq : Ok6 q.1 ∧ Ok6 q.2) : Wd 36 2000000 (trm (q, p)) := wd_sub (by decide) (mul6 hp.1 hq.2) (mul6 hq.1 hp.2)
theorem wd0 : Wd 36 1 0 := ⟨0, rfl, by decide⟩
theorem arI_w {xs : List (Rat × Rat)} (ok : ∀ x ∈ xs, Ok6 x.1 ∧ Ok6 x.2) : ∀ i, i ≤ xs.length → Wd 36 (2000000 * i + 1) (arI xs i)
  | 0, _ => wd0
  | i + 1, h => by
    have hz : (prv xs)[i]? = some ((prv xs)[i]'(by rw [prv_len]; omega)) := List.getElem?_eq_getElem _
    rw [arI_succ hz]
    obtain ⟨_, _, m1, m2⟩ := at_prev hz
    exact wd_le (wd_add (by decide) (arI_w ok i (by omega)) (trm_w (p := _) (q := _) (ok _ m2) (ok _ m1))) (by omega)
theorem sm36 {b : Nat} {q : Rat} (h : Wd 36 b q) (hb : b ≤ 2 ^ 60) : Sm q := wd_sm h (by decide) (Nat.lt_of_lt_of_le (show 36 < 2 ^ 60 by decide) (pw (by decide))) (Nat.le_trans hb (pw (by decide)))
theorem rd_law_area : RD_law_area K := by
  intro ds L Q E h
  unfold sp_law_area at h
  split at h
  · obtain ⟨xs, rfl, h1, h5, ok, h⟩ := h
    unfold t_law_area
    walk_at "s0"
    walk_at "rr"
    refine ⟨by omega, by omega, ?_⟩
    rw [Int.toNat_natCast]
    refine for_r (fun i τ' L' => (∃ o2 o3 o4, τ' = [some (.ilst (xs.map ptD)), some (numD (arI xs i)), o2, o3, o4]) ∧ L' = L) ⟨⟨_, _, _, rfl⟩, rfl⟩ (fun _ _ _ _ _ => trivial) ?_ ?_
    · rintro i τ' L' hi ⟨⟨o2, o3, o4, rfl⟩, rfl⟩
      have hz : (prv xs)[i]? = some ((prv xs)[i]'(by rw [prv_len]; omega)) := List.getElem?_eq_getElem _
      generalize (prv xs)[i]'(by rw [prv_len]; omega) = z at hz
      obtain ⟨a1, a2, m1, m2⟩ := at_prev hz
      have k1 := ok _ m1
      have k2 := ok _ m2
      have s6 : ∀ {q : Rat}, Ok6 q → Sm q := fun h => ok1_sm (ok6_ok1 h)
      unfold t_law_area_1
      walk_at "rr"
      refine atK_at a1 ?_
      walk_at "rr"
      refine atK_at a2 ?_
      walk_at "rr"
      refine ⟨_, _, rfl, rfl, s6 k2.1, s6 k1.2, ?_⟩
      walk_at "rr"
      refine ⟨_, _, rfl, rfl, s6 k1.1, s6 k2.2, ?_⟩
      walk_at "rr"
      refine ⟨_, _, rfl, rfl, sm36 (mul6 k2.1 k1.2) (by decide), sm36 (mul6 k1.1 k2.2) (by decide), ?_⟩
      walk_at "rr"
      refine ⟨_, _, rfl, rfl, sm36 (arI_w ok i (by omega)) (by omega), sm36 (trm_w (p := z.2) (q := z.1) k2 k1) (by decide), ?_⟩
      walk_at "rr"
      have e : arI xs i + (z.2.1 * z.1.2 - z.1.1 * z.2.2) = arI xs (i + 1) := (arI_succ hz).symm
      rw [e]
      exact .mk ⟨⟨_, _, _, rfl⟩, rfl⟩
    · rintro τ' L' ⟨⟨o2, o3, o4, rfl⟩, rfl⟩
      have e : arI xs xs.length = area2 xs := by
        unfold arI area2
        rw [List.take_of_length_le (by rw [prv_len]; exact Nat.le_refl _)]
      have w := arI_w ok xs.length (Nat.le_refl _)
      rw [e] at w ⊢
      unfold t_law_area_2
      walk_at "rr"
      exact ⟨area2 xs, mkRat 1 2, rfl, rfl, sm36 w (by omega), ⟨by decide, by decide⟩, .mk h⟩
  · exact h.elim
end Hd

open PySem PySem.Spec PyProof.Rows L2 Z
namespace Hd
local macro_rules | `(tactic| walk_at "st") => `(tactic| simp (implicitDefEqProofs := false) only [↓seqD_up, ↓seqL_up, ↓len_ilst, ↓len_up, ↓truD_ilst, up_up, List.length_map, ↓wFor_m, ↓frzK_up, ↓frzK_upi, ↓wFz_e, ↓wFg_e, ↓wLstF_e, ↓addF_int, ↓addF_l, ↓addF_tup, ↓addF_str, ↓mulF_int, ↓mulF_l, ↓wSlF_e, ↓slF_tup, ↓slF_str, ↓slF_l, ↓slF_scr, ↓slF_ref, ↓listF_eq, ↓listdF_eq, ↓sortedF_eq, ↓allF_eq, ↓sumF_eq, ↓extF_eq, ↓vEnumF_e, ↓enF_l, ↓fldF_obj, ↓fldF_ref, ↓wFldF_e, ↓wLcF_e, ↓pName_e, ↓pNil_e, ↓pCons_e, ↓pTup_e, ↓gK_some, ↓obind_e, ↓seqL_ilst, ↓addM_eq, ↓sq2_some, ↓wVar_0, ↓wVar_s, ↓hNil_e, ↓hCons_e, ↓wDget_e, ↓wDget2_e, ↓wDput_m, ↓wSortIt_e, ↓wMake_e, ↓wIfS_m, ↓wSeq_m, ↓wAsg_m, ↓hName_e, ↓wC_e, ↓wNil_e, ↓wCons_e, ↓wTup_e, ↓wLst_e, ↓wOp_e, ↓wUn_e, ↓wIf_e, ↓wAndV_e, ↓wOrV_e, ↓wNotV_e, ↓wB_e, ↓wAnd_e, ↓wOr_e, ↓zNot_e, ↓zTru_e, ↓hCons_e, ↓hTup_e, ↓hSub_e, ↓wNext_m, ↓wDrop_m, ↓wRet_m, ↓wRetN_m, ↓wPar_m, ↓wCB_e, ↓wCall_e, ↓wIxk_e, ↓wSl_e, ↓wNoPart_e, ↓wPart_e, ↓wBM_e, ↓wBM0_e, ↓wChain_e, ↓wNever_e, ↓vSeq_e, ↓vEnum_e, ↓vRng1_e, ↓vRng2_e, vZip, ↓blK_bl, ↓tupK_tup, ↓pairK_2, ↓inK_int, ↓truD_bl, ↓truD_int, ↓truD_non, ↓truD_tup, ↓isn_non, ↓isn_int, ↓isn_bl, ↓isn_str, ↓isn_tup, ↓isn_ref, ↓Z.add_int, ↓add_tup, ↓add_ref, ↓intD_eq, ↓intD0_eq, ↓Z.mul_int, ↓Z.eq_int, ↓Z.ne_int, ↓Z.eq_bl, ↓ne_bl, ↓Z.eq_str, ↓Z.ne_str, ↓eq_non, ↓eq_tup, ↓eq_ref, ↓Z.neg_int, ↓seq_tup, ↓seq_ilst, ↓Z.ix_tup, ↓ix_int, ↓sqK_some, ↓ixK_0, ↓ixK_s, ↓tyK_some, ↓ty_non, ↓ty_bl, ↓ty_int, ↓ty_str, ↓ty_tup, ↓ty_ilst, ↓isi_eq, ↓isi2_eq, isiW, ↓len_tup, ↓intc_int, ↓abs_int, ↓gcd_int, ↓list_seq, ↓tuple_seq, ↓all_ref, ↓sum_ref, ↓Z.sl_tup, ↓sl_ilst, ↓sl_ref, ↓walk_tup, ↓walk_ilst, ↓walk_ref, ↓en_ref, start', List.map_cons, List.map_nil, List.cons_append, List.nil_append, List.append_nil, List.length_cons, List.length_nil, List.replicate, List.set_cons_zero, List.set_cons_succ, List.set_nil, List.getElem?_cons_zero, List.getElem?_cons_succ, wipeD, Nat.zero_add, Nat.reduceAdd, Nat.reduceSub, Nat.sub_self, Nat.sub_zero, true_and, and_true, if_true, if_false, Bool.not_true, Bool.not_false, ite_true, ite_false, Bool.false_eq_true, decide_true, decide_false, decide_eq_true_eq, Int.cast_ofNat_Int, reduceIte, Bool.not_eq_true', decide_eq_false_iff_not, Bool.and_true, Bool.true_and, Bool.and_false, Bool.false_and, Bool.or_true, Bool.true_or, Bool.or_false, Bool.false_or, beq_self_eq_true, bne_self_eq_false, not_true_eq_false, not_false_eq_true, String.reduceBEq, String.reduceBNe, Int.reduceToNat, Bool.true_eq_false, reduceCtorEq, Int.reduceEq, Int.reduceLT, Int.reduceLE, gt_iff_lt, ge_iff_le, ↓wBreak_m, ↓wCont_m, ↓wPar3_m, trioK_3, ↓wFldS_m, ↓wFld_e, ↓wChain_e, ↓wLam_e, ↓wIsE_e, ↓wRaise0_e, ↓wCallX_e, ↓wCallKX_e, ↓wYes_e, ↓wCallK_e, isDct_eq, dkK_eq, ↓wDnewT_e])
local macro_rules | `(tactic| walk_at "go") => `(tactic| ((first | with_reducible refine hld_i ?_ | skip); try walk_at "st"))
local macro_rules | `(tactic| walk_at "sx") => `(tactic| ((try simp only [sp_is_integer, sp_lowest, sp_exact, sp_is_number, sp_is_corner, sp_is_index, sp_is_face, sp_Net_init, sp_scaled, sp_determinant, sp_steps, sp_edge_of, sp_surpluses, sp_open_edges, sp_is_closed, sp_volume, sp_law_draw, sp_law_of, sp_law_same, sp_law_low, sp_law_add, sp_law_sub, sp_law_mul, sp_law_hand, sp_law_number, sp_law_ring, sp_law_loft, sp_law_det, sp_law_volume, sp_law_bag, sp_as_number, sp_compare, sp_loft, sp_law_handed, sp_law_lt, sp_law_area, sp_law_spots, sp_law_heights, sp_law_right, sp_law_any]); try walk_at "st"))
local macro_rules | `(tactic| walk_at "s0") => `(tactic| simp (implicitDefEqProofs := false) only [start', List.map_cons, List.map_nil, List.length_cons, List.length_nil, Nat.zero_add, Nat.reduceAdd, Nat.reduceSub, List.replicate, List.cons_append, List.nil_append])
local macro_rules | `(tactic| walk_at "rr") => `(tactic| repeat (first | with_reducible refine hld_i ?_ | walk_at "st"))
local macro_rules | `(tactic| walk_at "rx") => `(tactic| repeat (first | with_reducible refine hld_i ?_ | walk_at "st" | simp only [sp_is_integer, sp_lowest, sp_exact, sp_is_number, sp_is_corner, sp_is_index, sp_is_face, sp_Net_init, sp_scaled, sp_determinant, sp_steps, sp_edge_of, sp_surpluses, sp_open_edges, sp_is_closed, sp_volume, sp_law_draw, sp_law_of, sp_law_same, sp_law_low, sp_law_add, sp_law_sub, sp_law_mul, sp_law_hand, sp_law_number, sp_law_ring, sp_law_loft, sp_law_det, sp_law_volume, sp_law_bag, sp_as_number, sp_compare, sp_loft, sp_law_handed, sp_law_lt, sp_law_area, sp_law_spots, sp_law_heights, sp_law_right, sp_law_any]))
local macro_rules | `(tactic| walk_at "dw") => `(tactic| (refine draw (by first | exact up_same | assumption) (by assumption) (by omega) (by omega) (by omega) ?_))

variable {K : PySem.W.Frag}
theorem All2.at {α β : Type} {R : α → β → Prop} {as : List α} {bs : List β} {b : β} (h : All2 R as bs) (m : b ∈ bs) : ∃ a ∈ as, R a b := by
  obtain ⟨i, hi⟩ := List.getElem?_of_mem m
  obtain ⟨a, h1, h2⟩ := h.getr hi
  exact ⟨a, List.mem_of_getElem? h1, h2⟩
theorem All2.append {α β : Type} {R : α → β → Prop} : ∀ {as as' : List α} {bs bs' : List β}, All2 R as bs → All2 R as' bs' → All2 R (as ++ as') (bs ++ bs')
  | _, _, _, _, .nil, h => h
  | _, _, _, _, .cons x r, h => .cons x (All2.append r h)
theorem All2.map {α β γ δ : Type} {R : α → β → Prop} {S : γ → δ → Prop} {f : α → γ} {g : β → δ} (k : ∀ a b, R a b → S (f a) (g b)) : ∀ {as : List α} {bs : List β}, All2 R as bs → All2 S (as.map f) (bs.map g)
  | _, _, .nil => .nil
  | _, _, .cons x r => .cons (k _ _ x) (All2.map k r)
/-- a point as it is passed, with a height -/
def ad (h d : D) : D := match d with
  | .tup [a, b] => .tup [a, b, h]
  | d => d
theorem walk_seq {d : D} {L : Lp} {ds : List D} {R : List D → (Lp → Prop) → Lp → Prop} (h : seqD d L = some ds) (k : ∀ st : Lp → Prop, (∀ L', Le L L' → st L') → R ds st L) : walkK d L R := by
  unfold seqD at h
  split at h
  · cases h; exact k _ fun _ _ => trivial
  · cases h; exact k _ fun _ _ => trivial
  · rename_i p
    split at h
    · cases h
      rename_i q
      exact ⟨_, q, k _ fun L' l => l _ _ q⟩
    · cases h
  · cases h
theorem hp_hc {xs : List (Rat × Rat)} {dxs : List D} {lo : Rat} {dl : D} (h : All2 HP xs dxs) (hl : Hnd lo dl) : All2 HC (xs.map fun x => (x.1, x.2, lo)) (dxs.map (ad dl)) := h.map fun a b ⟨d1, d2, e, h1, h2⟩ => by
  subst e
  exact ⟨d1, d2, dl, rfl, h1, h2, hl⟩
theorem loft_good7 {xs ys : List (Rat × Rat)} {lo hi : Rat} (hl : 3 ≤ xs.length ∧ xs.length ≤ 7 ∧ ys.length = xs.length) (h1 : ∀ x ∈ xs, Ok2 x) (h2 : ∀ x ∈ ys, Ok2 x) (h3 : Ok1 lo) (h4 : Ok1 hi) : Good (loftC xs ys lo hi) (loftF xs.length) := by
  have lc : (loftC xs ys lo hi).length = 2 * xs.length := by
    unfold loftC
    rw [List.length_append, List.length_map, List.length_map, hl.2.2]
    omega
  have lf := loftF_len xs.length
  have mm : xs.length ∈ [3, 4, 5, 6, 7] := by
    have : xs.length = 3 ∨ xs.length = 4 ∨ xs.length = 5 ∨ xs.length = 6 ∨ xs.length = 7 := by omega
    simpa using this
  refine ⟨fun c hc => ?_, fun f hf => ?_, by omega, by omega⟩
  · unfold loftC at hc
    rcases List.mem_append.mp hc with hc | hc
    · obtain ⟨x, hx, rfl⟩ := List.mem_map.mp hc
      exact ⟨(h1 x hx).1, (h1 x hx).2, h3⟩
    · obtain ⟨x, hx, rfl⟩ := List.mem_map.mp hc
      exact ⟨(h2 x hx).1, (h2 x hx).2, h4⟩
  · have := loftF_in7 _ mm f hf
    rw [lc]
    exact inF_lift (by omega) this
theorem cmp_lt {p q : Rat} (h : p < q) : ¬ (0 ≤ cmpR p q) := by unfold cmpR; rw [if_pos h]; decide
theorem cmp_ge {p q : Rat} (h : ¬ p < q) : 0 ≤ cmpR p q := by unfold cmpR; rw [if_neg h]; split <;> decide
theorem fanL_D (n : Nat) : (fanL n).map fD = (List.range n).map fun j : Nat => D.tup [.int 0, .int (1 + (j : Int) + 1), .int (1 + (j : Int))] := by
  unfold fanL; rw [List.map_map]; rfl
theorem fanU_D (m n : Nat) : (fanU m n).map fD = (List.range n).map fun j : Nat => D.tup [.int m, .int ((m : Int) + (1 + (j : Int))), .int ((m : Int) + (1 + (j : Int)) + 1)] := by
  unfold fanU; rw [List.map_map]; rfl
theorem rd_loft : RD_loft K := by
  intro ds L Q E' h
  unfold sp_loft at h
  split at h
  · rename_i du dl dv dh
    obtain ⟨xs, ys, lo, hi, dxs, dys, eu, ev, hx, hy, hlo, hhi, okx, oky, okl, okh, lx, ly, hbad, hgood⟩ := h
    have e1 : dxs.length = xs.length := hx.length.symm
    have e2 : dys.length = ys.length := hy.length.symm
    unfold t_loft
    walk_at "s0"
    walk_at "rr"
    rw [len_seq eu]
    walk_at "rr"
    rw [len_seq ev]
    walk_at "rr"
    rw [e1, e2]
    have bad : BadL xs ys lo hi = true → E' (He.ga K "BadLoft") [] L := hbad
    unfold BadL at bad hgood
    by_cases c1 : xs.length = ys.length
    · rw [if_neg (by omega)]
      walk_at "rr"
      by_cases c2 : xs.length < 3
      · rw [if_pos (by omega)]
        walk_at "rr"
        exact bad (by simp [c2])
      · rw [if_neg (by omega)]
        walk_at "rr"
        refine ⟨lo, hi, hlo, hhi, ok1_sm okl, ok1_sm okh, ?_⟩
        walk_at "rr"
        by_cases c3 : lo < hi
        · rw [if_neg (cmp_lt c3)]
          walk_at "rr"
          have h := hgood (by simp [c1, c3]; omega)
          have hm : 3 ≤ xs.length ∧ xs.length ≤ 7 ∧ ys.length = xs.length := ⟨by omega, lx, c1.symm⟩
          have lg := loft_good7 hm okx oky okl okh
          have hA := (hp_hc hx hlo).append (hp_hc hy hhi)
          generalize hm2 : xs.length = m at *
          unfold t_loft_1
          walk_at "rr"
          refine walk_seq eu fun st hst => ?_
          have ux : dxs.map id = dxs := List.map_id _
          have uy : dys.map id = dys := List.map_id _
          rw [← ux]
          refine lcF_f dxs id (ad dl) (szl (by omega)) hst (fun z Q' hz hq => ?_) ?_
          · obtain ⟨x, _, d1, d2, rfl, _, _⟩ := hx.at hz
            walk_at "rr"
            exact hq
          walk_at "rr"
          refine walk_seq ev fun st hst => ?_
          rw [← uy]
          refine lcF_f dys id (ad dh) (szl (by omega)) hst (fun z Q' hz hq => ?_) ?_
          · obtain ⟨x, _, d1, d2, rfl, _, _⟩ := hy.at hz
            walk_at "rr"
            exact hq
          walk_at "rr"
          refine ⟨szl (by omega), ?_⟩
          walk_at "rr"
          intro q nq
          walk_at "rr"
          refine ⟨by omega, by omega, ?_⟩
          rw [Int.toNat_natCast]
          refine for_r (fun i τ' L' => (∃ o7 o8 o9 o10, τ' = [some du, some dl, some dv, some dh, some (.int m), some (.ilst (dxs.map (ad dl) ++ dys.map (ad dh))), some (.ref q), o7, o8, o9, o10]) ∧ L' = up L q (.lst ((loftA m i).map fD))) ⟨⟨_, _, _, _, rfl⟩, rfl⟩ (fun _ _ _ _ _ => trivial) ?_ ?_
          · rintro i τ' L' hi ⟨⟨o7, o8, o9, o10, rfl⟩, rfl⟩
            unfold t_loft_2
            walk_at "rr"
            refine ⟨by omega, ?_⟩
            walk_at "rr"
            refine ⟨kind_up, ?_⟩
            refine app_up (by rw [List.length_map, loftA_len]; exact Nat.lt_of_lt_of_le (show _ < 100 by omega) (szl (by decide))) ?_
            walk_at "rr"
            refine ⟨kind_up, ?_⟩
            refine app_up (by rw [List.length_append, List.length_map, loftA_len]; exact Nat.lt_of_lt_of_le (show _ < 100 by simp; omega) (szl (by decide))) ?_
            walk_at "rr"
            refine .mk ⟨⟨_, _, _, _, rfl⟩, ?_⟩
            rw [loftA_succ, List.map_append, List.append_assoc, Int.zero_add]
            rfl
          · rintro τ' L' ⟨⟨o7, o8, o9, o10, rfl⟩, rfl⟩
            walk_at "rr"
            unfold t_loft_3
            have en : ((m : Int) - 1 - 1).toNat = m - 2 := by omega
            walk_at "rr"
            refine ⟨kind_up, ?_⟩
            refine ⟨⟨by decide, by decide, by omega, by omega⟩, ?_⟩
            rw [en]
            unfold rgD
            refine lcF_f (List.range (m - 2)) (fun i : Nat => D.int (1 + (i : Int))) (fun j : Nat => D.tup [.int 0, .int (1 + (j : Int) + 1), .int (1 + (j : Int))]) (by rw [List.length_range]; exact szl (by omega)) (fun _ _ => trivial) (fun z Q' hz hq => ?_) ?_
            · walk_at "rr"
              exact hq
            rw [← fanL_D]
            walk_at "rr"
            refine ⟨_, _, up_same, rfl, by rw [List.length_map, List.length_map, loftA_len, (fan_len m _).1]; exact szl (by omega), ?_⟩
            walk_at "rr"
            refine ⟨kind_up, ?_⟩
            refine ⟨⟨by decide, by decide, by omega, by omega⟩, ?_⟩
            rw [en]
            unfold rgD
            refine lcF_f (List.range (m - 2)) (fun i : Nat => D.int (1 + (i : Int))) (fun j : Nat => D.tup [.int m, .int ((m : Int) + (1 + (j : Int))), .int ((m : Int) + (1 + (j : Int)) + 1)]) (by rw [List.length_range]; exact szl (by omega)) (fun _ _ => trivial) (fun z Q' hz hq => ?_) ?_
            · walk_at "rr"
              exact hq
            rw [← fanU_D]
            walk_at "rr"
            refine ⟨_, _, up_same, rfl, by rw [List.length_append, List.length_map, List.length_map, List.length_map, loftA_len, (fan_len m _).1, (fan_len m _).2]; exact szl (by omega), ?_⟩
            walk_at "rr"
            rw [← List.map_append, ← List.map_append]
            intro x nx
            have xq : x ≠ q := fun z => by subst z; rw [up_same] at nx; cases nx
            refine ⟨loftC xs ys lo hi, loftF m, _, lg, hA, seqL_ilst, seqL_ref (by rw [up_ne (Ne.symm xq), up_same]; rfl), up_same, rfl, ?_⟩
            rw [up_up]
            walk_at "rr"
            rw [del_no nx]
            exact ⟨L, Le.new1 nq, h⟩
        · rw [if_pos (cmp_ge c3)]
          walk_at "rr"
          exact bad (by simp [c3])
    · rw [if_pos (by omega)]
      walk_at "rr"
      exact bad (by simp [c1])
  · exact h.elim
end Hd

open PySem PySem.Spec PyProof.Rows L2 Z
namespace Hd
local macro_rules | `(tactic| walk_at "st") => `(tactic| simp (implicitDefEqProofs := false) only [↓seqD_up, ↓seqL_up, ↓len_ilst, ↓len_up, ↓truD_ilst, up_up, List.length_map, ↓wFor_m, ↓frzK_up, ↓frzK_upi, ↓wFz_e, ↓wFg_e, ↓wLstF_e, ↓addF_int, ↓addF_l, ↓addF_tup, ↓addF_str, ↓mulF_int, ↓mulF_l, ↓wSlF_e, ↓slF_tup, ↓slF_str, ↓slF_l, ↓slF_scr, ↓slF_ref, ↓listF_eq, ↓listdF_eq, ↓sortedF_eq, ↓allF_eq, ↓sumF_eq, ↓extF_eq, ↓vEnumF_e, ↓enF_l, ↓fldF_obj, ↓fldF_ref, ↓wFldF_e, ↓wLcF_e, ↓pName_e, ↓pNil_e, ↓pCons_e, ↓pTup_e, ↓gK_some, ↓obind_e, ↓seqL_ilst, ↓addM_eq, ↓sq2_some, ↓wVar_0, ↓wVar_s, ↓hNil_e, ↓hCons_e, ↓wDget_e, ↓wDget2_e, ↓wDput_m, ↓wSortIt_e, ↓wMake_e, ↓wIfS_m, ↓wSeq_m, ↓wAsg_m, ↓hName_e, ↓wC_e, ↓wNil_e, ↓wCons_e, ↓wTup_e, ↓wLst_e, ↓wOp_e, ↓wUn_e, ↓wIf_e, ↓wAndV_e, ↓wOrV_e, ↓wNotV_e, ↓wB_e, ↓wAnd_e, ↓wOr_e, ↓zNot_e, ↓zTru_e, ↓hCons_e, ↓hTup_e, ↓hSub_e, ↓wNext_m, ↓wDrop_m, ↓wRet_m, ↓wRetN_m, ↓wPar_m, ↓wCB_e, ↓wCall_e, ↓wIxk_e, ↓wSl_e, ↓wNoPart_e, ↓wPart_e, ↓wBM_e, ↓wBM0_e, ↓wChain_e, ↓wNever_e, ↓vSeq_e, ↓vEnum_e, ↓vRng1_e, ↓vRng2_e, vZip, ↓blK_bl, ↓tupK_tup, ↓pairK_2, ↓inK_int, ↓truD_bl, ↓truD_int, ↓truD_non, ↓truD_tup, ↓isn_non, ↓isn_int, ↓isn_bl, ↓isn_str, ↓isn_tup, ↓isn_ref, ↓Z.add_int, ↓add_tup, ↓add_ref, ↓intD_eq, ↓intD0_eq, ↓Z.mul_int, ↓Z.eq_int, ↓Z.ne_int, ↓Z.eq_bl, ↓ne_bl, ↓Z.eq_str, ↓Z.ne_str, ↓eq_non, ↓eq_tup, ↓eq_ref, ↓Z.neg_int, ↓seq_tup, ↓seq_ilst, ↓Z.ix_tup, ↓ix_int, ↓sqK_some, ↓ixK_0, ↓ixK_s, ↓tyK_some, ↓ty_non, ↓ty_bl, ↓ty_int, ↓ty_str, ↓ty_tup, ↓ty_ilst, ↓isi_eq, ↓isi2_eq, isiW, ↓len_tup, ↓intc_int, ↓abs_int, ↓gcd_int, ↓list_seq, ↓tuple_seq, ↓all_ref, ↓sum_ref, ↓Z.sl_tup, ↓sl_ilst, ↓sl_ref, ↓walk_tup, ↓walk_ilst, ↓walk_ref, ↓en_ref, start', List.map_cons, List.map_nil, List.cons_append, List.nil_append, List.append_nil, List.length_cons, List.length_nil, List.replicate, List.set_cons_zero, List.set_cons_succ, List.set_nil, List.getElem?_cons_zero, List.getElem?_cons_succ, wipeD, Nat.zero_add, Nat.reduceAdd, Nat.reduceSub, Nat.sub_self, Nat.sub_zero, true_and, and_true, if_true, if_false, Bool.not_true, Bool.not_false, ite_true, ite_false, Bool.false_eq_true, decide_true, decide_false, decide_eq_true_eq, Int.cast_ofNat_Int, reduceIte, Bool.not_eq_true', decide_eq_false_iff_not, Bool.and_true, Bool.true_and, Bool.and_false, Bool.false_and, Bool.or_true, Bool.true_or, Bool.or_false, Bool.false_or, beq_self_eq_true, bne_self_eq_false, not_true_eq_false, not_false_eq_true, String.reduceBEq, String.reduceBNe, Int.reduceToNat, Bool.true_eq_false, reduceCtorEq, Int.reduceEq, Int.reduceLT, Int.reduceLE, gt_iff_lt, ge_iff_le, ↓wBreak_m, ↓wCont_m, ↓wPar3_m, trioK_3, ↓wFldS_m, ↓wFld_e, ↓wChain_e, ↓wLam_e, ↓wIsE_e, ↓wRaise0_e, ↓wCallX_e, ↓wCallKX_e, ↓wYes_e, ↓wCallK_e, isDct_eq, dkK_eq, ↓wDnewT_e])
local macro_rules | `(tactic| walk_at "go") => `(tactic| ((first | with_reducible refine hld_i ?_ | skip); try walk_at "st"))
local macro_rules | `(tactic| walk_at "sx") => `(tactic| ((try simp only [sp_is_integer, sp_lowest, sp_exact, sp_is_number, sp_is_corner, sp_is_index, sp_is_face, sp_Net_init, sp_scaled, sp_determinant, sp_steps, sp_edge_of, sp_surpluses, sp_open_edges, sp_is_closed, sp_volume, sp_law_draw, sp_law_of, sp_law_same, sp_law_low, sp_law_add, sp_law_sub, sp_law_mul, sp_law_hand, sp_law_number, sp_law_ring, sp_law_loft, sp_law_det, sp_law_volume, sp_law_bag, sp_as_number, sp_compare, sp_loft, sp_law_handed, sp_law_lt, sp_law_area, sp_law_spots, sp_law_heights, sp_law_right, sp_law_any]); try walk_at "st"))
local macro_rules | `(tactic| walk_at "s0") => `(tactic| simp (implicitDefEqProofs := false) only [start', List.map_cons, List.map_nil, List.length_cons, List.length_nil, Nat.zero_add, Nat.reduceAdd, Nat.reduceSub, List.replicate, List.cons_append, List.nil_append])
local macro_rules | `(tactic| walk_at "rr") => `(tactic| repeat (first | with_reducible refine hld_i ?_ | walk_at "st"))
local macro_rules | `(tactic| walk_at "rx") => `(tactic| repeat (first | with_reducible refine hld_i ?_ | walk_at "st" | simp only [sp_is_integer, sp_lowest, sp_exact, sp_is_number, sp_is_corner, sp_is_index, sp_is_face, sp_Net_init, sp_scaled, sp_determinant, sp_steps, sp_edge_of, sp_surpluses, sp_open_edges, sp_is_closed, sp_volume, sp_law_draw, sp_law_of, sp_law_same, sp_law_low, sp_law_add, sp_law_sub, sp_law_mul, sp_law_hand, sp_law_number, sp_law_ring, sp_law_loft, sp_law_det, sp_law_volume, sp_law_bag, sp_as_number, sp_compare, sp_loft, sp_law_handed, sp_law_lt, sp_law_area, sp_law_spots, sp_law_heights, sp_law_right, sp_law_any]))
local macro_rules | `(tactic| walk_at "dw") => `(tactic| (refine draw (by first | exact up_same | assumption) (by assumption) (by omega) (by omega) (by omega) ?_))

variable {K : PySem.W.Frag}
theorem up_out2 {L : Lp} {p q b : Addr} {o1 o2 u v : O} (h : p ≠ b) (k : q ≠ b) : up (up (up (up L b o1) p u) q v) b o2 = up (up (up L b o2) p u) q v := by
  rw [up_comm k, up_out h]
theorem once_bad {Q : VK'} {S : Lp} {b : Addr} {xs ys : List (Rat × Rat)} {lo hi : Rat} {o5 o6 o7 o8 : Option D} (bad : BadL xs ys lo hi = true) (hlo : Ok1 lo) (hhi : Ok1 hi) (h : Dn (Q (.bl true)) S) :
    t_law_once_1 K { nx := fun _ L1 => Dn (Q .non) L1, rt := fun d L1 => Dn (Q d) L1 } [some (.ref b), some (.ilst (xs.map ptD)), some (numD lo), some (.ilst (ys.map ptD)), some (numD hi), o5, o6, o7, o8, some (.tup [.str "BadLoft"])] S := by
  have sm : ∀ E, sp_law_same [.tup [.str "BadLoft"], .tup [.str "BadLoft"]] S (fun d L1 => Dn (Q d) L1) E := fun E => same_e ⟨szl (Nat.le_of_ble_eq_true rfl), .cons rfl .nil⟩ h
  unfold t_law_once_1
  walk_at "rr"
  unfold BadL at bad
  by_cases c1 : xs.length = ys.length
  · rw [if_neg (by omega)]
    walk_at "rr"
    by_cases c2 : xs.length < 3
    · rw [if_pos (by omega)]
      walk_at "rr"
      exact sm _
    · rw [if_neg (by omega)]
      walk_at "rr"
      refine ⟨lo, hi, rfl, rfl, ok1_sm hlo, ok1_sm hhi, ?_⟩
      walk_at "rr"
      by_cases c3 : lo < hi
      · exfalso
        simp [c1, c3] at bad
        omega
      · rw [if_pos c3]
        walk_at "rr"
        exact sm _
  · rw [if_pos (by omega)]
    walk_at "rr"
    exact sm _
theorem m7 {m : Nat} (h : 3 ≤ m ∧ m ≤ 7) : m ∈ [3, 4, 5, 6, 7] := by
  have : m = 3 ∨ m = 4 ∨ m = 5 ∨ m = 6 ∨ m = 7 := by omega
  simpa using this
theorem once_good {Q : VK'} {L : Lp} {b p q : Addr} {xs ys : List (Rat × Rat)} {A B : List D} {lo hi : Rat} {o7 o8 : Option D} (good : BadL xs ys lo hi = false) (hx : ∀ x ∈ xs, Ok2 x) (hy : ∀ x ∈ ys, Ok2 x) (hlo : Ok1 lo) (hhi : Ok1 hi) (lx : xs.length ≤ 7)
    (lA : A.length = xs.length) (lB : B.length = ys.length) (np : L p = none) (nq : L q = none) (hpq : q ≠ p) (h : Q (.bl true) L) :
    t_law_once_1 K { nx := fun _ L1 => Dn (Q .non) L1, rt := fun d L1 => Dn (Q d) L1 } [some (.ref b), some (.ilst (xs.map ptD)), some (numD lo), some (.ilst (ys.map ptD)), some (numD hi), some (.ref p), some (.ref q), o7, o8, some (.tup [.str "", netD K (loftC xs ys lo hi) (loftF xs.length)])]
      (up (up L p (.lst A)) q (.lst B)) := by
  unfold BadL at good
  have g : xs.length = ys.length ∧ ¬ xs.length < 3 ∧ lo < hi := by
    simp at good
    refine ⟨good.1.1, by omega, good.2⟩
  obtain ⟨c1, c2, c3⟩ := g
  have pl : up (up L p (.lst A)) q (.lst B) p = some (.lst A) := by rw [up_ne (Ne.symm hpq), up_same]
  unfold t_law_once_1
  walk_at "rr"
  rw [if_neg (by omega)]
  walk_at "rr"
  rw [if_neg (by omega)]
  walk_at "rr"
  refine ⟨lo, hi, rfl, rfl, ok1_sm hlo, ok1_sm hhi, ?_⟩
  walk_at "rr"
  rw [if_neg (fun z => z c3)]
  walk_at "rr"
  unfold t_law_once_2
  walk_at "rr"
  rw [len_seq (seq_ref pl)]
  walk_at "rr"
  rw [if_neg (by omega)]
  walk_at "rr"
  rw [if_neg (by omega)]
  walk_at "rr"
  unfold t_law_once_3
  walk_at "rr"
  refine ⟨.inl ⟨rfl, _, pl⟩, ?_⟩
  refine ⟨A, pl, Nat.lt_of_lt_of_le (show A.length < 8 by omega) (szl (by decide)), ?_⟩
  walk_at "rr"
  refine ⟨.inl ⟨rfl, B, by rw [up_ne hpq, up_same]⟩, ?_⟩
  refine ⟨B, by rw [up_ne hpq, up_same], ?_⟩
  walk_at "rr"
  refine ⟨xs, ys, lo, hi, rfl, rfl, rfl, rfl, ⟨by omega, by omega, by omega⟩, ?_⟩
  walk_at "rr"
  refine ⟨_, _, rfl, rfl, loft_good7 ⟨by omega, by omega, by omega⟩ hx hy hlo hhi, opn_loft (m7 ⟨by omega, by omega⟩), ?_⟩
  exact ⟨L, Le.new (Le.new (Le.new (Le.new1 np) nq) np) nq, h⟩
theorem rd_law_once (xm : PySem.W.exmOne K (.ref (He.ga K "BadLoft")) (.ref (He.ga K "Refused")) = some true) (ec : ExcC K (He.ga K "BadLoft")) (ks : PySem.W.kitOne K (.ref (He.ga K "BadLoft")) (.ref (He.ga K "BadLoft")) = some true)
    (kv : PySem.W.kitOne K (.ref (He.ga K "BadLoft")) (.type "ValueError") = some true) : RD_law_once K := by
  intro ds L Q E h
  unfold sp_law_once at h
  split at h
  · rename_i b
    obtain ⟨o, T, hb, hB, hT, hTab, h⟩ := h
    unfold t_law_once
    walk_at "s0"
    walk_at "rr"
    refine ⟨o, T, hb, hB, by omega, fun xs ys lo hi o1 hx hy hlo hhi lx ly hB1 => ?_⟩
    walk_at "rr"
    refine ⟨o1, _, xs, up_same, hB1, by omega, rfl, by omega, fun A o2 p hB2 hA np => ?_⟩
    walk_at "rr"
    have hpb : p ≠ b := fun z => by subst z; rw [up_same] at np; cases np
    rw [up_ne hpb] at np
    refine ⟨o2, _, ys, by rw [up_ne (Ne.symm hpb), up_same], hB2, by omega, rfl, by omega, fun B o3 q hB3 hBy nq => ?_⟩
    walk_at "rr"
    have hqp : q ≠ p := fun z => by subst z; rw [up_same] at nq; cases nq
    rw [up_ne hqp] at nq
    have hqb : q ≠ b := fun z => by subst z; rw [up_same] at nq; cases nq
    rw [up_ne hqb] at nq
    rw [up_out hpb]
    have bS : ∀ o, up (up (up L b o) p (.lst A)) q (.lst B) b = some o := fun o => by rw [up_ne (Ne.symm hqb), up_ne (Ne.symm hpb), up_same]
    refine ⟨o3, _, lo, bS o3, hB3, by omega, rfl, fun d7 o4 h7 hB4 => ?_⟩
    walk_at "rr"
    rw [up_out2 hpb hqb]
    refine ⟨o4, _, hi, bS o4, hB4, by omega, rfl, fun d8 o5 h8 hB5 => ?_⟩
    walk_at "rr"
    rw [up_out2 hpb hqb]
    refine draw (bS o5) hB5 (by omega) (by decide) (by decide) fun n o6 hn hB6 => ?_
    walk_at "rr"
    rw [up_out2 hpb hqb]
    have fin : Q (.bl true) (up L b o6) := h o6 (hB6.le (by omega))
    have nt : ∀ o : O, ∀ T, IsBag T o → ∀ q, o ≠ .tab q := fun o T hB q e => by
      obtain ⟨ns, i, r, m, t, e2, _⟩ := hB
      rw [e2] at e; cases e
    have tS : TabsAre (lamT K) (up (up (up L b o6) p (.lst A)) q (.lst B)) := by
      refine TabsAre.up (TabsAre.up (TabsAre.up hTab (fun q e => nt _ _ hB q ?_) (nt _ _ hB6)) (fun q e => ?_) (fun q e => nomatch e)) (fun q e => ?_) (fun q e => nomatch e)
      · rw [hb] at e; cases e; rfl
      · rw [up_ne hpb, np] at e; cases e
      · rw [up_ne hqp, up_ne hqb, nq] at e; cases e
    have lA := hA.length
    have lB := hBy.length
    have n1 : up L b o6 p = none := by rw [up_ne hpb]; exact np
    have n2 : up L b o6 q = none := by rw [up_ne hqb]; exact nq
    have good := fun (g : BadL xs ys lo hi = false) => once_good (K := K) (b := b) (Q := Q) (o7 := some d7) (o8 := some d8) g hx hy hlo hhi lx lA.symm lB.symm n1 n2 hqp fin
    have bad := fun (g : BadL xs ys lo hi = true) => once_bad (K := K) (b := b) (Q := Q) (o5 := some (.ref p)) (o6 := some (.ref q)) (o7 := some d7) (o8 := some d8) (S := up (up (up L b o6) p (.lst A)) q (.lst B)) g hlo hhi ⟨_, Le.new (Le.new1 n1) n2, fin⟩
    have pS : seqD (.ref p) (up (up (up L b o6) p (.lst A)) q (.lst B)) = some A := seq_ref (by rw [up_ne (Ne.symm hqp), up_same])
    have qS : seqD (.ref q) (up (up (up L b o6) p (.lst A)) q (.lst B)) = some B := seq_ref up_same
    have caught : BadL xs ys lo hi = true → ∀ (Q2 : VK') (nx2 : S' → Lp → Prop) (a : Addr) (od : Option Addr), od = none → Q2 (.tup [.str "BadLoft"]) (up (up (up L b o6) p (.lst A)) q (.lst B)) →
        ts_law_try K a (He.ga K "BadLoft") od { nx := nx2, rt := fun d L3 => Dn (Q2 d) L3 } [none, some (.ref a)] (upx (up (up (up L b o6) p (.lst A)) q (.lst B)) od []) := by
      intro _ Q2 nx2 a od e k
      subst e
      unfold upx ts_law_try
      walk_at "rr"
      refine ⟨ec, true, ks, ?_⟩
      walk_at "rr"
      refine ⟨ec, true, kv, ?_⟩
      walk_at "rr"
      exact .mk k
    by_cases c : (n : Int) = 0
    · rw [if_pos c]
      walk_at "rr"
      refine ⟨tS, ?_⟩
      unfold TTd
      walk_at "rr"
      refine ⟨xs, ys, lo, hi, A, B, pS, qS, hA, hBy, h7, h8, hx, hy, hlo, hhi, lx, ly, fun g => ⟨xm, fun a od na nd e => ?_⟩, fun g => ?_⟩
      · exact caught g _ _ a od (e.mpr rfl) (hld_i (bad g))
      · walk_at "rr"
        exact good g
    · rw [if_neg c]
      walk_at "rr"
      refine ⟨tS, ?_⟩
      unfold TTd
      walk_at "rr"
      rw [pS]
      walk_at "rr"
      refine ⟨xs, ys, lo, hi, A, B, rfl, rfl, hA, hBy, h7, h8, hx, hy, hlo, hhi, lx, ly, fun g => ⟨xm, fun a od na nd e => ?_⟩, fun g => ?_⟩
      · exact caught g _ _ a od (e.mpr rfl) (hld_i (bad g))
      · walk_at "rr"
        exact good g
  · exact h.elim
end Hd

open PySem PySem.Spec PyProof.Rows L2 Z
namespace Hd
theorem mk6 : (mkRat 1 6 : Rat) = 1 / 6 := by decide +kernel
theorem mk2 : (mkRat 1 2 : Rat) = 1 / 2 := by decide +kernel
theorem prism3 (a b c d e f u v l s : Rat) : vol (loftC [(a, b), (c, d), (e, f)] [(a + u, b + v), (c + u, d + v), (e + u, f + v)] l (l + s)) (loftF 3) = area2 [(a, b), (c, d), (e, f)] * mkRat 1 2 * (l + s - l) := by
  have ef : loftF 3 = [(0, 1, 4), (0, 4, 3), (1, 2, 5), (1, 5, 4), (2, 0, 3), (2, 3, 5), (0, 2, 1), (3, 4, 5)] := by decide
  rw [ef, mk2]
  unfold vol vol6
  rw [mk6]
  show ((((((((0 + det3 (a, b, l) (c, d, l) (c + u, d + v, l + s)) + det3 (a, b, l) (c + u, d + v, l + s) (a + u, b + v, l + s)) + det3 (c, d, l) (e, f, l) (e + u, f + v, l + s)) + det3 (c, d, l) (e + u, f + v, l + s) (c + u, d + v, l + s)) + det3 (e, f, l) (a, b, l) (a + u, b + v, l + s)) + det3 (e, f, l) (a + u, b + v, l + s) (e + u, f + v, l + s)) + det3 (a, b, l) (e, f, l) (c, d, l)) + det3 (a + u, b + v, l + s) (c + u, d + v, l + s) (e + u, f + v, l + s)) * (1 / 6) = (((0 + trm ((a, b), (e, f))) + trm ((c, d), (a, b))) + trm ((e, f), (c, d))) * (1 / 2) * (l + s - l)
  simp only [det3, trm]
  grind
theorem prism4 (a b c d e f g h u v l s : Rat) : vol (loftC [(a, b), (c, d), (e, f), (g, h)] [(a + u, b + v), (c + u, d + v), (e + u, f + v), (g + u, h + v)] l (l + s)) (loftF 4) = area2 [(a, b), (c, d), (e, f), (g, h)] * mkRat 1 2 * (l + s - l) := by
  have ef : loftF 4 = [(0, 1, 5), (0, 5, 4), (1, 2, 6), (1, 6, 5), (2, 3, 7), (2, 7, 6), (3, 0, 4), (3, 4, 7), (0, 2, 1), (0, 3, 2), (4, 5, 6), (4, 6, 7)] := by decide
  rw [ef, mk2]
  unfold vol vol6
  rw [mk6]
  show ((((((((((((0 + det3 (a, b, l) (c, d, l) (c + u, d + v, l + s)) + det3 (a, b, l) (c + u, d + v, l + s) (a + u, b + v, l + s)) + det3 (c, d, l) (e, f, l) (e + u, f + v, l + s)) + det3 (c, d, l) (e + u, f + v, l + s) (c + u, d + v, l + s)) + det3 (e, f, l) (g, h, l) (g + u, h + v, l + s)) + det3 (e, f, l) (g + u, h + v, l + s) (e + u, f + v, l + s)) + det3 (g, h, l) (a, b, l) (a + u, b + v, l + s)) + det3 (g, h, l) (a + u, b + v, l + s) (g + u, h + v, l + s)) + det3 (a, b, l) (e, f, l) (c, d, l)) + det3 (a, b, l) (g, h, l) (e, f, l)) + det3 (a + u, b + v, l + s) (c + u, d + v, l + s) (e + u, f + v, l + s)) + det3 (a + u, b + v, l + s) (e + u, f + v, l + s) (g + u, h + v, l + s)) * (1 / 6) = ((((0 + trm ((a, b), (g, h))) + trm ((c, d), (a, b))) + trm ((e, f), (c, d))) + trm ((g, h), (e, f))) * (1 / 2) * (l + s - l)
  simp only [det3, trm]
  grind
theorem prism5 (a b c d e f g h i j u v l s : Rat) : vol (loftC [(a, b), (c, d), (e, f), (g, h), (i, j)] [(a + u, b + v), (c + u, d + v), (e + u, f + v), (g + u, h + v), (i + u, j + v)] l (l + s)) (loftF 5) = area2 [(a, b), (c, d), (e, f), (g, h), (i, j)] * mkRat 1 2 * (l + s - l) := by
  have ef : loftF 5 = [(0, 1, 6), (0, 6, 5), (1, 2, 7), (1, 7, 6), (2, 3, 8), (2, 8, 7), (3, 4, 9), (3, 9, 8), (4, 0, 5), (4, 5, 9), (0, 2, 1), (0, 3, 2), (0, 4, 3), (5, 6, 7), (5, 7, 8), (5, 8, 9)] := by decide
  rw [ef, mk2]
  unfold vol vol6
  rw [mk6]
  show ((((((((((((((((0 + det3 (a, b, l) (c, d, l) (c + u, d + v, l + s)) + det3 (a, b, l) (c + u, d + v, l + s) (a + u, b + v, l + s)) + det3 (c, d, l) (e, f, l) (e + u, f + v, l + s)) + det3 (c, d, l) (e + u, f + v, l + s) (c + u, d + v, l + s)) + det3 (e, f, l) (g, h, l) (g + u, h + v, l + s)) + det3 (e, f, l) (g + u, h + v, l + s) (e + u, f + v, l + s)) + det3 (g, h, l) (i, j, l) (i + u, j + v, l + s)) + det3 (g, h, l) (i + u, j + v, l + s) (g + u, h + v, l + s)) + det3 (i, j, l) (a, b, l) (a + u, b + v, l + s)) + det3 (i, j, l) (a + u, b + v, l + s) (i + u, j + v, l + s)) + det3 (a, b, l) (e, f, l) (c, d, l)) + det3 (a, b, l) (g, h, l) (e, f, l)) + det3 (a, b, l) (i, j, l) (g, h, l)) + det3 (a + u, b + v, l + s) (c + u, d + v, l + s) (e + u, f + v, l + s)) + det3 (a + u, b + v, l + s) (e + u, f + v, l + s) (g + u, h + v, l + s)) + det3 (a + u, b + v, l + s) (g + u, h + v, l + s) (i + u, j + v, l + s)) * (1 / 6) = (((((0 + trm ((a, b), (i, j))) + trm ((c, d), (a, b))) + trm ((e, f), (c, d))) + trm ((g, h), (e, f))) + trm ((i, j), (g, h))) * (1 / 2) * (l + s - l)
  simp only [det3, trm]
  grind
theorem prism_vol {xs : List (Rat × Rat)} (h : 3 ≤ xs.length ∧ xs.length ≤ 5) (u v l s : Rat) : vol (loftC xs (xs.map fun x => (x.1 + u, x.2 + v)) l (l + s)) (loftF xs.length) = area2 xs * mkRat 1 2 * (l + s - l) := by
  match xs, h with
  | [(a, b), (c, d), (e, f)], _ => exact prism3 ..
  | [(a, b), (c, d), (e, f), (g, h)], _ => exact prism4 ..
  | [(a, b), (c, d), (e, f), (g, h), (i, j)], _ => exact prism5 ..
  | [], h => simp at h
  | [_], h => simp at h
  | [_, _], h => simp at h
  | _ :: _ :: _ :: _ :: _ :: _ :: _, h => simp at h
end Hd

open PySem PySem.Spec PyProof.Rows L2 Z
namespace Hd
local macro_rules | `(tactic| walk_at "st") => `(tactic| simp (implicitDefEqProofs := false) only [↓seqD_up, ↓seqL_up, ↓len_ilst, ↓len_up, ↓truD_ilst, up_up, List.length_map, ↓wFor_m, ↓frzK_up, ↓frzK_upi, ↓wFz_e, ↓wFg_e, ↓wLstF_e, ↓addF_int, ↓addF_l, ↓addF_tup, ↓addF_str, ↓mulF_int, ↓mulF_l, ↓wSlF_e, ↓slF_tup, ↓slF_str, ↓slF_l, ↓slF_scr, ↓slF_ref, ↓listF_eq, ↓listdF_eq, ↓sortedF_eq, ↓allF_eq, ↓sumF_eq, ↓extF_eq, ↓vEnumF_e, ↓enF_l, ↓fldF_obj, ↓fldF_ref, ↓wFldF_e, ↓wLcF_e, ↓pName_e, ↓pNil_e, ↓pCons_e, ↓pTup_e, ↓gK_some, ↓obind_e, ↓seqL_ilst, ↓addM_eq, ↓sq2_some, ↓wVar_0, ↓wVar_s, ↓hNil_e, ↓hCons_e, ↓wDget_e, ↓wDget2_e, ↓wDput_m, ↓wSortIt_e, ↓wMake_e, ↓wIfS_m, ↓wSeq_m, ↓wAsg_m, ↓hName_e, ↓wC_e, ↓wNil_e, ↓wCons_e, ↓wTup_e, ↓wLst_e, ↓wOp_e, ↓wUn_e, ↓wIf_e, ↓wAndV_e, ↓wOrV_e, ↓wNotV_e, ↓wB_e, ↓wAnd_e, ↓wOr_e, ↓zNot_e, ↓zTru_e, ↓hCons_e, ↓hTup_e, ↓hSub_e, ↓wNext_m, ↓wDrop_m, ↓wRet_m, ↓wRetN_m, ↓wPar_m, ↓wCB_e, ↓wCall_e, ↓wIxk_e, ↓wSl_e, ↓wNoPart_e, ↓wPart_e, ↓wBM_e, ↓wBM0_e, ↓wChain_e, ↓wNever_e, ↓vSeq_e, ↓vEnum_e, ↓vRng1_e, ↓vRng2_e, vZip, ↓blK_bl, ↓tupK_tup, ↓pairK_2, ↓inK_int, ↓truD_bl, ↓truD_int, ↓truD_non, ↓truD_tup, ↓isn_non, ↓isn_int, ↓isn_bl, ↓isn_str, ↓isn_tup, ↓isn_ref, ↓Z.add_int, ↓add_tup, ↓add_ref, ↓intD_eq, ↓intD0_eq, ↓Z.mul_int, ↓Z.eq_int, ↓Z.ne_int, ↓Z.eq_bl, ↓ne_bl, ↓Z.eq_str, ↓Z.ne_str, ↓eq_non, ↓eq_tup, ↓eq_ref, ↓Z.neg_int, ↓seq_tup, ↓seq_ilst, ↓Z.ix_tup, ↓ix_int, ↓sqK_some, ↓ixK_0, ↓ixK_s, ↓tyK_some, ↓ty_non, ↓ty_bl, ↓ty_int, ↓ty_str, ↓ty_tup, ↓ty_ilst, ↓isi_eq, ↓isi2_eq, isiW, ↓len_tup, ↓intc_int, ↓abs_int, ↓gcd_int, ↓list_seq, ↓tuple_seq, ↓all_ref, ↓sum_ref, ↓Z.sl_tup, ↓sl_ilst, ↓sl_ref, ↓walk_tup, ↓walk_ilst, ↓walk_ref, ↓en_ref, start', List.map_cons, List.map_nil, List.cons_append, List.nil_append, List.append_nil, List.length_cons, List.length_nil, List.replicate, List.set_cons_zero, List.set_cons_succ, List.set_nil, List.getElem?_cons_zero, List.getElem?_cons_succ, wipeD, Nat.zero_add, Nat.reduceAdd, Nat.reduceSub, Nat.sub_self, Nat.sub_zero, true_and, and_true, if_true, if_false, Bool.not_true, Bool.not_false, ite_true, ite_false, Bool.false_eq_true, decide_true, decide_false, decide_eq_true_eq, Int.cast_ofNat_Int, reduceIte, Bool.not_eq_true', decide_eq_false_iff_not, Bool.and_true, Bool.true_and, Bool.and_false, Bool.false_and, Bool.or_true, Bool.true_or, Bool.or_false, Bool.false_or, beq_self_eq_true, bne_self_eq_false, not_true_eq_false, not_false_eq_true, String.reduceBEq, String.reduceBNe, Int.reduceToNat, Bool.true_eq_false, reduceCtorEq, Int.reduceEq, Int.reduceLT, Int.reduceLE, gt_iff_lt, ge_iff_le, ↓wBreak_m, ↓wCont_m, ↓wPar3_m, trioK_3, ↓wFldS_m, ↓wFld_e, ↓wChain_e, ↓wLam_e, ↓wIsE_e, ↓wRaise0_e, ↓wCallX_e, ↓wCallKX_e, ↓wYes_e, ↓wCallK_e, isDct_eq, dkK_eq, ↓wDnewT_e])
local macro_rules | `(tactic| walk_at "go") => `(tactic| ((first | with_reducible refine hld_i ?_ | skip); try walk_at "st"))
local macro_rules | `(tactic| walk_at "sx") => `(tactic| ((try simp only [sp_is_integer, sp_lowest, sp_exact, sp_is_number, sp_is_corner, sp_is_index, sp_is_face, sp_Net_init, sp_scaled, sp_determinant, sp_steps, sp_edge_of, sp_surpluses, sp_open_edges, sp_is_closed, sp_volume, sp_law_draw, sp_law_of, sp_law_same, sp_law_low, sp_law_add, sp_law_sub, sp_law_mul, sp_law_hand, sp_law_number, sp_law_ring, sp_law_loft, sp_law_det, sp_law_volume, sp_law_bag, sp_as_number, sp_compare, sp_loft, sp_law_handed, sp_law_lt, sp_law_area, sp_law_spots, sp_law_heights, sp_law_right, sp_law_any]); try walk_at "st"))
local macro_rules | `(tactic| walk_at "s0") => `(tactic| simp (implicitDefEqProofs := false) only [start', List.map_cons, List.map_nil, List.length_cons, List.length_nil, Nat.zero_add, Nat.reduceAdd, Nat.reduceSub, List.replicate, List.cons_append, List.nil_append])
local macro_rules | `(tactic| walk_at "rr") => `(tactic| repeat (first | with_reducible refine hld_i ?_ | walk_at "st"))
local macro_rules | `(tactic| walk_at "rx") => `(tactic| repeat (first | with_reducible refine hld_i ?_ | walk_at "st" | simp only [sp_is_integer, sp_lowest, sp_exact, sp_is_number, sp_is_corner, sp_is_index, sp_is_face, sp_Net_init, sp_scaled, sp_determinant, sp_steps, sp_edge_of, sp_surpluses, sp_open_edges, sp_is_closed, sp_volume, sp_law_draw, sp_law_of, sp_law_same, sp_law_low, sp_law_add, sp_law_sub, sp_law_mul, sp_law_hand, sp_law_number, sp_law_ring, sp_law_loft, sp_law_det, sp_law_volume, sp_law_bag, sp_as_number, sp_compare, sp_loft, sp_law_handed, sp_law_lt, sp_law_area, sp_law_spots, sp_law_heights, sp_law_right, sp_law_any]))
local macro_rules | `(tactic| walk_at "dw") => `(tactic| (refine draw (by first | exact up_same | assumption) (by assumption) (by omega) (by omega) (by omega) ?_))

variable {K : PySem.W.Frag}
theorem rd_law_prism (hc : Cls K (He.ga K "Net")) (n2 : NoAttr K (He.ga K "Net") "faces") : RD_law_prism K := by
  intro ds L Q E h
  unfold sp_law_prism at h
  split at h
  · rename_i b
    obtain ⟨o, T, hb, hB, hT, h⟩ := h
    unfold t_law_prism
    walk_at "s0"
    walk_at "rr"
    refine ⟨o, T, hb, hB, by omega, fun xs o1 hl ok6 hB1 => ?_⟩
    walk_at "rr"
    refine draw up_same hB1 (by omega) (by decide) (by decide) fun n o2 hn hB2 => ?_
    walk_at "rr"
    refine ⟨by decide, Nat.lt_of_lt_of_le (show (2 : Int).natAbs < 2 ^ 2 by decide) (Nat.pow_le_pow_right (by decide) (by decide)), ?_⟩
    walk_at "rr"
    refine ⟨o2, _, _, up_same, hB2, by omega, rfl, by simp, by simp, fun x hx o3 hB3 => ?_⟩
    obtain ⟨s, ws, s0, rfl⟩ : ∃ s : Rat, Ok6 s ∧ 0 < s ∧ x = numD s := by
      simp only [List.mem_cons, List.not_mem_nil, or_false] at hx
      rcases hx with rfl | rfl | rfl | rfl
      · exact ⟨mkRat 1 1, wd_mk (by decide) (by decide) (by decide) (by decide), by decide, rfl⟩
      · exact ⟨mkRat 2 1, wd_mk (by decide) (by decide) (by decide) (by decide), by decide, rfl⟩
      · exact ⟨mkRat 1 3, wd_mk (by decide) (by decide) (by decide) (by decide), by decide, rfl⟩
      · exact ⟨mkRat 5 2, wd_mk (by decide) (by decide) (by decide) (by decide), by decide, rfl⟩
    walk_at "rr"
    have wl : Ok6 (mkRat ((n : Int) - 6) 2) := ok6_mk (by omega) (.inr (.inl rfl))
    generalize mkRat ((n : Int) - 6) 2 = l at wl ⊢
    refine ⟨l, s, rfl, rfl, ok1_sm (ok6_ok1 wl), ok1_sm (ok6_ok1 ws), ?_⟩
    have wh : Ok1 (l + s) := oks_add (ok6_oks wl) (ok6_oks ws)
    walk_at "rr"
    refine draw up_same hB3 (by omega) (by decide) (by decide) fun u o4 hu hB4 => ?_
    walk_at "rr"
    refine draw up_same hB4 (by omega) (by decide) (by decide) fun v o5 hv hB5 => ?_
    walk_at "rr"
    rw [numD_int, numD_int]
    have wu : OkS (mkRat ((u : Int) - 4) 1) := oks_int (by omega)
    have wv : OkS (mkRat ((v : Int) - 4) 1) := oks_int (by omega)
    generalize mkRat ((u : Int) - 4) 1 = u at wu ⊢
    generalize mkRat ((v : Int) - 4) 1 = v at wv ⊢
    have hys : ∀ y ∈ xs.map (fun x => (x.1 + u, x.2 + v)), Ok2 y := fun y hy => by
      obtain ⟨x, hx, rfl⟩ := List.mem_map.mp hy
      exact ⟨oks_add (ok6_oks (ok6 x hx).1) wu, oks_add (ok6_oks (ok6 x hx).2) wv⟩
    have hxs : ∀ x ∈ xs, Ok2 x := fun x hx => ⟨ok6_ok1 (ok6 x hx).1, ok6_ok1 (ok6 x hx).2⟩
    refine lcF_f xs ptD (fun x => ptD (x.1 + u, x.2 + v)) (szl (by omega)) (fun _ _ => trivial) (fun z Q' hz hq => ?_) ?_
    · walk_at "rr"
      refine ⟨z.1, u, rfl, rfl, ok1_sm (hxs z hz).1, oks_sm wu, ?_⟩
      walk_at "rr"
      refine ⟨z.2, v, rfl, rfl, ok1_sm (hxs z hz).2, oks_sm wv, ?_⟩
      walk_at "rr"
      exact hq
    have em : xs.map (fun x => ptD (x.1 + u, x.2 + v)) = (xs.map fun x => (x.1 + u, x.2 + v)).map ptD := by rw [List.map_map]; rfl
    rw [em]
    have ly : (xs.map fun x => (x.1 + u, x.2 + v)).length = xs.length := List.length_map _
    have pv := prism_vol (xs := xs) hl u v l s
    have ar := arI_w ok6 xs.length (Nat.le_refl _)
    rw [show arI xs xs.length = area2 xs by unfold arI area2; rw [List.take_of_length_le (by rw [prv_len]; exact Nat.le_refl _)]] at ar
    generalize (xs.map fun x => (x.1 + u, x.2 + v)) = ys at hys ly pv ⊢
    walk_at "rr"
    refine ⟨o5, _, xs, up_same, hB5, by omega, rfl, by omega, fun A o6 p hB6 hA np => ?_⟩
    walk_at "rr"
    have hpb : p ≠ b := fun z => by subst z; rw [up_same] at np; cases np
    rw [up_ne hpb] at np
    rw [del_no (by rw [up_ne hpb]; exact np)]
    refine ⟨o6, _, ys, up_same, hB6, by omega, rfl, by omega, fun B o7 q hB7 hBy nq => ?_⟩
    walk_at "rr"
    have hqb : q ≠ b := fun z => by subst z; rw [up_same] at nq; cases nq
    rw [up_ne hqb] at nq
    rw [del_no (by rw [up_ne hqb]; exact nq)]
    have lt : l < l + s := by grind
    refine ⟨xs, ys, l, l + s, A, B, rfl, rfl, hA, hBy, .inl rfl, .inl rfl, hxs, hys, ok6_ok1 wl, wh, by omega, by omega, fun g => ?_, fun g => ?_⟩
    · exfalso
      unfold BadL at g
      simp [ly, lt] at g
      omega
    walk_at "rr"
    refine ⟨xs, rfl, by omega, hl.2, ok6, ?_⟩
    walk_at "rr"
    refine ⟨l + s, l, rfl, rfl, ok1_sm wh, ok1_sm (ok6_ok1 wl), ?_⟩
    walk_at "rr"
    have w2 : Wd 72 (2 ^ 60) (area2 xs * mkRat 1 2) := wd_le (wd_mul (e := 2) (c := 2) ar ⟨1, rfl, by decide⟩) (by omega)
    refine ⟨area2 xs * mkRat 1 2, l + s - l, rfl, rfl, wd_sm w2 (by decide) (Nat.lt_of_lt_of_le (show 72 < 2 ^ 60 by decide) (pw (by decide))) (pw (by decide)), ok1_sm (by rw [show l + s - l = s by grind]; exact ok6_ok1 ws), ?_⟩
    walk_at "rr"
    have lg := loft_good7 ⟨by omega, by omega, by omega⟩ hxs hys (ok6_ok1 wl) wh
    refine ⟨_, _, rfl, lg, ?_⟩
    walk_at "rr"
    refine ⟨hc, n2, _, rfl, ?_⟩
    walk_at "rr"
    refine ⟨xs, ys, l, l + s, rfl, rfl, rfl, rfl, ⟨by omega, by omega, by omega⟩, ?_⟩
    walk_at "rr"
    rw [pv]
    refine same_e ⟨szl (Nat.le_of_ble_eq_true rfl), .cons (same_num _) (.cons ⟨sz (n := 90) lg.lf (by decide), all_same _ same_f _⟩ .nil)⟩ ?_
    exact Dn.mk (h o7 (hB7.le (by omega)))
  · exact h.elim
end Hd

open PySem PySem.Spec PyProof.Rows L2 Z
namespace Hd
local macro_rules | `(tactic| walk_at "st") => `(tactic| simp (implicitDefEqProofs := false) only [↓seqD_up, ↓seqL_up, ↓len_ilst, ↓len_up, ↓truD_ilst, up_up, List.length_map, ↓wFor_m, ↓frzK_up, ↓frzK_upi, ↓wFz_e, ↓wFg_e, ↓wLstF_e, ↓addF_int, ↓addF_l, ↓addF_tup, ↓addF_str, ↓mulF_int, ↓mulF_l, ↓wSlF_e, ↓slF_tup, ↓slF_str, ↓slF_l, ↓slF_scr, ↓slF_ref, ↓listF_eq, ↓listdF_eq, ↓sortedF_eq, ↓allF_eq, ↓sumF_eq, ↓extF_eq, ↓vEnumF_e, ↓enF_l, ↓fldF_obj, ↓fldF_ref, ↓wFldF_e, ↓wLcF_e, ↓pName_e, ↓pNil_e, ↓pCons_e, ↓pTup_e, ↓gK_some, ↓obind_e, ↓seqL_ilst, ↓addM_eq, ↓sq2_some, ↓wVar_0, ↓wVar_s, ↓hNil_e, ↓hCons_e, ↓wDget_e, ↓wDget2_e, ↓wDput_m, ↓wSortIt_e, ↓wMake_e, ↓wIfS_m, ↓wSeq_m, ↓wAsg_m, ↓hName_e, ↓wC_e, ↓wNil_e, ↓wCons_e, ↓wTup_e, ↓wLst_e, ↓wOp_e, ↓wUn_e, ↓wIf_e, ↓wAndV_e, ↓wOrV_e, ↓wNotV_e, ↓wB_e, ↓wAnd_e, ↓wOr_e, ↓zNot_e, ↓zTru_e, ↓hCons_e, ↓hTup_e, ↓hSub_e, ↓wNext_m, ↓wDrop_m, ↓wRet_m, ↓wRetN_m, ↓wPar_m, ↓wCB_e, ↓wCall_e, ↓wIxk_e, ↓wSl_e, ↓wNoPart_e, ↓wPart_e, ↓wBM_e, ↓wBM0_e, ↓wChain_e, ↓wNever_e, ↓vSeq_e, ↓vEnum_e, ↓vRng1_e, ↓vRng2_e, vZip, ↓blK_bl, ↓tupK_tup, ↓pairK_2, ↓inK_int, ↓truD_bl, ↓truD_int, ↓truD_non, ↓truD_tup, ↓isn_non, ↓isn_int, ↓isn_bl, ↓isn_str, ↓isn_tup, ↓isn_ref, ↓Z.add_int, ↓add_tup, ↓add_ref, ↓intD_eq, ↓intD0_eq, ↓Z.mul_int, ↓Z.eq_int, ↓Z.ne_int, ↓Z.eq_bl, ↓ne_bl, ↓Z.eq_str, ↓Z.ne_str, ↓eq_non, ↓eq_tup, ↓eq_ref, ↓Z.neg_int, ↓seq_tup, ↓seq_ilst, ↓Z.ix_tup, ↓ix_int, ↓sqK_some, ↓ixK_0, ↓ixK_s, ↓tyK_some, ↓ty_non, ↓ty_bl, ↓ty_int, ↓ty_str, ↓ty_tup, ↓ty_ilst, ↓isi_eq, ↓isi2_eq, isiW, ↓len_tup, ↓intc_int, ↓abs_int, ↓gcd_int, ↓list_seq, ↓tuple_seq, ↓all_ref, ↓sum_ref, ↓Z.sl_tup, ↓sl_ilst, ↓sl_ref, ↓walk_tup, ↓walk_ilst, ↓walk_ref, ↓en_ref, start', List.map_cons, List.map_nil, List.cons_append, List.nil_append, List.append_nil, List.length_cons, List.length_nil, List.replicate, List.set_cons_zero, List.set_cons_succ, List.set_nil, List.getElem?_cons_zero, List.getElem?_cons_succ, wipeD, Nat.zero_add, Nat.reduceAdd, Nat.reduceSub, Nat.sub_self, Nat.sub_zero, true_and, and_true, if_true, if_false, Bool.not_true, Bool.not_false, ite_true, ite_false, Bool.false_eq_true, decide_true, decide_false, decide_eq_true_eq, Int.cast_ofNat_Int, reduceIte, Bool.not_eq_true', decide_eq_false_iff_not, Bool.and_true, Bool.true_and, Bool.and_false, Bool.false_and, Bool.or_true, Bool.true_or, Bool.or_false, Bool.false_or, beq_self_eq_true, bne_self_eq_false, not_true_eq_false, not_false_eq_true, String.reduceBEq, String.reduceBNe, Int.reduceToNat, Bool.true_eq_false, reduceCtorEq, Int.reduceEq, Int.reduceLT, Int.reduceLE, gt_iff_lt, ge_iff_le, ↓wBreak_m, ↓wCont_m, ↓wPar3_m, trioK_3, ↓wFldS_m, ↓wFld_e, ↓wChain_e, ↓wLam_e, ↓wIsE_e, ↓wRaise0_e, ↓wCallX_e, ↓wCallKX_e, ↓wYes_e, ↓wCallK_e, isDct_eq, dkK_eq, ↓wDnewT_e])
local macro_rules | `(tactic| walk_at "go") => `(tactic| ((first | with_reducible refine hld_i ?_ | skip); try walk_at "st"))
local macro_rules | `(tactic| walk_at "sx") => `(tactic| ((try simp only [sp_is_integer, sp_lowest, sp_exact, sp_is_number, sp_is_corner, sp_is_index, sp_is_face, sp_Net_init, sp_scaled, sp_determinant, sp_steps, sp_edge_of, sp_surpluses, sp_open_edges, sp_is_closed, sp_volume, sp_law_draw, sp_law_of, sp_law_same, sp_law_low, sp_law_add, sp_law_sub, sp_law_mul, sp_law_hand, sp_law_number, sp_law_ring, sp_law_loft, sp_law_det, sp_law_volume, sp_law_bag, sp_as_number, sp_compare, sp_loft, sp_law_handed, sp_law_lt, sp_law_area, sp_law_spots, sp_law_heights, sp_law_right, sp_law_any]); try walk_at "st"))
local macro_rules | `(tactic| walk_at "s0") => `(tactic| simp (implicitDefEqProofs := false) only [start', List.map_cons, List.map_nil, List.length_cons, List.length_nil, Nat.zero_add, Nat.reduceAdd, Nat.reduceSub, List.replicate, List.cons_append, List.nil_append])
local macro_rules | `(tactic| walk_at "rr") => `(tactic| repeat (first | with_reducible refine hld_i ?_ | walk_at "st"))
local macro_rules | `(tactic| walk_at "rx") => `(tactic| repeat (first | with_reducible refine hld_i ?_ | walk_at "st" | simp only [sp_is_integer, sp_lowest, sp_exact, sp_is_number, sp_is_corner, sp_is_index, sp_is_face, sp_Net_init, sp_scaled, sp_determinant, sp_steps, sp_edge_of, sp_surpluses, sp_open_edges, sp_is_closed, sp_volume, sp_law_draw, sp_law_of, sp_law_same, sp_law_low, sp_law_add, sp_law_sub, sp_law_mul, sp_law_hand, sp_law_number, sp_law_ring, sp_law_loft, sp_law_det, sp_law_volume, sp_law_bag, sp_as_number, sp_compare, sp_loft, sp_law_handed, sp_law_lt, sp_law_area, sp_law_spots, sp_law_heights, sp_law_right, sp_law_any]))
local macro_rules | `(tactic| walk_at "dw") => `(tactic| (refine draw (by first | exact up_same | assumption) (by assumption) (by omega) (by omega) (by omega) ?_))

variable {K : PySem.W.Frag}
theorem rd_law : RD_law K := by
  intro ds L Q E h
  unfold sp_law at h
  split at h
  · rename_i d
    obtain ⟨ns, hd, hT, h⟩ := h
    unfold t_law
    walk_at "s0"
    walk_at "rr"
    refine ⟨ns, hd, fun b o nb hB => ?_⟩
    walk_at "rr"
    have nt : ∀ o : O, ∀ T, IsBag T o → ∀ q, o ≠ .tab q := fun o T hB q e => by
      obtain ⟨ns, i, r, m, t, e2, _⟩ := hB
      rw [e2] at e; cases e
    refine ⟨by decide, by decide, ?_⟩
    refine for_r (fun i τ' L' => (∃ o2, τ' = [some d, some (.ref b), o2]) ∧ ∃ o, IsBag (4000 * i) o ∧ L' = up L b o) ⟨⟨_, rfl⟩, o, hB, rfl⟩ (fun _ _ _ _ _ => trivial) ?_ ?_
    · rintro i τ' L' hi ⟨⟨o2, rfl⟩, o, hB, rfl⟩
      unfold t_law_1
      walk_at "rr"
      refine ⟨o, _, up_same, hB, by omega, hT.up (fun q e => by rw [nb] at e; cases e) (nt o _ hB), fun o3 hB3 => ?_⟩
      walk_at "rr"
      refine ⟨o3, _, up_same, hB3, by omega, fun o4 hB4 => ?_⟩
      walk_at "rr"
      exact .mk ⟨⟨_, rfl⟩, o4, hB4.le (by omega), rfl⟩
    · rintro τ' L' ⟨⟨o2, rfl⟩, o, hB, rfl⟩
      walk_at "rr"
      exact Dn.mk (h _)
  · exact h.elim
end Hd

namespace Hd
open PySem PySem.Spec PyProof.Rows L2 Z
theorem ex_gcd {K : PySem.W.Frag} {mg : Str → Option Value} (C : Hc K mg) : extB K "gcd" "math.gcd" = true := (He.ba (He.ba C.more).1).1
theorem ex_lcm {K : PySem.W.Frag} {mg : Str → Option Value} (C : Hc K mg) : extB K "lcm" "math.lcm" = true := (He.ba (He.ba C.more).1).2
theorem ec_BadLoft {K : PySem.W.Frag} {mg : Str → Option Value} (C : Hc K mg) : ExcC K (He.ga K "BadLoft") := excC_ok (He.ba (He.ba C.more).2).1
theorem kv_BadLoft {K : PySem.W.Frag} {mg : Str → Option Value} (C : Hc K mg) : PySem.W.kitOne K (.ref (He.ga K "BadLoft")) (.type "ValueError") = some true := of_decide_eq_true (He.ba (He.ba C.more).2).2
theorem sc_law_try : FnScope ["_law_ask", "e"] ["_law_ask"] (defScope s_law_try) := ⟨rfl, rfl, rfl, by decide +kernel, rfl, by decide +kernel, by decide +kernel⟩
theorem bd_law_try {K : PySem.W.Frag} {mg : Str → Option Value} (C : Hc K mg) : Binds K (fdAt K (("_law_try", none))) ["_law_ask"] [] := (f_law_try C).bindsN fun _ _ _ _ _ _ us hl => match us, hl with | [_], _ => rfl
theorem gv_law_try {X : Cx} (C : Hc X.K X.mg) (cdv : Value) (q : Str) : LamX.GivesTo X ["_law_ask", "e"] "_law_try" (defScope s_law_try) (He.fAd X.K (("_law_try", none))) cdv (defBody s_law_try) "_law_ask" q (TTh X.K (He.ga X.K "Refused") (ts_law_try X.K) (tr_law_try X.K)) :=
  told_as rfl (g_Refused C) (by decide) (by decide) rfl (fun A outer s H aa oe CC od pn hz hf => (qs_one (qs_if (tw (tw_and (t_tru (q_isE (v := .ref _) hz hf (pe_glob rfl (g_BadLoft C) rfl) (fun _ h => h) rfl (fr_isinstance C) (qv 1))) (tw_and1 (t_tru (q_isE (v := .ty "ValueError") hz hf (pe_bltn rfl (fr_ValueError C) (by decide +kernel) rfl) (fun _ h => h) rfl (fr_isinstance C) (qv 1)))))) (qs_one (qs_ret (q_tup (qa_cons (qcon (.str "BadLoft") pe_str fun _ => .str _) qa_nil)))) qs_nil))) (fun A outer s H => (qs_one (qs_ret (q_tup (qa_cons (qcon (.str "other") pe_str fun _ => .str _) qa_nil)))))
/-! scaled -/
theorem sc_scaled : FnScope ["rows", "scale", "row", "_", "under", "above"] ["rows"] (defScope s_scaled) := ⟨rfl, rfl, rfl, by decide +kernel, rfl, by decide +kernel, by decide +kernel⟩
theorem kp_scaled {K : PySem.W.Frag} {mg : Str → Option Value} (C : Hc K mg) : PySem.W.keepIn K (.ref (He.fAd K (("scaled", none)))) = true := (f_scaled C).kp
theorem bd_scaled {K : PySem.W.Frag} {mg : Str → Option Value} (C : Hc K mg) : Binds K (fdAt K (("scaled", none))) ["rows"] [] := (f_scaled C).bindsN fun _ _ _ _ _ _ us hl => match us, hl with | [_], _ => rfl
theorem dv_scaled {P : Program} {w : World} {K : PySem.W.Frag} {mg : Str → Option Value} {base : Heap} (C : Hc K mg) 
    (cdv : Value) (A : Around) (outer : List Env) (s : Shared) (H : Hp) (E : XK) (hr : Room 0 (A.deeper (envOfC "scaled" (defScope s_scaled) s.heap.objs.size (He.fAd K (("scaled", none))) cdv))) :
    QSs (cxOf CX0 P w K mg base ["rows", "scale", "row", "_", "under", "above"] "scaled" (defScope s_scaled) (He.fAd K (("scaled", none))) cdv A outer s H E) (defBody s_scaled) (t_scaled K) :=
  (qs_cons (qs_set (i := 1) sc_scaled.nd rfl (Or.inr rfl) (qcon (.int 1) pe_int fun _ => .int _))
    (qs_cons (qs_for hpN rfl (i_seq (qv 0)) (g_name (i := 2) sc_scaled.nd rfl (Or.inl rfl)) (qs_one (qs_for hpN rfl (i_seq (qv 2)) (g_tup rfl (g_cons (g_name (i := 3) sc_scaled.nd rfl (Or.inl rfl)) (g_cons (g_name (i := 4) sc_scaled.nd rfl (Or.inl rfl)) g_nil))) (qs_one (qs_set (i := 1) sc_scaled.nd rfl (Or.inr rfl) (q_lcm (e_lcm C (ex_lcm C)) (qa_cons (qv 1) (qa_cons (qv 4) qa_nil))))))))
    (qs_one (qs_ret (q_tup (qa_cons (q_lcF (own := [("row", 2)]) rfl sc_scaled.nd (i_seq (qv 0)) (blkOk_by (own := [("row", 2)]) (by kernel_rfl)) (fun _ _ _ _ _ => (gp_name (i := 2) sc_scaled.nd rfl (Or.inl rfl) (by decide))) (fun _ _ _ _ _ => ts_nil) (fun _ _ _ _ _ => (q_cty call_tuple_of l_tuple (by rfl) (fr_tuple C) (by decide +kernel) (qa_cons (q_lcF (own := [("above", 5), ("under", 4)]) rfl sc_scaled.nd (i_seq (qv 2)) (blkOk_by (own := [("above", 5), ("under", 4)]) (by kernel_rfl)) (fun _ _ _ _ _ => (gp_tup rfl (gp_cons (gp_name (i := 5) sc_scaled.nd rfl (Or.inl rfl) (by decide)) (gp_cons (gp_name (i := 4) sc_scaled.nd rfl (Or.inl rfl) (by decide)) gp_nil)))) (fun _ _ _ _ _ => ts_nil) (fun _ _ _ _ _ => (q_opF o_mulR l_mulF (qv 5) (q_op op_fdivW l_fdiv (qv 1) (qv 4))))) qa_nil)))) (qa_cons (qv 1) qa_nil)))))))
/-! determinant -/
theorem sc_determinant : FnScope ["first", "second", "third", "a", "b", "c", "d", "e", "f", "g", "h", "k"] ["first", "second", "third"] (defScope s_determinant) := ⟨rfl, rfl, rfl, by decide +kernel, rfl, by decide +kernel, by decide +kernel⟩
theorem kp_determinant {K : PySem.W.Frag} {mg : Str → Option Value} (C : Hc K mg) : PySem.W.keepIn K (.ref (He.fAd K (("determinant", none)))) = true := (f_determinant C).kp
theorem bd_determinant {K : PySem.W.Frag} {mg : Str → Option Value} (C : Hc K mg) : Binds K (fdAt K (("determinant", none))) ["first", "second", "third"] [] := (f_determinant C).bindsN fun _ _ _ _ _ _ us hl => match us, hl with | [_, _, _], _ => rfl
theorem dv_determinant {P : Program} {w : World} {K : PySem.W.Frag} {mg : Str → Option Value} {base : Heap} (C : Hc K mg) 
    (cdv : Value) (A : Around) (outer : List Env) (s : Shared) (H : Hp) (E : XK) (hr : Room 0 (A.deeper (envOfC "determinant" (defScope s_determinant) s.heap.objs.size (He.fAd K (("determinant", none))) cdv))) :
    QSs (cxOf CX0 P w K mg base ["first", "second", "third", "a", "b", "c", "d", "e", "f", "g", "h", "k"] "determinant" (defScope s_determinant) (He.fAd K (("determinant", none))) cdv A outer s H E) (defBody s_determinant) (t_determinant K) :=
  (qs_cons (qs_asg (qv 0) (g_tup rfl (g_cons (g_name (i := 3) sc_determinant.nd rfl (Or.inl rfl)) (g_cons (g_name (i := 4) sc_determinant.nd rfl (Or.inl rfl)) (g_cons (g_name (i := 5) sc_determinant.nd rfl (Or.inl rfl)) g_nil)))))
    (qs_cons (qs_asg (qv 1) (g_tup rfl (g_cons (g_name (i := 6) sc_determinant.nd rfl (Or.inl rfl)) (g_cons (g_name (i := 7) sc_determinant.nd rfl (Or.inl rfl)) (g_cons (g_name (i := 8) sc_determinant.nd rfl (Or.inl rfl)) g_nil)))))
    (qs_cons (qs_asg (qv 2) (g_tup rfl (g_cons (g_name (i := 9) sc_determinant.nd rfl (Or.inl rfl)) (g_cons (g_name (i := 10) sc_determinant.nd rfl (Or.inl rfl)) (g_cons (g_name (i := 11) sc_determinant.nd rfl (Or.inl rfl)) g_nil)))))
    (qs_one (qs_ret (q_opF o_addR l_addF (q_op op_sub l_sub (q_opF o_mulR l_mulF (qv 3) (q_op op_sub l_sub (q_opF o_mulR l_mulF (qv 7) (qv 11)) (q_opF o_mulR l_mulF (qv 8) (qv 10)))) (q_opF o_mulR l_mulF (qv 4) (q_op op_sub l_sub (q_opF o_mulR l_mulF (qv 6) (qv 11)) (q_opF o_mulR l_mulF (qv 8) (qv 9))))) (q_opF o_mulR l_mulF (qv 5) (q_op op_sub l_sub (q_opF o_mulR l_mulF (qv 6) (qv 10)) (q_opF o_mulR l_mulF (qv 7) (qv 9))))))))))
/-! steps -/
theorem sc_steps : FnScope ["face", "a", "b", "c", "p", "q"] ["face"] (defScope s_steps) := ⟨rfl, rfl, rfl, by decide +kernel, rfl, by decide +kernel, by decide +kernel⟩
theorem kp_steps {K : PySem.W.Frag} {mg : Str → Option Value} (C : Hc K mg) : PySem.W.keepIn K (.ref (He.fAd K (("steps", none)))) = true := (f_steps C).kp
theorem bd_steps {K : PySem.W.Frag} {mg : Str → Option Value} (C : Hc K mg) : Binds K (fdAt K (("steps", none))) ["face"] [] := (f_steps C).bindsN fun _ _ _ _ _ _ us hl => match us, hl with | [_], _ => rfl
theorem dv_steps {P : Program} {w : World} {K : PySem.W.Frag} {mg : Str → Option Value} {base : Heap} (C : Hc K mg) 
    (cdv : Value) (A : Around) (outer : List Env) (s : Shared) (H : Hp) (E : XK) (hr : Room 0 (A.deeper (envOfC "steps" (defScope s_steps) s.heap.objs.size (He.fAd K (("steps", none))) cdv))) :
    QSs (cxOf CX0 P w K mg base ["face", "a", "b", "c", "p", "q"] "steps" (defScope s_steps) (He.fAd K (("steps", none))) cdv A outer s H E) (defBody s_steps) (t_steps K) :=
  (qs_cons (qs_asg (qv 0) (g_tup rfl (g_cons (g_name (i := 1) sc_steps.nd rfl (Or.inl rfl)) (g_cons (g_name (i := 2) sc_steps.nd rfl (Or.inl rfl)) (g_cons (g_name (i := 3) sc_steps.nd rfl (Or.inl rfl)) g_nil)))))
    (qs_one (qs_ret (q_lcF (own := [("p", 4), ("q", 5)]) rfl sc_steps.nd (i_seq (q_tup (qa_cons (q_tup (qa_cons (qv 1) (qa_cons (qv 2) qa_nil))) (qa_cons (q_tup (qa_cons (qv 2) (qa_cons (qv 3) qa_nil))) (qa_cons (q_tup (qa_cons (qv 3) (qa_cons (qv 1) qa_nil))) qa_nil))))) (blkOk_by (own := [("p", 4), ("q", 5)]) (by kernel_rfl)) (fun _ _ _ _ _ => (gp_tup rfl (gp_cons (gp_name (i := 4) sc_steps.nd rfl (Or.inl rfl) (by decide)) (gp_cons (gp_name (i := 5) sc_steps.nd rfl (Or.inl rfl) (by decide)) gp_nil)))) (fun _ _ _ _ _ => (ts_one (t_cmp (o_ne (hu64 hr)) l_ne (qv 4) (qv 5) (nomark _)))) (fun _ _ _ _ _ => (q_tup (qa_cons (qv 4) (qa_cons (qv 5) qa_nil))))))))
/-! edge_of -/
theorem sc_edge_of : FnScope ["p", "q"] ["p", "q"] (defScope s_edge_of) := ⟨rfl, rfl, rfl, by decide +kernel, rfl, by decide +kernel, by decide +kernel⟩
theorem kp_edge_of {K : PySem.W.Frag} {mg : Str → Option Value} (C : Hc K mg) : PySem.W.keepIn K (.ref (He.fAd K (("edge_of", none)))) = true := (f_edge_of C).kp
theorem bd_edge_of {K : PySem.W.Frag} {mg : Str → Option Value} (C : Hc K mg) : Binds K (fdAt K (("edge_of", none))) ["p", "q"] [] := (f_edge_of C).bindsN fun _ _ _ _ _ _ us hl => match us, hl with | [_, _], _ => rfl
theorem dv_edge_of {P : Program} {w : World} {K : PySem.W.Frag} {mg : Str → Option Value} {base : Heap} (C : Hc K mg) 
    (cdv : Value) (A : Around) (outer : List Env) (s : Shared) (H : Hp) (E : XK) (hr : Room 0 (A.deeper (envOfC "edge_of" (defScope s_edge_of) s.heap.objs.size (He.fAd K (("edge_of", none))) cdv))) :
    QSs (cxOf CX0 P w K mg base ["p", "q"] "edge_of" (defScope s_edge_of) (He.fAd K (("edge_of", none))) cdv A outer s H E) (defBody s_edge_of) (t_edge_of K) :=
  (qs_one (qs_ret (q_if (t_cmp op_lt l_lt (qv 0) (qv 1) (nomark _)) (q_tup (qa_cons (qv 0) (qa_cons (qv 1) qa_nil))) (q_tup (qa_cons (qv 1) (qa_cons (qv 0) qa_nil))))))
/-! surpluses -/
theorem sc_surpluses : FnScope ["faces", "found", "face", "p", "q", "edge"] ["faces"] (defScope s_surpluses) := ⟨rfl, rfl, rfl, by decide +kernel, rfl, by decide +kernel, by decide +kernel⟩
theorem kp_surpluses {K : PySem.W.Frag} {mg : Str → Option Value} (C : Hc K mg) : PySem.W.keepIn K (.ref (He.fAd K (("surpluses", none)))) = true := (f_surpluses C).kp
theorem bd_surpluses {K : PySem.W.Frag} {mg : Str → Option Value} (C : Hc K mg) : Binds K (fdAt K (("surpluses", none))) ["faces"] [] := (f_surpluses C).bindsN fun _ _ _ _ _ _ us hl => match us, hl with | [_], _ => rfl
theorem dv_surpluses {P : Program} {w : World} {K : PySem.W.Frag} {mg : Str → Option Value} {base : Heap} (C : Hc K mg) (G_steps : FnOk P w K mg base CX0 1 (He.fAd K (("steps", none))) (fdAt K (("steps", none))) ["face"] (lSp K sp_steps)) (G_edge_of : FnOk P w K mg base CX0 1 (He.fAd K (("edge_of", none))) (fdAt K (("edge_of", none))) ["p", "q"] (lSp K sp_edge_of))
    (cdv : Value) (A : Around) (outer : List Env) (s : Shared) (H : Hp) (E : XK) (hr : Room 1 (A.deeper (envOfC "surpluses" (defScope s_surpluses) s.heap.objs.size (He.fAd K (("surpluses", none))) cdv))) :
    QSs (cxOf CX0 P w K mg base ["faces", "found", "face", "p", "q", "edge"] "surpluses" (defScope s_surpluses) (He.fAd K (("surpluses", none))) cdv A outer s H E) (defBody s_surpluses) (t_surpluses K) :=
  (qs_cons (qs_set (i := 1) sc_surpluses.nd rfl (Or.inl rfl) q_dnewT)
    (qs_cons (qs_for hpN rfl (i_seq (qv 0)) (g_name (i := 2) sc_surpluses.nd rfl (Or.inl rfl)) (qs_one (qs_for hpN rfl (i_seq (q_call G_steps (hr.mono (by decide)) rfl (g_steps C) (kp_steps C) (bd_steps C) (qa_cons (qv 2) qa_nil))) (g_tup rfl (g_cons (g_name (i := 3) sc_surpluses.nd rfl (Or.inl rfl)) (g_cons (g_name (i := 4) sc_surpluses.nd rfl (Or.inl rfl)) g_nil))) (qs_cons (qs_set (i := 5) sc_surpluses.nd rfl (Or.inl rfl) (q_call G_edge_of (hr.mono (by decide)) rfl (g_edge_of C) (kp_edge_of C) (bd_edge_of C) (qa_cons (qv 3) (qa_cons (qv 4) qa_nil))))
    (qs_one (qs_dput (hu1 hr) (qv 1) (qv 5) (q_opF o_addR l_addF (q_dget2 (hu1 hr) (qv 1) (qv 5) (qcon (.int 0) pe_int fun _ => .int _) ⟨by rfl, by rfl, by rfl, by rfl⟩) (q_if (t_cmp op_lt l_lt (qv 3) (qv 4) (nomark _)) (qcon (.int 1) pe_int fun _ => .int _) (q_un un_neg l_neg (qcon (.int 1) pe_int fun _ => .int _))))))))))
    (qs_one (qs_ret (qv 1)))))
/-! is_integer -/
theorem sc_is_integer : FnScope ["value"] ["value"] (defScope s_is_integer) := ⟨rfl, rfl, rfl, by decide +kernel, rfl, by decide +kernel, by decide +kernel⟩
theorem kp_is_integer {K : PySem.W.Frag} {mg : Str → Option Value} (C : Hc K mg) : PySem.W.keepIn K (.ref (He.fAd K (("is_integer", none)))) = true := (f_is_integer C).kp
theorem bd_is_integer {K : PySem.W.Frag} {mg : Str → Option Value} (C : Hc K mg) : Binds K (fdAt K (("is_integer", none))) ["value"] [] := (f_is_integer C).bindsN fun _ _ _ _ _ _ us hl => match us, hl with | [_], _ => rfl
theorem dv_is_integer {P : Program} {w : World} {K : PySem.W.Frag} {mg : Str → Option Value} {base : Heap} (C : Hc K mg) 
    (cdv : Value) (A : Around) (outer : List Env) (s : Shared) (H : Hp) (E : XK) (hr : Room 0 (A.deeper (envOfC "is_integer" (defScope s_is_integer) s.heap.objs.size (He.fAd K (("is_integer", none))) cdv))) :
    QSs (cxOf CX0 P w K mg base ["value"] "is_integer" (defScope s_is_integer) (He.fAd K (("is_integer", none))) cdv A outer s H E) (defBody s_is_integer) (t_is_integer K) :=
  (qs_one (qs_ret (q_and (q_cb call_isi (l_isi "int" (by decide)) (by rfl) (fr_isinstance C) (by decide +kernel) (qa_cons (qv 0) (qa_cons (q_ty rfl (fr_int C) (by decide +kernel)) qa_nil))) (q_one (q_not (q_cb call_isi (l_isi "bool" (by decide)) (by rfl) (fr_isinstance C) (by decide +kernel) (qa_cons (qv 0) (qa_cons (q_ty rfl (fr_bool C) (by decide +kernel)) qa_nil))))))))
/-! as_number -/
theorem sc_as_number : FnScope ["value"] ["value"] (defScope s_as_number) := ⟨rfl, rfl, rfl, by decide +kernel, rfl, by decide +kernel, by decide +kernel⟩
theorem kp_as_number {K : PySem.W.Frag} {mg : Str → Option Value} (C : Hc K mg) : PySem.W.keepIn K (.ref (He.fAd K (("as_number", none)))) = true := (f_as_number C).kp
theorem bd_as_number {K : PySem.W.Frag} {mg : Str → Option Value} (C : Hc K mg) : Binds K (fdAt K (("as_number", none))) ["value"] [] := (f_as_number C).bindsN fun _ _ _ _ _ _ us hl => match us, hl with | [_], _ => rfl
theorem dv_as_number {P : Program} {w : World} {K : PySem.W.Frag} {mg : Str → Option Value} {base : Heap} (C : Hc K mg) 
    (cdv : Value) (A : Around) (outer : List Env) (s : Shared) (H : Hp) (E : XK) (hr : Room 0 (A.deeper (envOfC "as_number" (defScope s_as_number) s.heap.objs.size (He.fAd K (("as_number", none))) cdv))) :
    QSs (cxOf CX0 P w K mg base ["value"] "as_number" (defScope s_as_number) (He.fAd K (("as_number", none))) cdv A outer s H E) (defBody s_as_number) (t_as_number K) :=
  (qs_cons (qs_if (t_tru (q_cb call_isi (l_isi "int" (by decide)) (by rfl) (fr_isinstance C) (by decide +kernel) (qa_cons (qv 0) (qa_cons (q_ty rfl (fr_int C) (by decide +kernel)) qa_nil)))) (qs_one (qs_ret (q_tup (qa_cons (qv 0) (qa_cons (qcon (.int 1) pe_int fun _ => .int _) qa_nil))))) qs_nil)
    (qs_one (qs_ret (qv 0))))
/-! lowest -/
theorem sc_lowest : FnScope ["n", "d", "shared"] ["n", "d"] (defScope s_lowest) := ⟨rfl, rfl, rfl, by decide +kernel, rfl, by decide +kernel, by decide +kernel⟩
theorem kp_lowest {K : PySem.W.Frag} {mg : Str → Option Value} (C : Hc K mg) : PySem.W.keepIn K (.ref (He.fAd K (("lowest", none)))) = true := (f_lowest C).kp
theorem bd_lowest {K : PySem.W.Frag} {mg : Str → Option Value} (C : Hc K mg) : Binds K (fdAt K (("lowest", none))) ["n", "d"] [] := (f_lowest C).bindsN fun _ _ _ _ _ _ us hl => match us, hl with | [_, _], _ => rfl
theorem dv_lowest {P : Program} {w : World} {K : PySem.W.Frag} {mg : Str → Option Value} {base : Heap} (C : Hc K mg) 
    (cdv : Value) (A : Around) (outer : List Env) (s : Shared) (H : Hp) (E : XK) (hr : Room 0 (A.deeper (envOfC "lowest" (defScope s_lowest) s.heap.objs.size (He.fAd K (("lowest", none))) cdv))) :
    QSs (cxOf CX0 P w K mg base ["n", "d", "shared"] "lowest" (defScope s_lowest) (He.fAd K (("lowest", none))) cdv A outer s H E) (defBody s_lowest) (t_lowest K) :=
  (qs_cons (qs_set (i := 2) sc_lowest.nd rfl (Or.inl rfl) (q_gcd (e_gcd C (ex_gcd C)) (qa_cons (qv 0) (qa_cons (qv 1) qa_nil))))
    (qs_cons (qs_if (t_cmp op_lt l_lt (qv 1) (qcon (.int 0) pe_int fun _ => .int _) (nomark _)) (qs_one (qs_set (i := 2) sc_lowest.nd rfl (Or.inl rfl) (q_un un_neg l_neg (qv 2)))) qs_nil)
    (qs_one (qs_ret (q_tup (qa_cons (q_op op_fdivW l_fdiv (qv 0) (qv 2)) (qa_cons (q_op op_fdivW l_fdiv (qv 1) (qv 2)) qa_nil)))))))
/-! exact -/
theorem sc_exact : FnScope ["value", "n", "d", "found"] ["value"] (defScope s_exact) := ⟨rfl, rfl, rfl, by decide +kernel, rfl, by decide +kernel, by decide +kernel⟩
theorem kp_exact {K : PySem.W.Frag} {mg : Str → Option Value} (C : Hc K mg) : PySem.W.keepIn K (.ref (He.fAd K (("exact", none)))) = true := (f_exact C).kp
theorem bd_exact {K : PySem.W.Frag} {mg : Str → Option Value} (C : Hc K mg) : Binds K (fdAt K (("exact", none))) ["value"] [] := (f_exact C).bindsN fun _ _ _ _ _ _ us hl => match us, hl with | [_], _ => rfl
theorem dv_exact {P : Program} {w : World} {K : PySem.W.Frag} {mg : Str → Option Value} {base : Heap} (C : Hc K mg) (G_is_integer : FnOk P w K mg base CX0 1 (He.fAd K (("is_integer", none))) (fdAt K (("is_integer", none))) ["value"] (lSp K sp_is_integer)) (G_lowest : FnOk P w K mg base CX0 1 (He.fAd K (("lowest", none))) (fdAt K (("lowest", none))) ["n", "d"] (lSp K sp_lowest))
    (cdv : Value) (A : Around) (outer : List Env) (s : Shared) (H : Hp) (E : XK) (hr : Room 2 (A.deeper (envOfC "exact" (defScope s_exact) s.heap.objs.size (He.fAd K (("exact", none))) cdv))) :
    QSs (cxOf CX0 P w K mg base ["value", "n", "d", "found"] "exact" (defScope s_exact) (He.fAd K (("exact", none))) cdv A outer s H E) (defBody s_exact) (t_exact K) :=
  (qs_cons (qs_if (t_tru (q_call G_is_integer (hr.mono (by decide)) rfl (g_is_integer C) (kp_is_integer C) (bd_is_integer C) (qa_cons (qv 0) qa_nil))) (qs_one (qs_ret (q_tup (qa_cons (qv 0) (qa_cons (qcon (.int 1) pe_int fun _ => .int _) qa_nil))))) qs_nil)
    (qs_cons (qs_if (tw (tw_and (t_tru (q_cb call_isi (l_isi "tuple" (by decide)) (by rfl) (fr_isinstance C) (by decide +kernel) (qa_cons (qv 0) (qa_cons (q_ty rfl (fr_tuple C) (by decide +kernel)) qa_nil)))) (tw_and1 (t_cmp (o_eq (hu64 hr)) l_eq (q_cb call_len l_len (by rfl) (fr_len C) PySem.boot_len (qa_cons (qv 0) qa_nil)) (qcon (.int 2) pe_int fun _ => .int _) (nomark _))))) (qs_cons (qs_asg (qv 0) (g_tup rfl (g_cons (g_name (i := 1) sc_exact.nd rfl (Or.inl rfl)) (g_cons (g_name (i := 2) sc_exact.nd rfl (Or.inl rfl)) g_nil))))
    (qs_one (qs_if (tw (tw_and (t_tru (q_call G_is_integer (hr.mono (by decide)) rfl (g_is_integer C) (kp_is_integer C) (bd_is_integer C) (qa_cons (qv 1) qa_nil))) (tw_and (t_tru (q_call G_is_integer (hr.mono (by decide)) rfl (g_is_integer C) (kp_is_integer C) (bd_is_integer C) (qa_cons (qv 2) qa_nil))) (tw_and1 (t_cmp (o_ne (hu64 hr)) l_ne (qv 2) (qcon (.int 0) pe_int fun _ => .int _) (nomark _)))))) (qs_one (qs_ret (q_call G_lowest (hr.mono (by decide)) rfl (g_lowest C) (kp_lowest C) (bd_lowest C) (qa_cons (qv 1) (qa_cons (qv 2) qa_nil))))) qs_nil))) qs_nil)
    (qs_cons (qs_if (t_tru (q_cb call_isi (l_isi "str" (by decide)) (by rfl) (fr_isinstance C) (by decide +kernel) (qa_cons (qv 0) (qa_cons (q_ty rfl (fr_str C) (by decide +kernel)) qa_nil)))) (qs_cons qs_never
    (qs_one (qs_if (t_cmp op_notN l_notN (qv 3) (qcon .non pe_non fun _ => .non) (nomark _)) (qs_one (qs_ret (qv 3))) qs_nil))) qs_nil)
    (qs_one qs_never))))
/-! is_number -/
theorem sc_is_number : FnScope ["value", "n", "d"] ["value"] (defScope s_is_number) := ⟨rfl, rfl, rfl, by decide +kernel, rfl, by decide +kernel, by decide +kernel⟩
theorem kp_is_number {K : PySem.W.Frag} {mg : Str → Option Value} (C : Hc K mg) : PySem.W.keepIn K (.ref (He.fAd K (("is_number", none)))) = true := (f_is_number C).kp
theorem bd_is_number {K : PySem.W.Frag} {mg : Str → Option Value} (C : Hc K mg) : Binds K (fdAt K (("is_number", none))) ["value"] [] := (f_is_number C).bindsN fun _ _ _ _ _ _ us hl => match us, hl with | [_], _ => rfl
theorem dv_is_number {P : Program} {w : World} {K : PySem.W.Frag} {mg : Str → Option Value} {base : Heap} (C : Hc K mg) (G_is_integer : FnOk P w K mg base CX0 1 (He.fAd K (("is_integer", none))) (fdAt K (("is_integer", none))) ["value"] (lSp K sp_is_integer))
    (cdv : Value) (A : Around) (outer : List Env) (s : Shared) (H : Hp) (E : XK) (hr : Room 1 (A.deeper (envOfC "is_number" (defScope s_is_number) s.heap.objs.size (He.fAd K (("is_number", none))) cdv))) :
    QSs (cxOf CX0 P w K mg base ["value", "n", "d"] "is_number" (defScope s_is_number) (He.fAd K (("is_number", none))) cdv A outer s H E) (defBody s_is_number) (t_is_number K) :=
  (qs_cons (qs_if (t_tru (q_call G_is_integer (hr.mono (by decide)) rfl (g_is_integer C) (kp_is_integer C) (bd_is_integer C) (qa_cons (qv 0) qa_nil))) (qs_one (qs_ret (qcon (.bl true) pe_bl fun _ => .bl _))) qs_nil)
    (qs_cons (qs_if (tw (tw_or (t_not (t_tru (q_cb call_isi (l_isi "tuple" (by decide)) (by rfl) (fr_isinstance C) (by decide +kernel) (qa_cons (qv 0) (qa_cons (q_ty rfl (fr_tuple C) (by decide +kernel)) qa_nil))))) (tw_or1 (t_cmp (o_ne (hu64 hr)) l_ne (q_cb call_len l_len (by rfl) (fr_len C) PySem.boot_len (qa_cons (qv 0) qa_nil)) (qcon (.int 2) pe_int fun _ => .int _) (nomark _))))) (qs_one (qs_ret (qcon (.bl false) pe_bl fun _ => .bl _))) qs_nil)
    (qs_cons (qs_asg (qv 0) (g_tup rfl (g_cons (g_name (i := 1) sc_is_number.nd rfl (Or.inl rfl)) (g_cons (g_name (i := 2) sc_is_number.nd rfl (Or.inl rfl)) g_nil))))
    (qs_cons (qs_if (tw (tw_or (t_not (t_tru (q_call G_is_integer (hr.mono (by decide)) rfl (g_is_integer C) (kp_is_integer C) (bd_is_integer C) (qa_cons (qv 1) qa_nil)))) (tw_or1 (t_not (t_tru (q_call G_is_integer (hr.mono (by decide)) rfl (g_is_integer C) (kp_is_integer C) (bd_is_integer C) (qa_cons (qv 2) qa_nil))))))) (qs_one (qs_ret (qcon (.bl false) pe_bl fun _ => .bl _))) qs_nil)
    (qs_one (qs_ret (q_and (q_cmp op_gt l_gt (qv 2) (qcon (.int 0) pe_int fun _ => .int _) (nomark _)) (q_one (q_cmp (o_eq (hu64 hr)) l_eq (q_gcd (e_gcd C (ex_gcd C)) (qa_cons (qv 1) (qa_cons (qv 2) qa_nil))) (qcon (.int 1) pe_int fun _ => .int _) (nomark _))))))))))
/-! compare -/
theorem sc_compare : FnScope ["a", "b", "left", "right"] ["a", "b"] (defScope s_compare) := ⟨rfl, rfl, rfl, by decide +kernel, rfl, by decide +kernel, by decide +kernel⟩
theorem kp_compare {K : PySem.W.Frag} {mg : Str → Option Value} (C : Hc K mg) : PySem.W.keepIn K (.ref (He.fAd K (("compare", none)))) = true := (f_compare C).kp
theorem bd_compare {K : PySem.W.Frag} {mg : Str → Option Value} (C : Hc K mg) : Binds K (fdAt K (("compare", none))) ["a", "b"] [] := (f_compare C).bindsN fun _ _ _ _ _ _ us hl => match us, hl with | [_, _], _ => rfl
theorem dv_compare {P : Program} {w : World} {K : PySem.W.Frag} {mg : Str → Option Value} {base : Heap} (C : Hc K mg) (G_as_number : FnOk P w K mg base CX0 1 (He.fAd K (("as_number", none))) (fdAt K (("as_number", none))) ["value"] (lSp K sp_as_number))
    (cdv : Value) (A : Around) (outer : List Env) (s : Shared) (H : Hp) (E : XK) (hr : Room 1 (A.deeper (envOfC "compare" (defScope s_compare) s.heap.objs.size (He.fAd K (("compare", none))) cdv))) :
    QSs (cxOf CX0 P w K mg base ["a", "b", "left", "right"] "compare" (defScope s_compare) (He.fAd K (("compare", none))) cdv A outer s H E) (defBody s_compare) (t_compare K) :=
  (qs_cons (qs_par (i := 0) (j := 1) rfl sc_compare.nd rfl rfl (by decide) rfl rfl (qa_cons (q_call G_as_number (hr.mono (by decide)) rfl (g_as_number C) (kp_as_number C) (bd_as_number C) (qa_cons (qv 0) qa_nil)) (qa_cons (q_call G_as_number (hr.mono (by decide)) rfl (g_as_number C) (kp_as_number C) (bd_as_number C) (qa_cons (qv 1) qa_nil)) qa_nil)) (by rfl))
    (qs_cons (qs_par (i := 2) (j := 3) rfl sc_compare.nd rfl rfl (by decide) rfl rfl (qa_cons (q_opF o_mulR l_mulF (q_ixk 0 (qv 0) pe_int) (q_ixk 1 (qv 1) pe_int)) (qa_cons (q_opF o_mulR l_mulF (q_ixk 0 (qv 1) pe_int) (q_ixk 1 (qv 0) pe_int)) qa_nil)) (by rfl))
    (qs_cons (qs_if (t_cmp op_lt l_lt (qv 2) (qv 3) (nomark _)) (qs_one (qs_ret (q_un un_neg l_neg (qcon (.int 1) pe_int fun _ => .int _)))) qs_nil)
    (qs_cons (qs_if (t_cmp op_gt l_gt (qv 2) (qv 3) (nomark _)) (qs_one (qs_ret (qcon (.int 1) pe_int fun _ => .int _))) qs_nil)
    (qs_one (qs_ret (qcon (.int 0) pe_int fun _ => .int _)))))))
/-! _is_corner -/
theorem sc_is_corner : FnScope ["value", "one"] ["value"] (defScope s_is_corner) := ⟨rfl, rfl, rfl, by decide +kernel, rfl, by decide +kernel, by decide +kernel⟩
theorem kp_is_corner {K : PySem.W.Frag} {mg : Str → Option Value} (C : Hc K mg) : PySem.W.keepIn K (.ref (He.fAd K (("_is_corner", none)))) = true := (f_is_corner C).kp
theorem bd_is_corner {K : PySem.W.Frag} {mg : Str → Option Value} (C : Hc K mg) : Binds K (fdAt K (("_is_corner", none))) ["value"] [] := (f_is_corner C).bindsN fun _ _ _ _ _ _ us hl => match us, hl with | [_], _ => rfl
theorem dv_is_corner {P : Program} {w : World} {K : PySem.W.Frag} {mg : Str → Option Value} {base : Heap} (C : Hc K mg) (G_is_number : FnOk P w K mg base CX0 2 (He.fAd K (("is_number", none))) (fdAt K (("is_number", none))) ["value"] (lSp K sp_is_number))
    (cdv : Value) (A : Around) (outer : List Env) (s : Shared) (H : Hp) (E : XK) (hr : Room 2 (A.deeper (envOfC "_is_corner" (defScope s_is_corner) s.heap.objs.size (He.fAd K (("_is_corner", none))) cdv))) :
    QSs (cxOf CX0 P w K mg base ["value", "one"] "_is_corner" (defScope s_is_corner) (He.fAd K (("_is_corner", none))) cdv A outer s H E) (defBody s_is_corner) (t_is_corner K) :=
  (qs_one (qs_ret (q_and (q_cb call_isi (l_isi "tuple" (by decide)) (by rfl) (fr_isinstance C) (by decide +kernel) (qa_cons (qv 0) (qa_cons (q_ty rfl (fr_tuple C) (by decide +kernel)) qa_nil))) (q_and (q_cmp (o_eq (hu64 hr)) l_eq (q_cb call_len l_len (by rfl) (fr_len C) PySem.boot_len (qa_cons (qv 0) qa_nil)) (qcon (.int 3) pe_int fun _ => .int _) (nomark _)) (q_one (q_cb (cr_all rfl) l_allF (by rfl) (fr_all C) (by decide +kernel) (qa_cons (q_lcF (own := [("one", 1)]) rfl sc_is_corner.nd (i_seq (qv 0)) (blkOk_by (own := [("one", 1)]) (by kernel_rfl)) (fun _ _ _ _ _ => (gp_name (i := 1) sc_is_corner.nd rfl (Or.inl rfl) (by decide))) (fun _ _ _ _ _ => ts_nil) (fun _ _ _ _ _ => (q_call G_is_number (hr.mono (by decide)) rfl (g_is_number C) (kp_is_number C) (bd_is_number C) (qa_cons (qv 1) qa_nil)))) qa_nil)))))))
/-! _is_index -/
theorem sc_is_index : FnScope ["value", "many"] ["value", "many"] (defScope s_is_index) := ⟨rfl, rfl, rfl, by decide +kernel, rfl, by decide +kernel, by decide +kernel⟩
theorem kp_is_index {K : PySem.W.Frag} {mg : Str → Option Value} (C : Hc K mg) : PySem.W.keepIn K (.ref (He.fAd K (("_is_index", none)))) = true := (f_is_index C).kp
theorem bd_is_index {K : PySem.W.Frag} {mg : Str → Option Value} (C : Hc K mg) : Binds K (fdAt K (("_is_index", none))) ["value", "many"] [] := (f_is_index C).bindsN fun _ _ _ _ _ _ us hl => match us, hl with | [_, _], _ => rfl
theorem dv_is_index {P : Program} {w : World} {K : PySem.W.Frag} {mg : Str → Option Value} {base : Heap} (C : Hc K mg) 
    (cdv : Value) (A : Around) (outer : List Env) (s : Shared) (H : Hp) (E : XK) (hr : Room 0 (A.deeper (envOfC "_is_index" (defScope s_is_index) s.heap.objs.size (He.fAd K (("_is_index", none))) cdv))) :
    QSs (cxOf CX0 P w K mg base ["value", "many"] "_is_index" (defScope s_is_index) (He.fAd K (("_is_index", none))) cdv A outer s H E) (defBody s_is_index) (t_is_index K) :=
  (qs_one (qs_ret (q_and (q_cb call_isi (l_isi "int" (by decide)) (by rfl) (fr_isinstance C) (by decide +kernel) (qa_cons (qv 0) (qa_cons (q_ty rfl (fr_int C) (by decide +kernel)) qa_nil))) (q_and (q_not (q_cb call_isi (l_isi "bool" (by decide)) (by rfl) (fr_isinstance C) (by decide +kernel) (qa_cons (qv 0) (qa_cons (q_ty rfl (fr_bool C) (by decide +kernel)) qa_nil)))) (q_one (q_chain op_le op_lt l_le l_lt (qcon (.int 0) pe_int fun _ => .int _) (qv 0) (qv 1)))))))
/-! _is_face -/
theorem sc_is_face : FnScope ["value", "many", "one"] ["value", "many"] (defScope s_is_face) := ⟨rfl, rfl, rfl, by decide +kernel, rfl, by decide +kernel, by decide +kernel⟩
theorem kp_is_face {K : PySem.W.Frag} {mg : Str → Option Value} (C : Hc K mg) : PySem.W.keepIn K (.ref (He.fAd K (("_is_face", none)))) = true := (f_is_face C).kp
theorem bd_is_face {K : PySem.W.Frag} {mg : Str → Option Value} (C : Hc K mg) : Binds K (fdAt K (("_is_face", none))) ["value", "many"] [] := (f_is_face C).bindsN fun _ _ _ _ _ _ us hl => match us, hl with | [_, _], _ => rfl
theorem dv_is_face {P : Program} {w : World} {K : PySem.W.Frag} {mg : Str → Option Value} {base : Heap} (C : Hc K mg) (G_is_index : FnOk P w K mg base CX0 1 (He.fAd K (("_is_index", none))) (fdAt K (("_is_index", none))) ["value", "many"] (lSp K sp_is_index))
    (cdv : Value) (A : Around) (outer : List Env) (s : Shared) (H : Hp) (E : XK) (hr : Room 1 (A.deeper (envOfC "_is_face" (defScope s_is_face) s.heap.objs.size (He.fAd K (("_is_face", none))) cdv))) :
    QSs (cxOf CX0 P w K mg base ["value", "many", "one"] "_is_face" (defScope s_is_face) (He.fAd K (("_is_face", none))) cdv A outer s H E) (defBody s_is_face) (t_is_face K) :=
  (qs_one (qs_ret (q_and (q_cb call_isi (l_isi "tuple" (by decide)) (by rfl) (fr_isinstance C) (by decide +kernel) (qa_cons (qv 0) (qa_cons (q_ty rfl (fr_tuple C) (by decide +kernel)) qa_nil))) (q_and (q_cmp (o_eq (hu64 hr)) l_eq (q_cb call_len l_len (by rfl) (fr_len C) PySem.boot_len (qa_cons (qv 0) qa_nil)) (qcon (.int 3) pe_int fun _ => .int _) (nomark _)) (q_one (q_cb (cr_all rfl) l_allF (by rfl) (fr_all C) (by decide +kernel) (qa_cons (q_lcF (own := [("one", 2)]) rfl sc_is_face.nd (i_seq (qv 0)) (blkOk_by (own := [("one", 2)]) (by kernel_rfl)) (fun _ _ _ _ _ => (gp_name (i := 2) sc_is_face.nd rfl (Or.inl rfl) (by decide))) (fun _ _ _ _ _ => ts_nil) (fun _ _ _ _ _ => (q_call G_is_index (hr.mono (by decide)) rfl (g_is_index C) (kp_is_index C) (bd_is_index C) (qa_cons (qv 2) (qa_cons (qv 1) qa_nil))))) qa_nil)))))))
/-! Net.__init__ -/
theorem sc_Net_init : FnScope ["self", "corners", "faces", "at", "corner", "face", "one"] ["self", "corners", "faces"] (defScope s_Net_init) := ⟨rfl, rfl, rfl, by decide +kernel, rfl, by decide +kernel, by decide +kernel⟩
theorem kp_Net_init {K : PySem.W.Frag} {mg : Str → Option Value} (C : Hc K mg) : PySem.W.keepIn K (.ref (He.fAd K (("Net", some "__init__")))) = true := (f_Net_init C).kp
theorem bd_Net_init {K : PySem.W.Frag} {mg : Str → Option Value} (C : Hc K mg) : Binds K (fdAt K (("Net", some "__init__"))) ["self", "corners", "faces"] [] := (f_Net_init C).bindsN fun _ _ _ _ _ _ us hl => match us, hl with | [_, _, _], _ => rfl
theorem dv_Net_init {P : Program} {w : World} {K : PySem.W.Frag} {mg : Str → Option Value} {base : Heap} (C : Hc K mg) (G_is_corner : FnOk P w K mg base CX0 3 (He.fAd K (("_is_corner", none))) (fdAt K (("_is_corner", none))) ["value"] (lSp K sp_is_corner)) (G_is_face : FnOk P w K mg base CX0 2 (He.fAd K (("_is_face", none))) (fdAt K (("_is_face", none))) ["value", "many"] (lSp K sp_is_face)) (G_exact : FnOk P w K mg base CX0 3 (He.fAd K (("exact", none))) (fdAt K (("exact", none))) ["value"] (lSp K sp_exact))
    (cdv : Value) (A : Around) (outer : List Env) (s : Shared) (H : Hp) (E : XK) (hr : Room 3 (A.deeper (envOfC "Net.__init__" (defScope s_Net_init) s.heap.objs.size (He.fAd K (("Net", some "__init__"))) cdv))) :
    QSs (cxOf CX0 P w K mg base ["self", "corners", "faces", "at", "corner", "face", "one"] "Net.__init__" (defScope s_Net_init) (He.fAd K (("Net", some "__init__"))) cdv A outer s H E) (defBody s_Net_init) (t_Net_init K) :=
  (qs_cons (qs_for hpN rfl (i_enumF (qv 1) (by rfl) (fr_enumerate C)) (g_tup rfl (g_cons (g_name (i := 3) sc_Net_init.nd rfl (Or.inl rfl)) (g_cons (g_name (i := 4) sc_Net_init.nd rfl (Or.inl rfl)) g_nil))) (qs_one (qs_if (t_not (t_tru (q_call G_is_corner (hr.mono (by decide)) rfl (g_is_corner C) (kp_is_corner C) (bd_is_corner C) (qa_cons (qv 4) qa_nil)))) (qs_one qs_never) qs_nil)))
    (qs_cons (qs_for hpN rfl (i_enumF (qv 2) (by rfl) (fr_enumerate C)) (g_tup rfl (g_cons (g_name (i := 3) sc_Net_init.nd rfl (Or.inl rfl)) (g_cons (g_name (i := 5) sc_Net_init.nd rfl (Or.inl rfl)) g_nil))) (qs_one (qs_if (t_not (t_tru (q_call G_is_face (hr.mono (by decide)) rfl (g_is_face C) (kp_is_face C) (bd_is_face C) (qa_cons (qv 5) (qa_cons (q_cb call_len l_len (by rfl) (fr_len C) PySem.boot_len (qa_cons (qv 1) qa_nil)) qa_nil))))) (qs_one qs_never) qs_nil)))
    (qs_cons (qs_fld (qv 0) (q_cty call_tuple_of l_tuple (by rfl) (fr_tuple C) (by decide +kernel) (qa_cons (q_lcF (own := [("corner", 4)]) rfl sc_Net_init.nd (i_seq (qv 1)) (blkOk_by (own := [("corner", 4)]) (by kernel_rfl)) (fun _ _ _ _ _ => (gp_name (i := 4) sc_Net_init.nd rfl (Or.inl rfl) (by decide))) (fun _ _ _ _ _ => ts_nil) (fun _ _ _ _ _ => (q_cty call_tuple_of l_tuple (by rfl) (fr_tuple C) (by decide +kernel) (qa_cons (q_lcF (own := [("one", 6)]) rfl sc_Net_init.nd (i_seq (qv 4)) (blkOk_by (own := [("one", 6)]) (by kernel_rfl)) (fun _ _ _ _ _ => (gp_name (i := 6) sc_Net_init.nd rfl (Or.inl rfl) (by decide))) (fun _ _ _ _ _ => ts_nil) (fun _ _ _ _ _ => (q_call G_exact (hr.mono (by decide)) rfl (g_exact C) (kp_exact C) (bd_exact C) (qa_cons (qv 6) qa_nil)))) qa_nil)))) qa_nil)))
    (qs_one (qs_fld (qv 0) (q_cty call_tuple_of l_tuple (by rfl) (fr_tuple C) (by decide +kernel) (qa_cons (qv 2) qa_nil)))))))
/-! open_edges -/
theorem sc_open_edges : FnScope ["net", "surplus", "a", "b"] ["net"] (defScope s_open_edges) := ⟨rfl, rfl, rfl, by decide +kernel, rfl, by decide +kernel, by decide +kernel⟩
theorem kp_open_edges {K : PySem.W.Frag} {mg : Str → Option Value} (C : Hc K mg) : PySem.W.keepIn K (.ref (He.fAd K (("open_edges", none)))) = true := (f_open_edges C).kp
theorem bd_open_edges {K : PySem.W.Frag} {mg : Str → Option Value} (C : Hc K mg) : Binds K (fdAt K (("open_edges", none))) ["net"] [] := (f_open_edges C).bindsN fun _ _ _ _ _ _ us hl => match us, hl with | [_], _ => rfl
theorem dv_open_edges {P : Program} {w : World} {K : PySem.W.Frag} {mg : Str → Option Value} {base : Heap} (C : Hc K mg) (G_surpluses : FnOk P w K mg base CX0 2 (He.fAd K (("surpluses", none))) (fdAt K (("surpluses", none))) ["faces"] (lSp K sp_surpluses))
    (cdv : Value) (A : Around) (outer : List Env) (s : Shared) (H : Hp) (E : XK) (hr : Room 2 (A.deeper (envOfC "open_edges" (defScope s_open_edges) s.heap.objs.size (He.fAd K (("open_edges", none))) cdv))) :
    QSs (cxOf CX0 P w K mg base ["net", "surplus", "a", "b"] "open_edges" (defScope s_open_edges) (He.fAd K (("open_edges", none))) cdv A outer s H E) (defBody s_open_edges) (t_open_edges K) :=
  (qs_one (qs_ret (q_lc (own := [("surplus", 1), ("a", 2), ("b", 3)]) rfl sc_open_edges.nd (i_seq (q_fg (q_fz (q_sortIt rfl (hu100 hr) (q_call G_surpluses (hr.mono (by decide)) rfl (g_surpluses C) (kp_surpluses C) (bd_surpluses C) (qa_cons (q_fldF (qv 0)) qa_nil)) rfl (fr_sorted C))))) (blkOk_by (own := [("surplus", 1), ("a", 2), ("b", 3)]) (by kernel_rfl)) (fun _ _ _ _ _ => (gv_tup rfl (gv_cons (gv_tup rfl (gv_cons (gv_name (i := 2) sc_open_edges.nd rfl (Or.inl rfl) (by decide)) (gv_cons (gv_name (i := 3) sc_open_edges.nd rfl (Or.inl rfl) (by decide)) gv_nil))) (gv_cons (gv_name (i := 1) sc_open_edges.nd rfl (Or.inl rfl) (by decide)) gv_nil)))) (fun _ _ _ _ _ => (ts_one (t_cmp (o_ne (hu64 hr)) l_ne (qv 1) (qcon (.int 0) pe_int fun _ => .int _) (nomark _)))) (fun _ _ _ _ _ => (q_tup (qa_cons (qv 2) (qa_cons (qv 3) (qa_cons (qv 1) qa_nil))))))))
/-! is_closed -/
theorem sc_is_closed : FnScope ["net"] ["net"] (defScope s_is_closed) := ⟨rfl, rfl, rfl, by decide +kernel, rfl, by decide +kernel, by decide +kernel⟩
theorem kp_is_closed {K : PySem.W.Frag} {mg : Str → Option Value} (C : Hc K mg) : PySem.W.keepIn K (.ref (He.fAd K (("is_closed", none)))) = true := (f_is_closed C).kp
theorem bd_is_closed {K : PySem.W.Frag} {mg : Str → Option Value} (C : Hc K mg) : Binds K (fdAt K (("is_closed", none))) ["net"] [] := (f_is_closed C).bindsN fun _ _ _ _ _ _ us hl => match us, hl with | [_], _ => rfl
theorem dv_is_closed {P : Program} {w : World} {K : PySem.W.Frag} {mg : Str → Option Value} {base : Heap} (C : Hc K mg) (G_open_edges : FnOk P w K mg base CX0 3 (He.fAd K (("open_edges", none))) (fdAt K (("open_edges", none))) ["net"] (lSp K (sp_open_edges K)))
    (cdv : Value) (A : Around) (outer : List Env) (s : Shared) (H : Hp) (E : XK) (hr : Room 3 (A.deeper (envOfC "is_closed" (defScope s_is_closed) s.heap.objs.size (He.fAd K (("is_closed", none))) cdv))) :
    QSs (cxOf CX0 P w K mg base ["net"] "is_closed" (defScope s_is_closed) (He.fAd K (("is_closed", none))) cdv A outer s H E) (defBody s_is_closed) (t_is_closed K) :=
  (qs_one (qs_ret (q_cmp (o_eq (hu64 hr)) l_eq (q_fz (q_call G_open_edges (hr.mono (by decide)) rfl (g_open_edges C) (kp_open_edges C) (bd_open_edges C) (qa_cons (qv 0) qa_nil))) (q_lstF qa_nil) (nomark _))))
/-! volume -/
theorem sc_volume : FnScope ["net", "corners", "scale", "total", "a", "b", "c"] ["net"] (defScope s_volume) := ⟨rfl, rfl, rfl, by decide +kernel, rfl, by decide +kernel, by decide +kernel⟩
theorem kp_volume {K : PySem.W.Frag} {mg : Str → Option Value} (C : Hc K mg) : PySem.W.keepIn K (.ref (He.fAd K (("volume", none)))) = true := (f_volume C).kp
theorem bd_volume {K : PySem.W.Frag} {mg : Str → Option Value} (C : Hc K mg) : Binds K (fdAt K (("volume", none))) ["net"] [] := (f_volume C).bindsN fun _ _ _ _ _ _ us hl => match us, hl with | [_], _ => rfl
theorem dv_volume {P : Program} {w : World} {K : PySem.W.Frag} {mg : Str → Option Value} {base : Heap} (C : Hc K mg) (G_scaled : FnOk P w K mg base CX0 1 (He.fAd K (("scaled", none))) (fdAt K (("scaled", none))) ["rows"] (lSp K sp_scaled)) (G_determinant : FnOk P w K mg base CX0 1 (He.fAd K (("determinant", none))) (fdAt K (("determinant", none))) ["first", "second", "third"] (lSp K sp_determinant)) (G_exact : FnOk P w K mg base CX0 3 (He.fAd K (("exact", none))) (fdAt K (("exact", none))) ["value"] (lSp K sp_exact))
    (cdv : Value) (A : Around) (outer : List Env) (s : Shared) (H : Hp) (E : XK) (hr : Room 3 (A.deeper (envOfC "volume" (defScope s_volume) s.heap.objs.size (He.fAd K (("volume", none))) cdv))) :
    QSs (cxOf CX0 P w K mg base ["net", "corners", "scale", "total", "a", "b", "c"] "volume" (defScope s_volume) (He.fAd K (("volume", none))) cdv A outer s H E) (defBody s_volume) (t_volume K) :=
  (qs_cons (qs_asg (q_call G_scaled (hr.mono (by decide)) rfl (g_scaled C) (kp_scaled C) (bd_scaled C) (qa_cons (q_fldF (qv 0)) qa_nil)) (g_tup rfl (g_cons (g_name (i := 1) sc_volume.nd rfl (Or.inr rfl)) (g_cons (g_name (i := 2) sc_volume.nd rfl (Or.inl rfl)) g_nil))))
    (qs_cons (qs_set (i := 3) sc_volume.nd rfl (Or.inl rfl) (q_cb (cr_sum rfl) l_sumF (by rfl) (fr_sum C) (by decide +kernel) (qa_cons (q_lcF (own := [("a", 4), ("b", 5), ("c", 6)]) rfl sc_volume.nd (i_seq (q_fldF (qv 0))) (blkOk_by (own := [("a", 4), ("b", 5), ("c", 6)]) (by kernel_rfl)) (fun _ _ _ _ _ => (gp_tup rfl (gp_cons (gp_name (i := 4) sc_volume.nd rfl (Or.inl rfl) (by decide)) (gp_cons (gp_name (i := 5) sc_volume.nd rfl (Or.inl rfl) (by decide)) (gp_cons (gp_name (i := 6) sc_volume.nd rfl (Or.inl rfl) (by decide)) gp_nil))))) (fun _ _ _ _ _ => ts_nil) (fun _ _ _ _ _ => (q_call G_determinant (hr.mono (by decide)) rfl (g_determinant C) (kp_determinant C) (bd_determinant C) (qa_cons (q_ix (qv 1) (qv 4)) (qa_cons (q_ix (qv 1) (qv 5)) (qa_cons (q_ix (qv 1) (qv 6)) qa_nil)))))) qa_nil)))
    (qs_one (qs_ret (q_call G_exact (hr.mono (by decide)) rfl (g_exact C) (kp_exact C) (bd_exact C) (qa_cons (q_tup (qa_cons (qv 3) (qa_cons (q_opF o_mulR l_mulF (qcon (.int 6) pe_int fun _ => .int _) (q_op o_pow l_pow (qv 2) (qcon (.int 3) pe_int fun _ => .int _))) qa_nil))) qa_nil))))))
/-! loft -/
theorem sc_loft : FnScope ["lower", "z0", "upper", "z1", "many", "corners", "faces", "i", "j", "x", "y"] ["lower", "z0", "upper", "z1"] (defScope s_loft) := ⟨rfl, rfl, rfl, by decide +kernel, rfl, by decide +kernel, by decide +kernel⟩
theorem kp_loft {K : PySem.W.Frag} {mg : Str → Option Value} (C : Hc K mg) : PySem.W.keepIn K (.ref (He.fAd K (("loft", none)))) = true := (f_loft C).kp
theorem bd_loft {K : PySem.W.Frag} {mg : Str → Option Value} (C : Hc K mg) : Binds K (fdAt K (("loft", none))) ["lower", "z0", "upper", "z1"] [] := (f_loft C).bindsN fun _ _ _ _ _ _ us hl => match us, hl with | [_, _, _, _], _ => rfl
theorem dv_loft {P : Program} {w : World} {K : PySem.W.Frag} {mg : Str → Option Value} {base : Heap} (C : Hc K mg) (G_compare : FnOk P w K mg base CX0 2 (He.fAd K (("compare", none))) (fdAt K (("compare", none))) ["a", "b"] (lSp K sp_compare)) (G_Net_init : FnOk P w K mg base CX0 4 (He.fAd K (("Net", some "__init__"))) (fdAt K (("Net", some "__init__"))) ["self", "corners", "faces"] (lSp K (sp_Net_init K)))
    (cdv : Value) (A : Around) (outer : List Env) (s : Shared) (H : Hp) (E : XK) (E' : XK') (hr : Room 5 (A.deeper (envOfC "loft" (defScope s_loft) s.heap.objs.size (He.fAd K (("loft", none))) cdv))) (hE : LinkE K H E' E) :
    QSs (cxOf (L2.CX P w) P w K mg base ["lower", "z0", "upper", "z1", "many", "corners", "faces", "i", "j", "x", "y"] "loft" (defScope s_loft) (He.fAd K (("loft", none))) cdv A outer s H E) (defBody s_loft) (t_loft K E') :=
  (qs_cons (qs_set (i := 4) sc_loft.nd rfl (Or.inr rfl) (q_cb call_len l_len (by rfl) (fr_len C) PySem.boot_len (qa_cons (qv 0) qa_nil)))
    (qs_cons (qs_if (tw (tw_or (t_cmp (o_ne (hu64 hr)) l_ne (qv 4) (q_cb call_len l_len (by rfl) (fr_len C) PySem.boot_len (qa_cons (qv 2) qa_nil)) (nomark _)) (tw_or (t_cmp op_lt l_lt (qv 4) (qcon (.int 3) pe_int fun _ => .int _) (nomark _)) (tw_or1 (t_cmp op_ge l_ge (q_call G_compare (hr.mono (by decide)) rfl (g_compare C) (kp_compare C) (bd_compare C) (qa_cons (qv 1) (qa_cons (qv 3) qa_nil))) (qcon (.int 0) pe_int fun _ => .int _) (nomark _)))))) (qs_one (qs_raise0 rfl takes_def hE (pmk_own0 PySem.F.excBase_ValueError (x_BadLoft C) (g_BadLoft C) (xk_BadLoft C) (raises_own (xb_BadLoft C) (xt_BadLoft C)) rfl))) qs_nil)
    (qs_cons (qs_set (i := 5) sc_loft.nd rfl (Or.inl rfl) (q_opF o_addR l_addF (q_lcF (own := [("x", 9), ("y", 10)]) rfl sc_loft.nd (i_seq (qv 0)) (blkOk_by (own := [("x", 9), ("y", 10)]) (by kernel_rfl)) (fun _ _ _ _ _ => (gp_tup rfl (gp_cons (gp_name (i := 9) sc_loft.nd rfl (Or.inl rfl) (by decide)) (gp_cons (gp_name (i := 10) sc_loft.nd rfl (Or.inl rfl) (by decide)) gp_nil)))) (fun _ _ _ _ _ => ts_nil) (fun _ _ _ _ _ => (q_tup (qa_cons (qv 9) (qa_cons (qv 10) (qa_cons (qv 1) qa_nil)))))) (q_lcF (own := [("x", 9), ("y", 10)]) rfl sc_loft.nd (i_seq (qv 2)) (blkOk_by (own := [("x", 9), ("y", 10)]) (by kernel_rfl)) (fun _ _ _ _ _ => (gp_tup rfl (gp_cons (gp_name (i := 9) sc_loft.nd rfl (Or.inl rfl) (by decide)) (gp_cons (gp_name (i := 10) sc_loft.nd rfl (Or.inl rfl) (by decide)) gp_nil)))) (fun _ _ _ _ _ => ts_nil) (fun _ _ _ _ _ => (q_tup (qa_cons (qv 9) (qa_cons (qv 10) (qa_cons (qv 3) qa_nil))))))))
    (qs_cons (qs_set (i := 6) sc_loft.nd rfl (Or.inl rfl) (q_lst qa_nil))
    (qs_cons (qs_for hpX rfl (i_rng1 (qv 4) rfl (fr_range C)) (g_name (i := 7) sc_loft.nd rfl (Or.inl rfl)) (qs_cons (qs_set (i := 8) sc_loft.nd rfl (Or.inl rfl) (q_op op_modN l_mod (q_opF o_addR l_addF (qv 7) (qcon (.int 1) pe_int fun _ => .int _)) (qv 4)))
    (qs_cons (qs_expr (q_bm PySem.F.plainAttrs_list PySem.F.slot_list_append PySem.F.type_list_append mt_append l_append (qv 6) (qa_cons (q_tup (qa_cons (qv 7) (qa_cons (qv 8) (qa_cons (q_opF o_addR l_addF (qv 4) (qv 8)) qa_nil)))) qa_nil)))
    (qs_one (qs_expr (q_bm PySem.F.plainAttrs_list PySem.F.slot_list_append PySem.F.type_list_append mt_append l_append (qv 6) (qa_cons (q_tup (qa_cons (qv 7) (qa_cons (q_opF o_addR l_addF (qv 4) (qv 8)) (qa_cons (q_opF o_addR l_addF (qv 4) (qv 7)) qa_nil)))) qa_nil)))))))
    (qs_cons (qs_expr (q_bm PySem.F.plainAttrs_list PySem.F.slot_list_extend PySem.F.type_list_extend mt_extG l_extF (qv 6) (qa_cons (q_lcF (own := [("j", 8)]) rfl sc_loft.nd (i_rng2 (qcon (.int 1) pe_int fun _ => .int _) (q_op op_sub l_sub (qv 4) (qcon (.int 1) pe_int fun _ => .int _)) rfl (fr_range C)) (blkOk_by (own := [("j", 8)]) (by kernel_rfl)) (fun _ _ _ _ _ => (gp_name (i := 8) sc_loft.nd rfl (Or.inl rfl) (by decide))) (fun _ _ _ _ _ => ts_nil) (fun _ _ _ _ _ => (q_tup (qa_cons (qcon (.int 0) pe_int fun _ => .int _) (qa_cons (q_opF o_addR l_addF (qv 8) (qcon (.int 1) pe_int fun _ => .int _)) (qa_cons (qv 8) qa_nil)))))) qa_nil)))
    (qs_cons (qs_expr (q_bm PySem.F.plainAttrs_list PySem.F.slot_list_extend PySem.F.type_list_extend mt_extG l_extF (qv 6) (qa_cons (q_lcF (own := [("j", 8)]) rfl sc_loft.nd (i_rng2 (qcon (.int 1) pe_int fun _ => .int _) (q_op op_sub l_sub (qv 4) (qcon (.int 1) pe_int fun _ => .int _)) rfl (fr_range C)) (blkOk_by (own := [("j", 8)]) (by kernel_rfl)) (fun _ _ _ _ _ => (gp_name (i := 8) sc_loft.nd rfl (Or.inl rfl) (by decide))) (fun _ _ _ _ _ => ts_nil) (fun _ _ _ _ _ => (q_tup (qa_cons (qv 4) (qa_cons (q_opF o_addR l_addF (qv 4) (qv 8)) (qa_cons (q_opF o_addR l_addF (q_opF o_addR l_addF (qv 4) (qv 8)) (qcon (.int 1) pe_int fun _ => .int _)) qa_nil)))))) qa_nil)))
    (qs_one (qs_ret (q_fz (q_make (mk_Net C) G_Net_init (hr.mono (by decide)) rfl (g_Net C) (bd_Net_init C) (qa_cons (qv 5) (qa_cons (qv 6) qa_nil)))))))))))))
/-! _law_bag -/
theorem sc_law_bag : FnScope ["_law_script", "_law_mixed", "_law_cell"] ["_law_script"] (defScope s_law_bag) := ⟨rfl, rfl, rfl, by decide +kernel, rfl, by decide +kernel, by decide +kernel⟩
theorem kp_law_bag {K : PySem.W.Frag} {mg : Str → Option Value} (C : Hc K mg) : PySem.W.keepIn K (.ref (He.fAd K (("_law_bag", none)))) = true := (f_law_bag C).kp
theorem bd_law_bag {K : PySem.W.Frag} {mg : Str → Option Value} (C : Hc K mg) : Binds K (fdAt K (("_law_bag", none))) ["_law_script"] [] := (f_law_bag C).bindsN fun _ _ _ _ _ _ us hl => match us, hl with | [_], _ => rfl
theorem dv_law_bag {P : Program} {w : World} {K : PySem.W.Frag} {mg : Str → Option Value} {base : Heap} (C : Hc K mg) 
    (cdv : Value) (A : Around) (outer : List Env) (s : Shared) (H : Hp) (E : XK) (hr : Room 0 (A.deeper (envOfC "_law_bag" (defScope s_law_bag) s.heap.objs.size (He.fAd K (("_law_bag", none))) cdv))) :
    QSs (cxOf CX0 P w K mg base ["_law_script", "_law_mixed", "_law_cell"] "_law_bag" (defScope s_law_bag) (He.fAd K (("_law_bag", none))) cdv A outer s H E) (defBody s_law_bag) (t_law_bag K) :=
  (qs_cons (qs_set (i := 1) sc_law_bag.nd rfl (Or.inl rfl) (qcon (.int 13963) pe_int fun _ => .int _))
    (qs_cons (qs_for hpN rfl (i_seq (q_slF (qv 0) o_none (o_some (qcon (.int 63) pe_int fun _ => .int _)))) (g_name (i := 2) sc_law_bag.nd rfl (Or.inl rfl)) (qs_one (qs_set (i := 1) sc_law_bag.nd rfl (Or.inl rfl) (q_op op_modN l_mod (q_cty call_int1 l_intc (by rfl) (fr_int C) (by decide +kernel) (qa_cons (q_op o_pow l_pow (q_opF o_addR l_addF (q_opF o_addR l_addF (qv 1) (q_op op_modN l_mod (q_cty call_int1 l_intc (by rfl) (fr_int C) (by decide +kernel) (qa_cons (qv 2) qa_nil)) (qcon (.int 18446744073709551557) pe_int fun _ => .int _))) (qcon (.int 389) pe_int fun _ => .int _)) (qcon (.int 3) pe_int fun _ => .int _)) qa_nil)) (qcon (.int 18446744073709551557) pe_int fun _ => .int _)))))
    (qs_one (qs_ret (q_lst (qa_cons (q_ctyF call_list_of l_listF (by rfl) (fr_list C) (by decide +kernel) (qa_cons (q_slF (qv 0) o_none (o_some (qcon (.int 63) pe_int fun _ => .int _))) qa_nil)) (qa_cons (qcon (.int 0) pe_int fun _ => .int _) (qa_cons (qcon (.int 0) pe_int fun _ => .int _) (qa_cons (qv 1) (qa_cons (qcon (.int 0) pe_int fun _ => .int _) qa_nil))))))))))
/-! _law_draw -/
theorem sc_law_draw : FnScope ["_law_bag_here", "_law_many_y", "_law_cell", "_law_digit"] ["_law_bag_here", "_law_many_y"] (defScope s_law_draw) := ⟨rfl, rfl, rfl, by decide +kernel, rfl, by decide +kernel, by decide +kernel⟩
theorem kp_law_draw {K : PySem.W.Frag} {mg : Str → Option Value} (C : Hc K mg) : PySem.W.keepIn K (.ref (He.fAd K (("_law_draw", none)))) = true := (f_law_draw C).kp
theorem bd_law_draw {K : PySem.W.Frag} {mg : Str → Option Value} (C : Hc K mg) : Binds K (fdAt K (("_law_draw", none))) ["_law_bag_here", "_law_many_y"] [] := (f_law_draw C).bindsN fun _ _ _ _ _ _ us hl => match us, hl with | [_, _], _ => rfl
theorem dv_law_draw {P : Program} {w : World} {K : PySem.W.Frag} {mg : Str → Option Value} {base : Heap} (C : Hc K mg) 
    (cdv : Value) (A : Around) (outer : List Env) (s : Shared) (H : Hp) (E : XK) (hr : Room 0 (A.deeper (envOfC "_law_draw" (defScope s_law_draw) s.heap.objs.size (He.fAd K (("_law_draw", none))) cdv))) :
    QSs (cxOf CX0 P w K mg base ["_law_bag_here", "_law_many_y", "_law_cell", "_law_digit"] "_law_draw" (defScope s_law_draw) (He.fAd K (("_law_draw", none))) cdv A outer s H E) (defBody s_law_draw) (t_law_draw K) :=
  (qs_cons (qs_asg (q_opF o_addR l_addF (q_ixk 4 (qv 0) pe_int) (qcon (.int 1) pe_int fun _ => .int _)) (g_sub (qv 0) (qcon (.int 4) pe_int fun _ => .int _)))
    (qs_cons (qs_if (tw (tw_and (t_cmp (o_eq (hu64 hr)) l_eq (q_ixk 2 (qv 0) pe_int) (qcon (.int 0) pe_int fun _ => .int _) (nomark _)) (tw_and1 (t_cmp op_lt l_lt (q_ixk 1 (qv 0) pe_int) (q_cb call_len l_len (by rfl) (fr_len C) PySem.boot_len (qa_cons (q_ixk 0 (qv 0) pe_int) qa_nil)) (nomark _))))) (qs_cons (qs_set (i := 2) sc_law_draw.nd rfl (Or.inl rfl) (q_cty call_int1 l_intc (by rfl) (fr_int C) (by decide +kernel) (qa_cons (q_ix (q_ixk 0 (qv 0) pe_int) (q_ixk 1 (qv 0) pe_int)) qa_nil)))
    (qs_cons (qs_asg (q_opF o_addR l_addF (q_ixk 1 (qv 0) pe_int) (qcon (.int 1) pe_int fun _ => .int _)) (g_sub (qv 0) (qcon (.int 1) pe_int fun _ => .int _)))
    (qs_one (qs_if (t_cmp op_ge l_ge (qv 2) (q_op o_pow l_pow (qcon (.int 10) pe_int fun _ => .int _) (qcon (.int 18) pe_int fun _ => .int _)) (nomark _)) (qs_one (qs_asg (qv 2) (g_sub (qv 0) (qcon (.int 2) pe_int fun _ => .int _)))) (qs_one (qs_asg (q_op op_modN l_mod (q_cty call_int1 l_intc (by rfl) (fr_int C) (by decide +kernel) (qa_cons (q_op o_pow l_pow (q_opF o_addR l_addF (q_opF o_addR l_addF (q_ixk 3 (qv 0) pe_int) (q_opF o_mulR l_mulF (q_op op_modN l_mod (q_cty call_int1 l_intc (by rfl) (fr_int C) (by decide +kernel) (qa_cons (qv 2) qa_nil)) (qcon (.int 18446744073709551557) pe_int fun _ => .int _)) (qcon (.int 11) pe_int fun _ => .int _))) (qcon (.int 41) pe_int fun _ => .int _)) (qcon (.int 3) pe_int fun _ => .int _)) qa_nil)) (qcon (.int 18446744073709551557) pe_int fun _ => .int _)) (g_sub (qv 0) (qcon (.int 3) pe_int fun _ => .int _)))))))) qs_nil)
    (qs_cons (qs_if (t_cmp op_gt l_gt (q_ixk 2 (qv 0) pe_int) (qcon (.int 0) pe_int fun _ => .int _) (nomark _)) (qs_cons (qs_set (i := 3) sc_law_draw.nd rfl (Or.inl rfl) (q_op op_modN l_mod (q_cty call_int1 l_intc (by rfl) (fr_int C) (by decide +kernel) (qa_cons (q_ixk 2 (qv 0) pe_int) qa_nil)) (qv 1)))
    (qs_cons (qs_asg (q_op op_fdivW l_fdiv (q_cty call_int1 l_intc (by rfl) (fr_int C) (by decide +kernel) (qa_cons (q_ixk 2 (qv 0) pe_int) qa_nil)) (qv 1)) (g_sub (qv 0) (qcon (.int 2) pe_int fun _ => .int _)))
    (qs_one (qs_ret (qv 3))))) qs_nil)
    (qs_cons (qs_asg (q_op op_modN l_mod (q_cty call_int1 l_intc (by rfl) (fr_int C) (by decide +kernel) (qa_cons (q_op o_pow l_pow (q_opF o_addR l_addF (q_opF o_addR l_addF (q_ixk 3 (qv 0) pe_int) (q_opF o_mulR l_mulF (q_ixk 4 (qv 0) pe_int) (qcon (.int 1000003) pe_int fun _ => .int _))) (qcon (.int 31) pe_int fun _ => .int _)) (qcon (.int 3) pe_int fun _ => .int _)) qa_nil)) (qcon (.int 18446744073709551557) pe_int fun _ => .int _)) (g_sub (qv 0) (qcon (.int 3) pe_int fun _ => .int _)))
    (qs_one (qs_ret (q_op op_modN l_mod (q_cty call_int1 l_intc (by rfl) (fr_int C) (by decide +kernel) (qa_cons (q_op op_fdivW l_fdiv (q_ixk 3 (qv 0) pe_int) (qcon (.int 1073741827) pe_int fun _ => .int _)) qa_nil)) (qv 1))))))))
/-! _law_of -/
theorem sc_law_of : FnScope ["_law_bag_here", "_law_things"] ["_law_bag_here", "_law_things"] (defScope s_law_of) := ⟨rfl, rfl, rfl, by decide +kernel, rfl, by decide +kernel, by decide +kernel⟩
theorem kp_law_of {K : PySem.W.Frag} {mg : Str → Option Value} (C : Hc K mg) : PySem.W.keepIn K (.ref (He.fAd K (("_law_of", none)))) = true := (f_law_of C).kp
theorem bd_law_of {K : PySem.W.Frag} {mg : Str → Option Value} (C : Hc K mg) : Binds K (fdAt K (("_law_of", none))) ["_law_bag_here", "_law_things"] [] := (f_law_of C).bindsN fun _ _ _ _ _ _ us hl => match us, hl with | [_, _], _ => rfl
theorem dv_law_of {P : Program} {w : World} {K : PySem.W.Frag} {mg : Str → Option Value} {base : Heap} (C : Hc K mg) (G_law_draw : FnOk P w K mg base CX0 1 (He.fAd K (("_law_draw", none))) (fdAt K (("_law_draw", none))) ["_law_bag_here", "_law_many_y"] (lSp K sp_law_draw))
    (cdv : Value) (A : Around) (outer : List Env) (s : Shared) (H : Hp) (E : XK) (hr : Room 1 (A.deeper (envOfC "_law_of" (defScope s_law_of) s.heap.objs.size (He.fAd K (("_law_of", none))) cdv))) :
    QSs (cxOf CX0 P w K mg base ["_law_bag_here", "_law_things"] "_law_of" (defScope s_law_of) (He.fAd K (("_law_of", none))) cdv A outer s H E) (defBody s_law_of) (t_law_of K) :=
  (qs_one (qs_ret (q_ix (qv 1) (q_call G_law_draw (hr.mono (by decide)) rfl (g_law_draw C) (kp_law_draw C) (bd_law_draw C) (qa_cons (qv 0) (qa_cons (q_cb call_len l_len (by rfl) (fr_len C) PySem.boot_len (qa_cons (qv 1) qa_nil)) qa_nil))))))
/-! _law_same -/
theorem sc_law_same : FnScope ["_law_found", "_law_due", "_law_part_a", "_law_part_b"] ["_law_found", "_law_due"] (defScope s_law_same) := ⟨rfl, rfl, rfl, by decide +kernel, rfl, by decide +kernel, by decide +kernel⟩
theorem kp_law_same {K : PySem.W.Frag} {mg : Str → Option Value} (C : Hc K mg) : PySem.W.keepIn K (.ref (He.fAd K (("_law_same", none)))) = true := (f_law_same C).kp
theorem bd_law_same {K : PySem.W.Frag} {mg : Str → Option Value} (C : Hc K mg) : Binds K (fdAt K (("_law_same", none))) ["_law_found", "_law_due"] [] := (f_law_same C).bindsN fun _ _ _ _ _ _ us hl => match us, hl with | [_, _], _ => rfl
theorem dv_law_same {P : Program} {w : World} {K : PySem.W.Frag} {mg : Str → Option Value} {base : Heap} (C : Hc K mg) (n : Nat) (sp_rec : Sp') (G_law_same : FnOk P w K mg base CX0 n (He.fAd K (("_law_same", none))) (fdAt K (("_law_same", none))) ["_law_found", "_law_due"] (lSp K sp_rec))
    (cdv : Value) (A : Around) (outer : List Env) (s : Shared) (H : Hp) (E : XK) (hr : Room n (A.deeper (envOfC "_law_same" (defScope s_law_same) s.heap.objs.size (He.fAd K (("_law_same", none))) cdv))) :
    QSs (cxOf CX0 P w K mg base ["_law_found", "_law_due", "_law_part_a", "_law_part_b"] "_law_same" (defScope s_law_same) (He.fAd K (("_law_same", none))) cdv A outer s H E) (defBody s_law_same) (t_law_same K sp_rec) :=
  (qs_cons (qs_if (t_tru (q_cb call_isiA l_isi2 (by rfl) (fr_isinstance C) (by decide +kernel) (qa_cons (qv 1) (qa_cons (q_tup (qa_cons (q_ty rfl (fr_list C) (by decide +kernel)) (qa_cons (q_ty rfl (fr_tuple C) (by decide +kernel)) qa_nil))) qa_nil)))) (qs_cons (qs_if (tw (tw_or (t_cmp (o_ne (hu64 hr)) l_ne (q_cb call_isi (l_isi "list" (by decide)) (by rfl) (fr_isinstance C) (by decide +kernel) (qa_cons (qv 0) (qa_cons (q_ty rfl (fr_list C) (by decide +kernel)) qa_nil))) (q_cb call_isi (l_isi "list" (by decide)) (by rfl) (fr_isinstance C) (by decide +kernel) (qa_cons (qv 1) (qa_cons (q_ty rfl (fr_list C) (by decide +kernel)) qa_nil))) (nomark _)) (tw_or1 (t_cmp (o_ne (hu64 hr)) l_ne (q_cb call_isi (l_isi "tuple" (by decide)) (by rfl) (fr_isinstance C) (by decide +kernel) (qa_cons (qv 0) (qa_cons (q_ty rfl (fr_tuple C) (by decide +kernel)) qa_nil))) (q_cb call_isi (l_isi "tuple" (by decide)) (by rfl) (fr_isinstance C) (by decide +kernel) (qa_cons (qv 1) (qa_cons (q_ty rfl (fr_tuple C) (by decide +kernel)) qa_nil))) (nomark _))))) (qs_one (qs_ret (qcon (.bl false) pe_bl fun _ => .bl _))) qs_nil)
    (qs_one (qs_ret (q_and (q_cmp (o_eq (hu64 hr)) l_eq (q_cb call_len l_len (by rfl) (fr_len C) PySem.boot_len (qa_cons (qv 0) qa_nil)) (q_cb call_len l_len (by rfl) (fr_len C) PySem.boot_len (qa_cons (qv 1) qa_nil)) (nomark _)) (q_one (q_cb (cr_all rfl) l_allF (by rfl) (fr_all C) (by decide +kernel) (qa_cons (q_lcF (own := [("_law_part_a", 2), ("_law_part_b", 3)]) rfl sc_law_same.nd (i_zip (qv 0) (qv 1) (by rfl) (fr_zip C)) (blkOk_by (own := [("_law_part_a", 2), ("_law_part_b", 3)]) (by kernel_rfl)) (fun _ _ _ _ _ => (gp_tup rfl (gp_cons (gp_name (i := 2) sc_law_same.nd rfl (Or.inl rfl) (by decide)) (gp_cons (gp_name (i := 3) sc_law_same.nd rfl (Or.inl rfl) (by decide)) gp_nil)))) (fun _ _ _ _ _ => ts_nil) (fun _ _ _ _ _ => (q_call G_law_same hr rfl (g_law_same C) (kp_law_same C) (bd_law_same C) (qa_cons (qv 2) (qa_cons (qv 3) qa_nil))))) qa_nil))))))) qs_nil)
    (qs_cons (qs_if (tw (tw_or (t_cmp op_isN l_isN (qv 1) (qcon .non pe_non fun _ => .non) (nomark _)) (tw_or1 (t_cmp op_isN l_isN (qv 0) (qcon .non pe_non fun _ => .non) (nomark _))))) (qs_one (qs_ret (q_and (q_cmp op_isN l_isN (qv 1) (qcon .non pe_non fun _ => .non) (nomark _)) (q_one (q_cmp op_isN l_isN (qv 0) (qcon .non pe_non fun _ => .non) (nomark _)))))) qs_nil)
    (qs_cons (qs_if (tw (tw_or (t_tru (q_cb call_isiA l_isi2 (by rfl) (fr_isinstance C) (by decide +kernel) (qa_cons (qv 0) (qa_cons (q_tup (qa_cons (q_ty rfl (fr_list C) (by decide +kernel)) (qa_cons (q_ty rfl (fr_tuple C) (by decide +kernel)) qa_nil))) qa_nil)))) (tw_or1 (t_cmp (o_ne (hu64 hr)) l_ne (q_cb call_isi (l_isi "bool" (by decide)) (by rfl) (fr_isinstance C) (by decide +kernel) (qa_cons (qv 0) (qa_cons (q_ty rfl (fr_bool C) (by decide +kernel)) qa_nil))) (q_cb call_isi (l_isi "bool" (by decide)) (by rfl) (fr_isinstance C) (by decide +kernel) (qa_cons (qv 1) (qa_cons (q_ty rfl (fr_bool C) (by decide +kernel)) qa_nil))) (nomark _))))) (qs_one (qs_ret (qcon (.bl false) pe_bl fun _ => .bl _))) qs_nil)
    (qs_cons (qs_if (tw (tw_or (t_cmp (o_ne (hu64 hr)) l_ne (q_cb call_isi (l_isi "str" (by decide)) (by rfl) (fr_isinstance C) (by decide +kernel) (qa_cons (qv 0) (qa_cons (q_ty rfl (fr_str C) (by decide +kernel)) qa_nil))) (q_cb call_isi (l_isi "str" (by decide)) (by rfl) (fr_isinstance C) (by decide +kernel) (qa_cons (qv 1) (qa_cons (q_ty rfl (fr_str C) (by decide +kernel)) qa_nil))) (nomark _)) (tw_or1 (t_cmp (o_ne (hu64 hr)) l_ne (q_cb call_isi (l_isi "int" (by decide)) (by rfl) (fr_isinstance C) (by decide +kernel) (qa_cons (qv 0) (qa_cons (q_ty rfl (fr_int C) (by decide +kernel)) qa_nil))) (q_cb call_isi (l_isi "int" (by decide)) (by rfl) (fr_isinstance C) (by decide +kernel) (qa_cons (qv 1) (qa_cons (q_ty rfl (fr_int C) (by decide +kernel)) qa_nil))) (nomark _))))) (qs_one (qs_ret (qcon (.bl false) pe_bl fun _ => .bl _))) qs_nil)
    (qs_one (qs_ret (q_cmp (o_eq (hu64 hr)) l_eq (qv 0) (qv 1) (nomark _))))))))
/-! _law_low -/
theorem sc_law_low : FnScope ["_law_num", "_law_den", "_law_high", "_law_rest"] ["_law_num", "_law_den"] (defScope s_law_low) := ⟨rfl, rfl, rfl, by decide +kernel, rfl, by decide +kernel, by decide +kernel⟩
theorem kp_law_low {K : PySem.W.Frag} {mg : Str → Option Value} (C : Hc K mg) : PySem.W.keepIn K (.ref (He.fAd K (("_law_low", none)))) = true := (f_law_low C).kp
theorem bd_law_low {K : PySem.W.Frag} {mg : Str → Option Value} (C : Hc K mg) : Binds K (fdAt K (("_law_low", none))) ["_law_num", "_law_den"] [] := (f_law_low C).bindsN fun _ _ _ _ _ _ us hl => match us, hl with | [_, _], _ => rfl
theorem dv_law_low {P : Program} {w : World} {K : PySem.W.Frag} {mg : Str → Option Value} {base : Heap} (C : Hc K mg) 
    (cdv : Value) (A : Around) (outer : List Env) (s : Shared) (H : Hp) (E : XK) (hr : Room 0 (A.deeper (envOfC "_law_low" (defScope s_law_low) s.heap.objs.size (He.fAd K (("_law_low", none))) cdv))) :
    QSs (cxOf CX0 P w K mg base ["_law_num", "_law_den", "_law_high", "_law_rest"] "_law_low" (defScope s_law_low) (He.fAd K (("_law_low", none))) cdv A outer s H E) (defBody s_law_low) (t_law_low K) :=
  (qs_cons (qs_if (t_cmp op_lt l_lt (qv 1) (qcon (.int 0) pe_int fun _ => .int _) (nomark _)) (qs_one (qs_par (i := 0) (j := 1) rfl sc_law_low.nd rfl rfl (by decide) rfl rfl (qa_cons (q_un un_neg l_neg (qv 0)) (qa_cons (q_un un_neg l_neg (qv 1)) qa_nil)) (by rfl))) qs_nil)
    (qs_cons (qs_par (i := 2) (j := 3) rfl sc_law_low.nd rfl rfl (by decide) rfl rfl (qa_cons (q_cb call_abs l_abs (by rfl) (fr_abs C) (by decide +kernel) (qa_cons (qv 0) qa_nil)) (qa_cons (qv 1) qa_nil)) (by rfl))
    (qs_cons (qs_while hpN (t_cmp op_gt l_gt (qv 3) (qcon (.int 0) pe_int fun _ => .int _) (nomark _)) (qs_one (qs_par (i := 2) (j := 3) rfl sc_law_low.nd rfl rfl (by decide) rfl rfl (qa_cons (qv 3) (qa_cons (q_op op_modN l_mod (q_cty call_int1 l_intc (by rfl) (fr_int C) (by decide +kernel) (qa_cons (qv 2) qa_nil)) (qv 3)) qa_nil)) (by rfl))))
    (qs_one (qs_ret (q_tup (qa_cons (q_op op_fdivW l_fdiv (qv 0) (qv 2)) (qa_cons (q_op op_fdivW l_fdiv (qv 1) (qv 2)) qa_nil))))))))
/-! _law_add -/
theorem sc_law_add : FnScope ["_law_p", "_law_q"] ["_law_p", "_law_q"] (defScope s_law_add) := ⟨rfl, rfl, rfl, by decide +kernel, rfl, by decide +kernel, by decide +kernel⟩
theorem kp_law_add {K : PySem.W.Frag} {mg : Str → Option Value} (C : Hc K mg) : PySem.W.keepIn K (.ref (He.fAd K (("_law_add", none)))) = true := (f_law_add C).kp
theorem bd_law_add {K : PySem.W.Frag} {mg : Str → Option Value} (C : Hc K mg) : Binds K (fdAt K (("_law_add", none))) ["_law_p", "_law_q"] [] := (f_law_add C).bindsN fun _ _ _ _ _ _ us hl => match us, hl with | [_, _], _ => rfl
theorem dv_law_add {P : Program} {w : World} {K : PySem.W.Frag} {mg : Str → Option Value} {base : Heap} (C : Hc K mg) (G_law_low : FnOk P w K mg base CX0 1 (He.fAd K (("_law_low", none))) (fdAt K (("_law_low", none))) ["_law_num", "_law_den"] (lSp K sp_law_low))
    (cdv : Value) (A : Around) (outer : List Env) (s : Shared) (H : Hp) (E : XK) (hr : Room 1 (A.deeper (envOfC "_law_add" (defScope s_law_add) s.heap.objs.size (He.fAd K (("_law_add", none))) cdv))) :
    QSs (cxOf CX0 P w K mg base ["_law_p", "_law_q"] "_law_add" (defScope s_law_add) (He.fAd K (("_law_add", none))) cdv A outer s H E) (defBody s_law_add) (t_law_add K) :=
  (qs_cons (qs_if (tw (tw_and (t_cmp (o_eq (hu64 hr)) l_eq (q_ixk 1 (qv 0) pe_int) (qcon (.int 1) pe_int fun _ => .int _) (nomark _)) (tw_and1 (t_cmp (o_eq (hu64 hr)) l_eq (q_ixk 1 (qv 1) pe_int) (qcon (.int 1) pe_int fun _ => .int _) (nomark _))))) (qs_one (qs_ret (q_tup (qa_cons (q_opF o_addR l_addF (q_ixk 0 (qv 0) pe_int) (q_ixk 0 (qv 1) pe_int)) (qa_cons (qcon (.int 1) pe_int fun _ => .int _) qa_nil))))) qs_nil)
    (qs_one (qs_ret (q_call G_law_low (hr.mono (by decide)) rfl (g_law_low C) (kp_law_low C) (bd_law_low C) (qa_cons (q_opF o_addR l_addF (q_opF o_mulR l_mulF (q_ixk 0 (qv 0) pe_int) (q_ixk 1 (qv 1) pe_int)) (q_opF o_mulR l_mulF (q_ixk 0 (qv 1) pe_int) (q_ixk 1 (qv 0) pe_int))) (qa_cons (q_opF o_mulR l_mulF (q_ixk 1 (qv 0) pe_int) (q_ixk 1 (qv 1) pe_int)) qa_nil))))))
/-! _law_sub -/
theorem sc_law_sub : FnScope ["_law_p", "_law_q"] ["_law_p", "_law_q"] (defScope s_law_sub) := ⟨rfl, rfl, rfl, by decide +kernel, rfl, by decide +kernel, by decide +kernel⟩
theorem kp_law_sub {K : PySem.W.Frag} {mg : Str → Option Value} (C : Hc K mg) : PySem.W.keepIn K (.ref (He.fAd K (("_law_sub", none)))) = true := (f_law_sub C).kp
theorem bd_law_sub {K : PySem.W.Frag} {mg : Str → Option Value} (C : Hc K mg) : Binds K (fdAt K (("_law_sub", none))) ["_law_p", "_law_q"] [] := (f_law_sub C).bindsN fun _ _ _ _ _ _ us hl => match us, hl with | [_, _], _ => rfl
theorem dv_law_sub {P : Program} {w : World} {K : PySem.W.Frag} {mg : Str → Option Value} {base : Heap} (C : Hc K mg) (G_law_add : FnOk P w K mg base CX0 2 (He.fAd K (("_law_add", none))) (fdAt K (("_law_add", none))) ["_law_p", "_law_q"] (lSp K sp_law_add))
    (cdv : Value) (A : Around) (outer : List Env) (s : Shared) (H : Hp) (E : XK) (hr : Room 2 (A.deeper (envOfC "_law_sub" (defScope s_law_sub) s.heap.objs.size (He.fAd K (("_law_sub", none))) cdv))) :
    QSs (cxOf CX0 P w K mg base ["_law_p", "_law_q"] "_law_sub" (defScope s_law_sub) (He.fAd K (("_law_sub", none))) cdv A outer s H E) (defBody s_law_sub) (t_law_sub K) :=
  (qs_one (qs_ret (q_call G_law_add (hr.mono (by decide)) rfl (g_law_add C) (kp_law_add C) (bd_law_add C) (qa_cons (qv 0) (qa_cons (q_tup (qa_cons (q_un un_neg l_neg (q_ixk 0 (qv 1) pe_int)) (qa_cons (q_ixk 1 (qv 1) pe_int) qa_nil))) qa_nil)))))
/-! _law_mul -/
theorem sc_law_mul : FnScope ["_law_p", "_law_q"] ["_law_p", "_law_q"] (defScope s_law_mul) := ⟨rfl, rfl, rfl, by decide +kernel, rfl, by decide +kernel, by decide +kernel⟩
theorem kp_law_mul {K : PySem.W.Frag} {mg : Str → Option Value} (C : Hc K mg) : PySem.W.keepIn K (.ref (He.fAd K (("_law_mul", none)))) = true := (f_law_mul C).kp
theorem bd_law_mul {K : PySem.W.Frag} {mg : Str → Option Value} (C : Hc K mg) : Binds K (fdAt K (("_law_mul", none))) ["_law_p", "_law_q"] [] := (f_law_mul C).bindsN fun _ _ _ _ _ _ us hl => match us, hl with | [_, _], _ => rfl
theorem dv_law_mul {P : Program} {w : World} {K : PySem.W.Frag} {mg : Str → Option Value} {base : Heap} (C : Hc K mg) (G_law_low : FnOk P w K mg base CX0 1 (He.fAd K (("_law_low", none))) (fdAt K (("_law_low", none))) ["_law_num", "_law_den"] (lSp K sp_law_low))
    (cdv : Value) (A : Around) (outer : List Env) (s : Shared) (H : Hp) (E : XK) (hr : Room 1 (A.deeper (envOfC "_law_mul" (defScope s_law_mul) s.heap.objs.size (He.fAd K (("_law_mul", none))) cdv))) :
    QSs (cxOf CX0 P w K mg base ["_law_p", "_law_q"] "_law_mul" (defScope s_law_mul) (He.fAd K (("_law_mul", none))) cdv A outer s H E) (defBody s_law_mul) (t_law_mul K) :=
  (qs_cons (qs_if (tw (tw_and (t_cmp (o_eq (hu64 hr)) l_eq (q_ixk 1 (qv 0) pe_int) (qcon (.int 1) pe_int fun _ => .int _) (nomark _)) (tw_and1 (t_cmp (o_eq (hu64 hr)) l_eq (q_ixk 1 (qv 1) pe_int) (qcon (.int 1) pe_int fun _ => .int _) (nomark _))))) (qs_one (qs_ret (q_tup (qa_cons (q_opF o_mulR l_mulF (q_ixk 0 (qv 0) pe_int) (q_ixk 0 (qv 1) pe_int)) (qa_cons (qcon (.int 1) pe_int fun _ => .int _) qa_nil))))) qs_nil)
    (qs_one (qs_ret (q_call G_law_low (hr.mono (by decide)) rfl (g_law_low C) (kp_law_low C) (bd_law_low C) (qa_cons (q_opF o_mulR l_mulF (q_ixk 0 (qv 0) pe_int) (q_ixk 0 (qv 1) pe_int)) (qa_cons (q_opF o_mulR l_mulF (q_ixk 1 (qv 0) pe_int) (q_ixk 1 (qv 1) pe_int)) qa_nil))))))
/-! _law_lt -/
theorem sc_law_lt : FnScope ["_law_p", "_law_q"] ["_law_p", "_law_q"] (defScope s_law_lt) := ⟨rfl, rfl, rfl, by decide +kernel, rfl, by decide +kernel, by decide +kernel⟩
theorem kp_law_lt {K : PySem.W.Frag} {mg : Str → Option Value} (C : Hc K mg) : PySem.W.keepIn K (.ref (He.fAd K (("_law_lt", none)))) = true := (f_law_lt C).kp
theorem bd_law_lt {K : PySem.W.Frag} {mg : Str → Option Value} (C : Hc K mg) : Binds K (fdAt K (("_law_lt", none))) ["_law_p", "_law_q"] [] := (f_law_lt C).bindsN fun _ _ _ _ _ _ us hl => match us, hl with | [_, _], _ => rfl
theorem dv_law_lt {P : Program} {w : World} {K : PySem.W.Frag} {mg : Str → Option Value} {base : Heap} (C : Hc K mg) 
    (cdv : Value) (A : Around) (outer : List Env) (s : Shared) (H : Hp) (E : XK) (hr : Room 0 (A.deeper (envOfC "_law_lt" (defScope s_law_lt) s.heap.objs.size (He.fAd K (("_law_lt", none))) cdv))) :
    QSs (cxOf CX0 P w K mg base ["_law_p", "_law_q"] "_law_lt" (defScope s_law_lt) (He.fAd K (("_law_lt", none))) cdv A outer s H E) (defBody s_law_lt) (t_law_lt K) :=
  (qs_one (qs_ret (q_cmp op_lt l_lt (q_opF o_mulR l_mulF (q_ixk 0 (qv 0) pe_int) (q_ixk 1 (qv 1) pe_int)) (q_opF o_mulR l_mulF (q_ixk 0 (qv 1) pe_int) (q_ixk 1 (qv 0) pe_int)) (nomark _))))
/-! _law_hand -/
theorem sc_law_hand : FnScope ["_law_bag_here", "_law_p"] ["_law_bag_here", "_law_p"] (defScope s_law_hand) := ⟨rfl, rfl, rfl, by decide +kernel, rfl, by decide +kernel, by decide +kernel⟩
theorem kp_law_hand {K : PySem.W.Frag} {mg : Str → Option Value} (C : Hc K mg) : PySem.W.keepIn K (.ref (He.fAd K (("_law_hand", none)))) = true := (f_law_hand C).kp
theorem bd_law_hand {K : PySem.W.Frag} {mg : Str → Option Value} (C : Hc K mg) : Binds K (fdAt K (("_law_hand", none))) ["_law_bag_here", "_law_p"] [] := (f_law_hand C).bindsN fun _ _ _ _ _ _ us hl => match us, hl with | [_, _], _ => rfl
theorem dv_law_hand {P : Program} {w : World} {K : PySem.W.Frag} {mg : Str → Option Value} {base : Heap} (C : Hc K mg) (G_law_draw : FnOk P w K mg base CX0 1 (He.fAd K (("_law_draw", none))) (fdAt K (("_law_draw", none))) ["_law_bag_here", "_law_many_y"] (lSp K sp_law_draw))
    (cdv : Value) (A : Around) (outer : List Env) (s : Shared) (H : Hp) (E : XK) (hr : Room 1 (A.deeper (envOfC "_law_hand" (defScope s_law_hand) s.heap.objs.size (He.fAd K (("_law_hand", none))) cdv))) :
    QSs (cxOf CX0 P w K mg base ["_law_bag_here", "_law_p"] "_law_hand" (defScope s_law_hand) (He.fAd K (("_law_hand", none))) cdv A outer s H E) (defBody s_law_hand) (t_law_hand K) :=
  (qs_cons (qs_if (tw (tw_and (t_cmp (o_eq (hu64 hr)) l_eq (q_ixk 1 (qv 1) pe_int) (qcon (.int 1) pe_int fun _ => .int _) (nomark _)) (tw_and1 (t_cmp (o_eq (hu64 hr)) l_eq (q_call G_law_draw (hr.mono (by decide)) rfl (g_law_draw C) (kp_law_draw C) (bd_law_draw C) (qa_cons (qv 0) (qa_cons (qcon (.int 2) pe_int fun _ => .int _) qa_nil))) (qcon (.int 0) pe_int fun _ => .int _) (nomark _))))) (qs_one (qs_ret (q_ixk 0 (qv 1) pe_int))) qs_nil)
    (qs_one (qs_ret (qv 1))))
/-! _law_handed -/
theorem sc_law_handed : FnScope ["_law_bag_here", "_law_spots_here", "_law_spot", "_law_p"] ["_law_bag_here", "_law_spots_here"] (defScope s_law_handed) := ⟨rfl, rfl, rfl, by decide +kernel, rfl, by decide +kernel, by decide +kernel⟩
theorem kp_law_handed {K : PySem.W.Frag} {mg : Str → Option Value} (C : Hc K mg) : PySem.W.keepIn K (.ref (He.fAd K (("_law_handed", none)))) = true := (f_law_handed C).kp
theorem bd_law_handed {K : PySem.W.Frag} {mg : Str → Option Value} (C : Hc K mg) : Binds K (fdAt K (("_law_handed", none))) ["_law_bag_here", "_law_spots_here"] [] := (f_law_handed C).bindsN fun _ _ _ _ _ _ us hl => match us, hl with | [_, _], _ => rfl
theorem dv_law_handed {P : Program} {w : World} {K : PySem.W.Frag} {mg : Str → Option Value} {base : Heap} (C : Hc K mg) (G_law_hand : FnOk P w K mg base CX0 2 (He.fAd K (("_law_hand", none))) (fdAt K (("_law_hand", none))) ["_law_bag_here", "_law_p"] (lSp K sp_law_hand))
    (cdv : Value) (A : Around) (outer : List Env) (s : Shared) (H : Hp) (E : XK) (hr : Room 2 (A.deeper (envOfC "_law_handed" (defScope s_law_handed) s.heap.objs.size (He.fAd K (("_law_handed", none))) cdv))) :
    QSs (cxOf CX0 P w K mg base ["_law_bag_here", "_law_spots_here", "_law_spot", "_law_p"] "_law_handed" (defScope s_law_handed) (He.fAd K (("_law_handed", none))) cdv A outer s H E) (defBody s_law_handed) (t_law_handed K) :=
  (qs_one (qs_ret (q_lc (own := [("_law_spot", 2)]) rfl sc_law_handed.nd (i_seq (qv 1)) (blkOk_by (own := [("_law_spot", 2)]) (by kernel_rfl)) (fun _ _ _ _ _ => (gv_name (i := 2) sc_law_handed.nd rfl (Or.inl rfl) (by decide))) (fun _ _ _ _ _ => ts_nil) (fun _ _ _ _ _ => (q_cty call_tuple_of l_tuple (by rfl) (fr_tuple C) (by decide +kernel) (qa_cons (q_lcF (own := [("_law_p", 3)]) rfl sc_law_handed.nd (i_seq (qv 2)) (blkOk_by (own := [("_law_p", 3)]) (by kernel_rfl)) (fun _ _ _ _ _ => (gp_name (i := 3) sc_law_handed.nd rfl (Or.inl rfl) (by decide))) (fun _ _ _ _ _ => ts_nil) (fun _ _ _ _ _ => (q_call G_law_hand (hr.mono (by decide)) rfl (g_law_hand C) (kp_law_hand C) (bd_law_hand C) (qa_cons (qv 0) (qa_cons (qv 3) qa_nil))))) qa_nil))))))
/-! _law_number -/
theorem sc_law_number : FnScope ["_law_bag_here", "_law_way"] ["_law_bag_here"] (defScope s_law_number) := ⟨rfl, rfl, rfl, by decide +kernel, rfl, by decide +kernel, by decide +kernel⟩
theorem kp_law_number {K : PySem.W.Frag} {mg : Str → Option Value} (C : Hc K mg) : PySem.W.keepIn K (.ref (He.fAd K (("_law_number", none)))) = true := (f_law_number C).kp
theorem bd_law_number {K : PySem.W.Frag} {mg : Str → Option Value} (C : Hc K mg) : Binds K (fdAt K (("_law_number", none))) ["_law_bag_here"] [] := (f_law_number C).bindsN fun _ _ _ _ _ _ us hl => match us, hl with | [_], _ => rfl
theorem dv_law_number {P : Program} {w : World} {K : PySem.W.Frag} {mg : Str → Option Value} {base : Heap} (C : Hc K mg) (G_law_draw : FnOk P w K mg base CX0 1 (He.fAd K (("_law_draw", none))) (fdAt K (("_law_draw", none))) ["_law_bag_here", "_law_many_y"] (lSp K sp_law_draw)) (G_law_low : FnOk P w K mg base CX0 1 (He.fAd K (("_law_low", none))) (fdAt K (("_law_low", none))) ["_law_num", "_law_den"] (lSp K sp_law_low))
    (cdv : Value) (A : Around) (outer : List Env) (s : Shared) (H : Hp) (E : XK) (hr : Room 1 (A.deeper (envOfC "_law_number" (defScope s_law_number) s.heap.objs.size (He.fAd K (("_law_number", none))) cdv))) :
    QSs (cxOf CX0 P w K mg base ["_law_bag_here", "_law_way"] "_law_number" (defScope s_law_number) (He.fAd K (("_law_number", none))) cdv A outer s H E) (defBody s_law_number) (t_law_number K) :=
  (qs_cons (qs_set (i := 1) sc_law_number.nd rfl (Or.inl rfl) (q_call G_law_draw (hr.mono (by decide)) rfl (g_law_draw C) (kp_law_draw C) (bd_law_draw C) (qa_cons (qv 0) (qa_cons (qcon (.int 12) pe_int fun _ => .int _) qa_nil))))
    (qs_cons (qs_if (t_cmp (o_eq (hu64 hr)) l_eq (qv 1) (qcon (.int 11) pe_int fun _ => .int _) (nomark _)) (qs_one (qs_ret (q_tup (qa_cons (q_op op_sub l_sub (q_call G_law_draw (hr.mono (by decide)) rfl (g_law_draw C) (kp_law_draw C) (bd_law_draw C) (qa_cons (qv 0) (qa_cons (qcon (.int 2001) pe_int fun _ => .int _) qa_nil))) (qcon (.int 1000) pe_int fun _ => .int _)) (qa_cons (qcon (.int 1) pe_int fun _ => .int _) qa_nil))))) qs_nil)
    (qs_cons (qs_if (t_cmp op_gt l_gt (qv 1) (qcon (.int 7) pe_int fun _ => .int _) (nomark _)) (qs_one (qs_ret (q_call G_law_low (hr.mono (by decide)) rfl (g_law_low C) (kp_law_low C) (bd_law_low C) (qa_cons (q_op op_sub l_sub (q_call G_law_draw (hr.mono (by decide)) rfl (g_law_draw C) (kp_law_draw C) (bd_law_draw C) (qa_cons (qv 0) (qa_cons (qcon (.int 121) pe_int fun _ => .int _) qa_nil))) (qcon (.int 60) pe_int fun _ => .int _)) (qa_cons (q_opF o_addR l_addF (qcon (.int 1) pe_int fun _ => .int _) (q_call G_law_draw (hr.mono (by decide)) rfl (g_law_draw C) (kp_law_draw C) (bd_law_draw C) (qa_cons (qv 0) (qa_cons (qcon (.int 12) pe_int fun _ => .int _) qa_nil)))) qa_nil))))) qs_nil)
    (qs_one (qs_ret (q_tup (qa_cons (q_op op_sub l_sub (q_call G_law_draw (hr.mono (by decide)) rfl (g_law_draw C) (kp_law_draw C) (bd_law_draw C) (qa_cons (qv 0) (qa_cons (qcon (.int 19) pe_int fun _ => .int _) qa_nil))) (qcon (.int 9) pe_int fun _ => .int _)) (qa_cons (qcon (.int 1) pe_int fun _ => .int _) qa_nil))))))))
/-! _law_ring -/
theorem sc_law_ring : FnScope ["_law_bag_here", "_law_way", "_law_x", "_law_y", "_law_wide", "_law_tall", "_law_spots_here", "_law_top", "_law_den", "_law_at", "_law_spot"] ["_law_bag_here"] (defScope s_law_ring) := ⟨rfl, rfl, rfl, by decide +kernel, rfl, by decide +kernel, by decide +kernel⟩
theorem kp_law_ring {K : PySem.W.Frag} {mg : Str → Option Value} (C : Hc K mg) : PySem.W.keepIn K (.ref (He.fAd K (("_law_ring", none)))) = true := (f_law_ring C).kp
theorem bd_law_ring {K : PySem.W.Frag} {mg : Str → Option Value} (C : Hc K mg) : Binds K (fdAt K (("_law_ring", none))) ["_law_bag_here"] [] := (f_law_ring C).bindsN fun _ _ _ _ _ _ us hl => match us, hl with | [_], _ => rfl
theorem dv_law_ring {P : Program} {w : World} {K : PySem.W.Frag} {mg : Str → Option Value} {base : Heap} (C : Hc K mg) (G_law_draw : FnOk P w K mg base CX0 1 (He.fAd K (("_law_draw", none))) (fdAt K (("_law_draw", none))) ["_law_bag_here", "_law_many_y"] (lSp K sp_law_draw)) (G_law_of : FnOk P w K mg base CX0 2 (He.fAd K (("_law_of", none))) (fdAt K (("_law_of", none))) ["_law_bag_here", "_law_things"] (lSp K sp_law_of)) (G_law_low : FnOk P w K mg base CX0 1 (He.fAd K (("_law_low", none))) (fdAt K (("_law_low", none))) ["_law_num", "_law_den"] (lSp K sp_law_low))
    (cdv : Value) (A : Around) (outer : List Env) (s : Shared) (H : Hp) (E : XK) (hr : Room 2 (A.deeper (envOfC "_law_ring" (defScope s_law_ring) s.heap.objs.size (He.fAd K (("_law_ring", none))) cdv))) :
    QSs (cxOf CX0 P w K mg base ["_law_bag_here", "_law_way", "_law_x", "_law_y", "_law_wide", "_law_tall", "_law_spots_here", "_law_top", "_law_den", "_law_at", "_law_spot"] "_law_ring" (defScope s_law_ring) (He.fAd K (("_law_ring", none))) cdv A outer s H E) (defBody s_law_ring) (t_law_ring K) :=
  (qs_cons (qs_par3 (i := 1) (j := 2) (l := 3) rfl sc_law_ring.nd rfl rfl rfl (by decide) (by decide) (by decide) rfl rfl rfl (qa_cons (q_call G_law_draw (hr.mono (by decide)) rfl (g_law_draw C) (kp_law_draw C) (bd_law_draw C) (qa_cons (qv 0) (qa_cons (qcon (.int 4) pe_int fun _ => .int _) qa_nil))) (qa_cons (q_call G_law_draw (hr.mono (by decide)) rfl (g_law_draw C) (kp_law_draw C) (bd_law_draw C) (qa_cons (qv 0) (qa_cons (qcon (.int 4) pe_int fun _ => .int _) qa_nil))) (qa_cons (q_call G_law_draw (hr.mono (by decide)) rfl (g_law_draw C) (kp_law_draw C) (bd_law_draw C) (qa_cons (qv 0) (qa_cons (qcon (.int 4) pe_int fun _ => .int _) qa_nil))) qa_nil))) (by rfl))
    (qs_cons (qs_par (i := 4) (j := 5) rfl sc_law_ring.nd rfl rfl (by decide) rfl rfl (qa_cons (q_opF o_addR l_addF (qcon (.int 1) pe_int fun _ => .int _) (q_call G_law_draw (hr.mono (by decide)) rfl (g_law_draw C) (kp_law_draw C) (bd_law_draw C) (qa_cons (qv 0) (qa_cons (qcon (.int 5) pe_int fun _ => .int _) qa_nil)))) (qa_cons (q_opF o_addR l_addF (qcon (.int 1) pe_int fun _ => .int _) (q_call G_law_draw (hr.mono (by decide)) rfl (g_law_draw C) (kp_law_draw C) (bd_law_draw C) (qa_cons (qv 0) (qa_cons (qcon (.int 5) pe_int fun _ => .int _) qa_nil)))) qa_nil)) (by rfl))
    (qs_cons (qs_if (t_cmp op_lt l_lt (qv 1) (qcon (.int 2) pe_int fun _ => .int _) (nomark _)) (qs_one (qs_set (i := 6) sc_law_ring.nd rfl (Or.inl rfl) (q_lstF (qa_cons (q_tup (qa_cons (qv 2) (qa_cons (qv 3) qa_nil))) (qa_cons (q_tup (qa_cons (q_opF o_addR l_addF (qv 2) (qv 4)) (qa_cons (qv 3) qa_nil))) (qa_cons (q_tup (qa_cons (q_opF o_addR l_addF (qv 2) (qv 4)) (qa_cons (q_opF o_addR l_addF (qv 3) (qv 5)) qa_nil))) (qa_cons (q_tup (qa_cons (qv 2) (qa_cons (q_opF o_addR l_addF (qv 3) (qv 5)) qa_nil))) qa_nil))))))) (qs_one (qs_if (t_cmp (o_eq (hu64 hr)) l_eq (qv 1) (qcon (.int 2) pe_int fun _ => .int _) (nomark _)) (qs_one (qs_set (i := 6) sc_law_ring.nd rfl (Or.inl rfl) (q_lstF (qa_cons (q_tup (qa_cons (qv 2) (qa_cons (qv 3) qa_nil))) (qa_cons (q_tup (qa_cons (q_opF o_addR l_addF (qv 2) (qv 4)) (qa_cons (q_opF o_addR l_addF (qv 3) (q_call G_law_draw (hr.mono (by decide)) rfl (g_law_draw C) (kp_law_draw C) (bd_law_draw C) (qa_cons (qv 0) (qa_cons (qv 5) qa_nil)))) qa_nil))) (qa_cons (q_tup (qa_cons (q_op op_sub l_sub (q_opF o_addR l_addF (qv 2) (q_call G_law_draw (hr.mono (by decide)) rfl (g_law_draw C) (kp_law_draw C) (bd_law_draw C) (qa_cons (qv 0) (qa_cons (q_opF o_addR l_addF (qv 4) (qcon (.int 3) pe_int fun _ => .int _)) qa_nil)))) (qcon (.int 3) pe_int fun _ => .int _)) (qa_cons (q_opF o_addR l_addF (qv 3) (qv 5)) qa_nil))) qa_nil)))))) (qs_cons (qs_set (i := 7) sc_law_ring.nd rfl (Or.inl rfl) (q_tup (qa_cons (q_opF o_addR l_addF (qv 2) (q_call G_law_draw (hr.mono (by decide)) rfl (g_law_draw C) (kp_law_draw C) (bd_law_draw C) (qa_cons (qv 0) (qa_cons (q_opF o_addR l_addF (qv 4) (qcon (.int 1) pe_int fun _ => .int _)) qa_nil)))) (qa_cons (q_opF o_addR l_addF (q_opF o_addR l_addF (q_opF o_addR l_addF (qv 3) (qv 5)) (qcon (.int 1) pe_int fun _ => .int _)) (q_call G_law_draw (hr.mono (by decide)) rfl (g_law_draw C) (kp_law_draw C) (bd_law_draw C) (qa_cons (qv 0) (qa_cons (qcon (.int 2) pe_int fun _ => .int _) qa_nil)))) qa_nil))))
    (qs_one (qs_set (i := 6) sc_law_ring.nd rfl (Or.inl rfl) (q_lstF (qa_cons (q_tup (qa_cons (qv 2) (qa_cons (qv 3) qa_nil))) (qa_cons (q_tup (qa_cons (q_opF o_addR l_addF (qv 2) (qv 4)) (qa_cons (qv 3) qa_nil))) (qa_cons (q_tup (qa_cons (q_opF o_addR l_addF (qv 2) (qv 4)) (qa_cons (q_opF o_addR l_addF (qv 3) (qv 5)) qa_nil))) (qa_cons (qv 7) (qa_cons (q_tup (qa_cons (qv 2) (qa_cons (q_opF o_addR l_addF (qv 3) (qv 5)) qa_nil))) qa_nil))))))))))))
    (qs_cons (qs_set (i := 8) sc_law_ring.nd rfl (Or.inr rfl) (q_call G_law_of (hr.mono (by decide)) rfl (g_law_of C) (kp_law_of C) (bd_law_of C) (qa_cons (qv 0) (qa_cons (q_lstF (qa_cons (qcon (.int 1) pe_int fun _ => .int _) (qa_cons (qcon (.int 1) pe_int fun _ => .int _) (qa_cons (qcon (.int 1) pe_int fun _ => .int _) (qa_cons (qcon (.int 1) pe_int fun _ => .int _) (qa_cons (qcon (.int 1) pe_int fun _ => .int _) (qa_cons (qcon (.int 1) pe_int fun _ => .int _) (qa_cons (qcon (.int 2) pe_int fun _ => .int _) (qa_cons (qcon (.int 3) pe_int fun _ => .int _) qa_nil))))))))) qa_nil))))
    (qs_cons (qs_set (i := 9) sc_law_ring.nd rfl (Or.inl rfl) (q_call G_law_draw (hr.mono (by decide)) rfl (g_law_draw C) (kp_law_draw C) (bd_law_draw C) (qa_cons (qv 0) (qa_cons (q_cb call_len l_len (by rfl) (fr_len C) PySem.boot_len (qa_cons (qv 6) qa_nil)) qa_nil))))
    (qs_one (qs_ret (q_lcF (own := [("_law_spot", 10)]) rfl sc_law_ring.nd (i_seq (q_opF o_addR l_addF (q_slF (qv 6) (o_some (qv 9)) o_none) (q_slF (qv 6) o_none (o_some (qv 9))))) (blkOk_by (own := [("_law_spot", 10)]) (by kernel_rfl)) (fun _ _ _ _ _ => (gp_name (i := 10) sc_law_ring.nd rfl (Or.inl rfl) (by decide))) (fun _ _ _ _ _ => ts_nil) (fun _ _ _ _ _ => (q_tup (qa_cons (q_call G_law_low (hr.mono (by decide)) rfl (g_law_low C) (kp_law_low C) (bd_law_low C) (qa_cons (q_ixk 0 (qv 10) pe_int) (qa_cons (qv 8) qa_nil))) (qa_cons (q_call G_law_low (hr.mono (by decide)) rfl (g_law_low C) (kp_law_low C) (bd_law_low C) (qa_cons (q_ixk 1 (qv 10) pe_int) (qa_cons (qv 8) qa_nil))) qa_nil))))))))))))
/-! _law_loft -/
theorem sc_law_loft : FnScope ["_law_base", "_law_low_here", "_law_cap", "_law_high", "_law_m", "_law_found", "_law_i", "_law_j", "_law_spot"] ["_law_base", "_law_low_here", "_law_cap", "_law_high"] (defScope s_law_loft) := ⟨rfl, rfl, rfl, by decide +kernel, rfl, by decide +kernel, by decide +kernel⟩
theorem kp_law_loft {K : PySem.W.Frag} {mg : Str → Option Value} (C : Hc K mg) : PySem.W.keepIn K (.ref (He.fAd K (("_law_loft", none)))) = true := (f_law_loft C).kp
theorem bd_law_loft {K : PySem.W.Frag} {mg : Str → Option Value} (C : Hc K mg) : Binds K (fdAt K (("_law_loft", none))) ["_law_base", "_law_low_here", "_law_cap", "_law_high"] [] := (f_law_loft C).bindsN fun _ _ _ _ _ _ us hl => match us, hl with | [_, _, _, _], _ => rfl
theorem dv_law_loft {P : Program} {w : World} {K : PySem.W.Frag} {mg : Str → Option Value} {base : Heap} (C : Hc K mg) 
    (cdv : Value) (A : Around) (outer : List Env) (s : Shared) (H : Hp) (E : XK) (hr : Room 0 (A.deeper (envOfC "_law_loft" (defScope s_law_loft) s.heap.objs.size (He.fAd K (("_law_loft", none))) cdv))) :
    QSs (cxOf CX0 P w K mg base ["_law_base", "_law_low_here", "_law_cap", "_law_high", "_law_m", "_law_found", "_law_i", "_law_j", "_law_spot"] "_law_loft" (defScope s_law_loft) (He.fAd K (("_law_loft", none))) cdv A outer s H E) (defBody s_law_loft) (t_law_loft K) :=
  (qs_cons (qs_set (i := 4) sc_law_loft.nd rfl (Or.inl rfl) (q_cb call_len l_len (by rfl) (fr_len C) PySem.boot_len (qa_cons (qv 0) qa_nil)))
    (qs_cons (qs_set (i := 5) sc_law_loft.nd rfl (Or.inl rfl) (q_lst qa_nil))
    (qs_cons (qs_for hpN rfl (i_rng1 (qv 4) rfl (fr_range C)) (g_name (i := 6) sc_law_loft.nd rfl (Or.inl rfl)) (qs_cons (qs_set (i := 7) sc_law_loft.nd rfl (Or.inl rfl) (q_op op_modN l_mod (q_cty call_int1 l_intc (by rfl) (fr_int C) (by decide +kernel) (qa_cons (q_opF o_addR l_addF (qv 6) (qcon (.int 1) pe_int fun _ => .int _)) qa_nil)) (qv 4)))
    (qs_one (qs_set (i := 5) sc_law_loft.nd rfl (Or.inl rfl) (q_op o_addR l_addM (qv 5) (q_lstF (qa_cons (q_tup (qa_cons (qv 6) (qa_cons (qv 7) (qa_cons (q_opF o_addR l_addF (qv 4) (qv 7)) qa_nil)))) (qa_cons (q_tup (qa_cons (qv 6) (qa_cons (q_opF o_addR l_addF (qv 4) (qv 7)) (qa_cons (q_opF o_addR l_addF (qv 4) (qv 6)) qa_nil)))) qa_nil))))))))
    (qs_cons (qs_for hpN rfl (i_rng2 (qcon (.int 1) pe_int fun _ => .int _) (q_op op_sub l_sub (qv 4) (qcon (.int 1) pe_int fun _ => .int _)) rfl (fr_range C)) (g_name (i := 7) sc_law_loft.nd rfl (Or.inl rfl)) (qs_one (qs_expr (q_bm PySem.F.plainAttrs_list PySem.F.slot_list_append PySem.F.type_list_append mt_append l_append (qv 5) (qa_cons (q_tup (qa_cons (qcon (.int 0) pe_int fun _ => .int _) (qa_cons (q_opF o_addR l_addF (qv 7) (qcon (.int 1) pe_int fun _ => .int _)) (qa_cons (qv 7) qa_nil)))) qa_nil)))))
    (qs_cons (qs_for hpN rfl (i_rng2 (qcon (.int 1) pe_int fun _ => .int _) (q_op op_sub l_sub (qv 4) (qcon (.int 1) pe_int fun _ => .int _)) rfl (fr_range C)) (g_name (i := 7) sc_law_loft.nd rfl (Or.inl rfl)) (qs_one (qs_expr (q_bm PySem.F.plainAttrs_list PySem.F.slot_list_append PySem.F.type_list_append mt_append l_append (qv 5) (qa_cons (q_tup (qa_cons (qv 4) (qa_cons (q_opF o_addR l_addF (qv 4) (qv 7)) (qa_cons (q_opF o_addR l_addF (q_opF o_addR l_addF (qv 4) (qv 7)) (qcon (.int 1) pe_int fun _ => .int _)) qa_nil)))) qa_nil)))))
    (qs_one (qs_ret (q_lstF (qa_cons (q_opF o_addR l_addF (q_lcF (own := [("_law_spot", 8)]) rfl sc_law_loft.nd (i_seq (qv 0)) (blkOk_by (own := [("_law_spot", 8)]) (by kernel_rfl)) (fun _ _ _ _ _ => (gp_name (i := 8) sc_law_loft.nd rfl (Or.inl rfl) (by decide))) (fun _ _ _ _ _ => ts_nil) (fun _ _ _ _ _ => (q_tup (qa_cons (q_ixk 0 (qv 8) pe_int) (qa_cons (q_ixk 1 (qv 8) pe_int) (qa_cons (qv 1) qa_nil)))))) (q_lcF (own := [("_law_spot", 8)]) rfl sc_law_loft.nd (i_seq (qv 2)) (blkOk_by (own := [("_law_spot", 8)]) (by kernel_rfl)) (fun _ _ _ _ _ => (gp_name (i := 8) sc_law_loft.nd rfl (Or.inl rfl) (by decide))) (fun _ _ _ _ _ => ts_nil) (fun _ _ _ _ _ => (q_tup (qa_cons (q_ixk 0 (qv 8) pe_int) (qa_cons (q_ixk 1 (qv 8) pe_int) (qa_cons (qv 3) qa_nil))))))) (qa_cons (q_fz (qv 5)) qa_nil))))))))))
/-! _law_area -/
theorem sc_law_area : FnScope ["_law_ring_here", "_law_found", "_law_k", "_law_p", "_law_q"] ["_law_ring_here"] (defScope s_law_area) := ⟨rfl, rfl, rfl, by decide +kernel, rfl, by decide +kernel, by decide +kernel⟩
theorem kp_law_area {K : PySem.W.Frag} {mg : Str → Option Value} (C : Hc K mg) : PySem.W.keepIn K (.ref (He.fAd K (("_law_area", none)))) = true := (f_law_area C).kp
theorem bd_law_area {K : PySem.W.Frag} {mg : Str → Option Value} (C : Hc K mg) : Binds K (fdAt K (("_law_area", none))) ["_law_ring_here"] [] := (f_law_area C).bindsN fun _ _ _ _ _ _ us hl => match us, hl with | [_], _ => rfl
theorem dv_law_area {P : Program} {w : World} {K : PySem.W.Frag} {mg : Str → Option Value} {base : Heap} (C : Hc K mg) (G_law_add : FnOk P w K mg base CX0 2 (He.fAd K (("_law_add", none))) (fdAt K (("_law_add", none))) ["_law_p", "_law_q"] (lSp K sp_law_add)) (G_law_sub : FnOk P w K mg base CX0 3 (He.fAd K (("_law_sub", none))) (fdAt K (("_law_sub", none))) ["_law_p", "_law_q"] (lSp K sp_law_sub)) (G_law_mul : FnOk P w K mg base CX0 2 (He.fAd K (("_law_mul", none))) (fdAt K (("_law_mul", none))) ["_law_p", "_law_q"] (lSp K sp_law_mul))
    (cdv : Value) (A : Around) (outer : List Env) (s : Shared) (H : Hp) (E : XK) (hr : Room 3 (A.deeper (envOfC "_law_area" (defScope s_law_area) s.heap.objs.size (He.fAd K (("_law_area", none))) cdv))) :
    QSs (cxOf CX0 P w K mg base ["_law_ring_here", "_law_found", "_law_k", "_law_p", "_law_q"] "_law_area" (defScope s_law_area) (He.fAd K (("_law_area", none))) cdv A outer s H E) (defBody s_law_area) (t_law_area K) :=
  (qs_cons (qs_set (i := 1) sc_law_area.nd rfl (Or.inl rfl) (q_tup (qa_cons (qcon (.int 0) pe_int fun _ => .int _) (qa_cons (qcon (.int 1) pe_int fun _ => .int _) qa_nil))))
    (qs_cons (qs_for hpN rfl (i_rng1 (q_cb call_len l_len (by rfl) (fr_len C) PySem.boot_len (qa_cons (qv 0) qa_nil)) rfl (fr_range C)) (g_name (i := 2) sc_law_area.nd rfl (Or.inl rfl)) (qs_cons (qs_par (i := 3) (j := 4) rfl sc_law_area.nd rfl rfl (by decide) rfl rfl (qa_cons (q_ix (qv 0) (q_op op_sub l_sub (qv 2) (qcon (.int 1) pe_int fun _ => .int _))) (qa_cons (q_ix (qv 0) (qv 2)) qa_nil)) (by rfl))
    (qs_one (qs_set (i := 1) sc_law_area.nd rfl (Or.inl rfl) (q_call G_law_add (hr.mono (by decide)) rfl (g_law_add C) (kp_law_add C) (bd_law_add C) (qa_cons (qv 1) (qa_cons (q_call G_law_sub (hr.mono (by decide)) rfl (g_law_sub C) (kp_law_sub C) (bd_law_sub C) (qa_cons (q_call G_law_mul (hr.mono (by decide)) rfl (g_law_mul C) (kp_law_mul C) (bd_law_mul C) (qa_cons (q_ixk 0 (qv 3) pe_int) (qa_cons (q_ixk 1 (qv 4) pe_int) qa_nil))) (qa_cons (q_call G_law_mul (hr.mono (by decide)) rfl (g_law_mul C) (kp_law_mul C) (bd_law_mul C) (qa_cons (q_ixk 0 (qv 4) pe_int) (qa_cons (q_ixk 1 (qv 3) pe_int) qa_nil))) qa_nil))) qa_nil)))))))
    (qs_one (qs_ret (q_call G_law_mul (hr.mono (by decide)) rfl (g_law_mul C) (kp_law_mul C) (bd_law_mul C) (qa_cons (qv 1) (qa_cons (q_tup (qa_cons (qcon (.int 1) pe_int fun _ => .int _) (qa_cons (qcon (.int 2) pe_int fun _ => .int _) qa_nil))) qa_nil)))))))
/-! _law_det -/
theorem sc_law_det : FnScope ["_law_a", "_law_b", "_law_third", "_law_found", "_law_k", "_law_i", "_law_j", "_law_minor"] ["_law_a", "_law_b", "_law_third"] (defScope s_law_det) := ⟨rfl, rfl, rfl, by decide +kernel, rfl, by decide +kernel, by decide +kernel⟩
theorem kp_law_det {K : PySem.W.Frag} {mg : Str → Option Value} (C : Hc K mg) : PySem.W.keepIn K (.ref (He.fAd K (("_law_det", none)))) = true := (f_law_det C).kp
theorem bd_law_det {K : PySem.W.Frag} {mg : Str → Option Value} (C : Hc K mg) : Binds K (fdAt K (("_law_det", none))) ["_law_a", "_law_b", "_law_third"] [] := (f_law_det C).bindsN fun _ _ _ _ _ _ us hl => match us, hl with | [_, _, _], _ => rfl
theorem dv_law_det {P : Program} {w : World} {K : PySem.W.Frag} {mg : Str → Option Value} {base : Heap} (C : Hc K mg) (G_law_sub : FnOk P w K mg base CX0 3 (He.fAd K (("_law_sub", none))) (fdAt K (("_law_sub", none))) ["_law_p", "_law_q"] (lSp K sp_law_sub)) (G_law_mul : FnOk P w K mg base CX0 2 (He.fAd K (("_law_mul", none))) (fdAt K (("_law_mul", none))) ["_law_p", "_law_q"] (lSp K sp_law_mul)) (G_law_add : FnOk P w K mg base CX0 2 (He.fAd K (("_law_add", none))) (fdAt K (("_law_add", none))) ["_law_p", "_law_q"] (lSp K sp_law_add))
    (cdv : Value) (A : Around) (outer : List Env) (s : Shared) (H : Hp) (E : XK) (hr : Room 3 (A.deeper (envOfC "_law_det" (defScope s_law_det) s.heap.objs.size (He.fAd K (("_law_det", none))) cdv))) :
    QSs (cxOf CX0 P w K mg base ["_law_a", "_law_b", "_law_third", "_law_found", "_law_k", "_law_i", "_law_j", "_law_minor"] "_law_det" (defScope s_law_det) (He.fAd K (("_law_det", none))) cdv A outer s H E) (defBody s_law_det) (t_law_det K) :=
  (qs_cons (qs_set (i := 3) sc_law_det.nd rfl (Or.inl rfl) (q_tup (qa_cons (qcon (.int 0) pe_int fun _ => .int _) (qa_cons (qcon (.int 1) pe_int fun _ => .int _) qa_nil))))
    (qs_cons (qs_for hpN rfl (i_rng1 (qcon (.int 3) pe_int fun _ => .int _) rfl (fr_range C)) (g_name (i := 4) sc_law_det.nd rfl (Or.inl rfl)) (qs_cons (qs_par (i := 5) (j := 6) rfl sc_law_det.nd rfl rfl (by decide) rfl rfl (qa_cons (q_op op_modN l_mod (q_cty call_int1 l_intc (by rfl) (fr_int C) (by decide +kernel) (qa_cons (q_opF o_addR l_addF (qv 4) (qcon (.int 1) pe_int fun _ => .int _)) qa_nil)) (qcon (.int 3) pe_int fun _ => .int _)) (qa_cons (q_op op_modN l_mod (q_cty call_int1 l_intc (by rfl) (fr_int C) (by decide +kernel) (qa_cons (q_opF o_addR l_addF (qv 4) (qcon (.int 2) pe_int fun _ => .int _)) qa_nil)) (qcon (.int 3) pe_int fun _ => .int _)) qa_nil)) (by rfl))
    (qs_cons (qs_set (i := 7) sc_law_det.nd rfl (Or.inl rfl) (q_call G_law_sub (hr.mono (by decide)) rfl (g_law_sub C) (kp_law_sub C) (bd_law_sub C) (qa_cons (q_call G_law_mul (hr.mono (by decide)) rfl (g_law_mul C) (kp_law_mul C) (bd_law_mul C) (qa_cons (q_ix (qv 1) (qv 5)) (qa_cons (q_ix (qv 2) (qv 6)) qa_nil))) (qa_cons (q_call G_law_mul (hr.mono (by decide)) rfl (g_law_mul C) (kp_law_mul C) (bd_law_mul C) (qa_cons (q_ix (qv 1) (qv 6)) (qa_cons (q_ix (qv 2) (qv 5)) qa_nil))) qa_nil))))
    (qs_one (qs_set (i := 3) sc_law_det.nd rfl (Or.inl rfl) (q_call G_law_add (hr.mono (by decide)) rfl (g_law_add C) (kp_law_add C) (bd_law_add C) (qa_cons (qv 3) (qa_cons (q_call G_law_mul (hr.mono (by decide)) rfl (g_law_mul C) (kp_law_mul C) (bd_law_mul C) (qa_cons (q_ix (qv 0) (qv 4)) (qa_cons (qv 7) qa_nil))) qa_nil))))))))
    (qs_one (qs_ret (qv 3)))))
/-! _law_volume -/
theorem sc_law_volume : FnScope ["_law_pair", "_law_found", "_law_face"] ["_law_pair"] (defScope s_law_volume) := ⟨rfl, rfl, rfl, by decide +kernel, rfl, by decide +kernel, by decide +kernel⟩
theorem kp_law_volume {K : PySem.W.Frag} {mg : Str → Option Value} (C : Hc K mg) : PySem.W.keepIn K (.ref (He.fAd K (("_law_volume", none)))) = true := (f_law_volume C).kp
theorem bd_law_volume {K : PySem.W.Frag} {mg : Str → Option Value} (C : Hc K mg) : Binds K (fdAt K (("_law_volume", none))) ["_law_pair"] [] := (f_law_volume C).bindsN fun _ _ _ _ _ _ us hl => match us, hl with | [_], _ => rfl
theorem dv_law_volume {P : Program} {w : World} {K : PySem.W.Frag} {mg : Str → Option Value} {base : Heap} (C : Hc K mg) (G_law_add : FnOk P w K mg base CX0 2 (He.fAd K (("_law_add", none))) (fdAt K (("_law_add", none))) ["_law_p", "_law_q"] (lSp K sp_law_add)) (G_law_det : FnOk P w K mg base CX0 4 (He.fAd K (("_law_det", none))) (fdAt K (("_law_det", none))) ["_law_a", "_law_b", "_law_third"] (lSp K sp_law_det)) (G_law_mul : FnOk P w K mg base CX0 2 (He.fAd K (("_law_mul", none))) (fdAt K (("_law_mul", none))) ["_law_p", "_law_q"] (lSp K sp_law_mul))
    (cdv : Value) (A : Around) (outer : List Env) (s : Shared) (H : Hp) (E : XK) (hr : Room 4 (A.deeper (envOfC "_law_volume" (defScope s_law_volume) s.heap.objs.size (He.fAd K (("_law_volume", none))) cdv))) :
    QSs (cxOf CX0 P w K mg base ["_law_pair", "_law_found", "_law_face"] "_law_volume" (defScope s_law_volume) (He.fAd K (("_law_volume", none))) cdv A outer s H E) (defBody s_law_volume) (t_law_volume K) :=
  (qs_cons (qs_set (i := 1) sc_law_volume.nd rfl (Or.inl rfl) (q_tup (qa_cons (qcon (.int 0) pe_int fun _ => .int _) (qa_cons (qcon (.int 1) pe_int fun _ => .int _) qa_nil))))
    (qs_cons (qs_for hpN rfl (i_seq (q_ixk 1 (qv 0) pe_int)) (g_name (i := 2) sc_law_volume.nd rfl (Or.inl rfl)) (qs_one (qs_set (i := 1) sc_law_volume.nd rfl (Or.inl rfl) (q_call G_law_add (hr.mono (by decide)) rfl (g_law_add C) (kp_law_add C) (bd_law_add C) (qa_cons (qv 1) (qa_cons (q_call G_law_det (hr.mono (by decide)) rfl (g_law_det C) (kp_law_det C) (bd_law_det C) (qa_cons (q_ix (q_ixk 0 (qv 0) pe_int) (q_ixk 0 (qv 2) pe_int)) (qa_cons (q_ix (q_ixk 0 (qv 0) pe_int) (q_ixk 1 (qv 2) pe_int)) (qa_cons (q_ix (q_ixk 0 (qv 0) pe_int) (q_ixk 2 (qv 2) pe_int)) qa_nil)))) qa_nil))))))
    (qs_one (qs_ret (q_call G_law_mul (hr.mono (by decide)) rfl (g_law_mul C) (kp_law_mul C) (bd_law_mul C) (qa_cons (qv 1) (qa_cons (q_tup (qa_cons (qcon (.int 1) pe_int fun _ => .int _) (qa_cons (qcon (.int 6) pe_int fun _ => .int _) qa_nil))) qa_nil)))))))
/-! _law_spots -/
theorem sc_law_spots : FnScope ["_law_bag_here", "_law_m", "_law_found", "_law_k"] ["_law_bag_here", "_law_m"] (defScope s_law_spots) := ⟨rfl, rfl, rfl, by decide +kernel, rfl, by decide +kernel, by decide +kernel⟩
theorem kp_law_spots {K : PySem.W.Frag} {mg : Str → Option Value} (C : Hc K mg) : PySem.W.keepIn K (.ref (He.fAd K (("_law_spots", none)))) = true := (f_law_spots C).kp
theorem bd_law_spots {K : PySem.W.Frag} {mg : Str → Option Value} (C : Hc K mg) : Binds K (fdAt K (("_law_spots", none))) ["_law_bag_here", "_law_m"] [] := (f_law_spots C).bindsN fun _ _ _ _ _ _ us hl => match us, hl with | [_, _], _ => rfl
theorem dv_law_spots {P : Program} {w : World} {K : PySem.W.Frag} {mg : Str → Option Value} {base : Heap} (C : Hc K mg) (G_law_draw : FnOk P w K mg base CX0 1 (He.fAd K (("_law_draw", none))) (fdAt K (("_law_draw", none))) ["_law_bag_here", "_law_many_y"] (lSp K sp_law_draw)) (G_law_number : FnOk P w K mg base CX0 2 (He.fAd K (("_law_number", none))) (fdAt K (("_law_number", none))) ["_law_bag_here"] (lSp K sp_law_number))
    (cdv : Value) (A : Around) (outer : List Env) (s : Shared) (H : Hp) (E : XK) (hr : Room 2 (A.deeper (envOfC "_law_spots" (defScope s_law_spots) s.heap.objs.size (He.fAd K (("_law_spots", none))) cdv))) :
    QSs (cxOf CX0 P w K mg base ["_law_bag_here", "_law_m", "_law_found", "_law_k"] "_law_spots" (defScope s_law_spots) (He.fAd K (("_law_spots", none))) cdv A outer s H E) (defBody s_law_spots) (t_law_spots K) :=
  (qs_cons (qs_set (i := 2) sc_law_spots.nd rfl (Or.inl rfl) (q_lst qa_nil))
    (qs_cons (qs_for hpN rfl (i_rng1 (qv 1) rfl (fr_range C)) (g_name (i := 3) sc_law_spots.nd rfl (Or.inl rfl)) (qs_one (qs_if (tw (tw_and (t_cmp op_gt l_gt (qv 3) (qcon (.int 0) pe_int fun _ => .int _) (nomark _)) (tw_and1 (t_cmp (o_eq (hu64 hr)) l_eq (q_call G_law_draw (hr.mono (by decide)) rfl (g_law_draw C) (kp_law_draw C) (bd_law_draw C) (qa_cons (qv 0) (qa_cons (qcon (.int 5) pe_int fun _ => .int _) qa_nil))) (qcon (.int 0) pe_int fun _ => .int _) (nomark _))))) (qs_one (qs_expr (q_bm PySem.F.plainAttrs_list PySem.F.slot_list_append PySem.F.type_list_append mt_append l_append (qv 2) (qa_cons (q_ix (qv 2) (q_call G_law_draw (hr.mono (by decide)) rfl (g_law_draw C) (kp_law_draw C) (bd_law_draw C) (qa_cons (qv 0) (qa_cons (qv 3) qa_nil)))) qa_nil)))) (qs_one (qs_expr (q_bm PySem.F.plainAttrs_list PySem.F.slot_list_append PySem.F.type_list_append mt_append l_append (qv 2) (qa_cons (q_tup (qa_cons (q_call G_law_number (hr.mono (by decide)) rfl (g_law_number C) (kp_law_number C) (bd_law_number C) (qa_cons (qv 0) qa_nil)) (qa_cons (q_call G_law_number (hr.mono (by decide)) rfl (g_law_number C) (kp_law_number C) (bd_law_number C) (qa_cons (qv 0) qa_nil)) qa_nil))) qa_nil)))))))
    (qs_one (qs_ret (q_fz (qv 2))))))
/-! _law_heights -/
theorem sc_law_heights : FnScope ["_law_bag_here", "_law_one", "_law_two"] ["_law_bag_here"] (defScope s_law_heights) := ⟨rfl, rfl, rfl, by decide +kernel, rfl, by decide +kernel, by decide +kernel⟩
theorem kp_law_heights {K : PySem.W.Frag} {mg : Str → Option Value} (C : Hc K mg) : PySem.W.keepIn K (.ref (He.fAd K (("_law_heights", none)))) = true := (f_law_heights C).kp
theorem bd_law_heights {K : PySem.W.Frag} {mg : Str → Option Value} (C : Hc K mg) : Binds K (fdAt K (("_law_heights", none))) ["_law_bag_here"] [] := (f_law_heights C).bindsN fun _ _ _ _ _ _ us hl => match us, hl with | [_], _ => rfl
theorem dv_law_heights {P : Program} {w : World} {K : PySem.W.Frag} {mg : Str → Option Value} {base : Heap} (C : Hc K mg) (G_law_number : FnOk P w K mg base CX0 2 (He.fAd K (("_law_number", none))) (fdAt K (("_law_number", none))) ["_law_bag_here"] (lSp K sp_law_number)) (G_law_lt : FnOk P w K mg base CX0 1 (He.fAd K (("_law_lt", none))) (fdAt K (("_law_lt", none))) ["_law_p", "_law_q"] (lSp K sp_law_lt)) (G_law_draw : FnOk P w K mg base CX0 1 (He.fAd K (("_law_draw", none))) (fdAt K (("_law_draw", none))) ["_law_bag_here", "_law_many_y"] (lSp K sp_law_draw))
    (cdv : Value) (A : Around) (outer : List Env) (s : Shared) (H : Hp) (E : XK) (hr : Room 2 (A.deeper (envOfC "_law_heights" (defScope s_law_heights) s.heap.objs.size (He.fAd K (("_law_heights", none))) cdv))) :
    QSs (cxOf CX0 P w K mg base ["_law_bag_here", "_law_one", "_law_two"] "_law_heights" (defScope s_law_heights) (He.fAd K (("_law_heights", none))) cdv A outer s H E) (defBody s_law_heights) (t_law_heights K) :=
  (qs_cons (qs_par (i := 1) (j := 2) rfl sc_law_heights.nd rfl rfl (by decide) rfl rfl (qa_cons (q_call G_law_number (hr.mono (by decide)) rfl (g_law_number C) (kp_law_number C) (bd_law_number C) (qa_cons (qv 0) qa_nil)) (qa_cons (q_call G_law_number (hr.mono (by decide)) rfl (g_law_number C) (kp_law_number C) (bd_law_number C) (qa_cons (qv 0) qa_nil)) qa_nil)) (by rfl))
    (qs_cons (qs_if (tw (tw_and (t_cmp op_gt l_gt (q_call G_law_draw (hr.mono (by decide)) rfl (g_law_draw C) (kp_law_draw C) (bd_law_draw C) (qa_cons (qv 0) (qa_cons (qcon (.int 6) pe_int fun _ => .int _) qa_nil))) (qcon (.int 0) pe_int fun _ => .int _) (nomark _)) (tw_and1 (t_tru (q_call G_law_lt (hr.mono (by decide)) rfl (g_law_lt C) (kp_law_lt C) (bd_law_lt C) (qa_cons (qv 2) (qa_cons (qv 1) qa_nil))))))) (qs_one (qs_ret (q_tup (qa_cons (qv 2) (qa_cons (qv 1) qa_nil))))) qs_nil)
    (qs_one (qs_ret (q_tup (qa_cons (qv 1) (qa_cons (qv 2) qa_nil)))))))
/-! _law_right -/
theorem sc_law_right : FnScope ["_law_made", "_law_pair"] ["_law_made", "_law_pair"] (defScope s_law_right) := ⟨rfl, rfl, rfl, by decide +kernel, rfl, by decide +kernel, by decide +kernel⟩
theorem kp_law_right {K : PySem.W.Frag} {mg : Str → Option Value} (C : Hc K mg) : PySem.W.keepIn K (.ref (He.fAd K (("_law_right", none)))) = true := (f_law_right C).kp
theorem bd_law_right {K : PySem.W.Frag} {mg : Str → Option Value} (C : Hc K mg) : Binds K (fdAt K (("_law_right", none))) ["_law_made", "_law_pair"] [] := (f_law_right C).bindsN fun _ _ _ _ _ _ us hl => match us, hl with | [_, _], _ => rfl
theorem dv_law_right {P : Program} {w : World} {K : PySem.W.Frag} {mg : Str → Option Value} {base : Heap} (C : Hc K mg) (G_law_same : FnOk P w K mg base CX0 6 (He.fAd K (("_law_same", none))) (fdAt K (("_law_same", none))) ["_law_found", "_law_due"] (lSp K sp_law_same)) (G_law_volume : FnOk P w K mg base CX0 5 (He.fAd K (("_law_volume", none))) (fdAt K (("_law_volume", none))) ["_law_pair"] (lSp K sp_law_volume)) (G_volume : FnOk P w K mg base CX0 4 (He.fAd K (("volume", none))) (fdAt K (("volume", none))) ["net"] (lSp K (sp_volume K))) (G_open_edges : FnOk P w K mg base CX0 3 (He.fAd K (("open_edges", none))) (fdAt K (("open_edges", none))) ["net"] (lSp K (sp_open_edges K))) (G_is_closed : FnOk P w K mg base CX0 4 (He.fAd K (("is_closed", none))) (fdAt K (("is_closed", none))) ["net"] (lSp K (sp_is_closed K)))
    (cdv : Value) (A : Around) (outer : List Env) (s : Shared) (H : Hp) (E : XK) (hr : Room 6 (A.deeper (envOfC "_law_right" (defScope s_law_right) s.heap.objs.size (He.fAd K (("_law_right", none))) cdv))) :
    QSs (cxOf CX0 P w K mg base ["_law_made", "_law_pair"] "_law_right" (defScope s_law_right) (He.fAd K (("_law_right", none))) cdv A outer s H E) (defBody s_law_right) (t_law_right K) :=
  (qs_cons (qs_if (t_not (t_tru (q_call G_law_same (hr.mono (by decide)) rfl (g_law_same C) (kp_law_same C) (bd_law_same C) (qa_cons (q_lstF (qa_cons (q_fldF (qv 0)) (qa_cons (q_fldF (qv 0)) qa_nil))) (qa_cons (q_lstF (qa_cons (q_cty call_tuple_of l_tuple (by rfl) (fr_tuple C) (by decide +kernel) (qa_cons (q_ixk 0 (qv 1) pe_int) qa_nil)) (qa_cons (q_cty call_tuple_of l_tuple (by rfl) (fr_tuple C) (by decide +kernel) (qa_cons (q_ixk 1 (qv 1) pe_int) qa_nil)) qa_nil))) qa_nil))))) (qs_one (qs_ret (qcon (.bl false) pe_bl fun _ => .bl _))) qs_nil)
    (qs_one (qs_ret (q_call G_law_same (hr.mono (by decide)) rfl (g_law_same C) (kp_law_same C) (bd_law_same C) (qa_cons (q_lstF (qa_cons (q_call G_is_closed (hr.mono (by decide)) rfl (g_is_closed C) (kp_is_closed C) (bd_is_closed C) (qa_cons (qv 0) qa_nil)) (qa_cons (q_fz (q_call G_open_edges (hr.mono (by decide)) rfl (g_open_edges C) (kp_open_edges C) (bd_open_edges C) (qa_cons (qv 0) qa_nil))) (qa_cons (q_call G_volume (hr.mono (by decide)) rfl (g_volume C) (kp_volume C) (bd_volume C) (qa_cons (qv 0) qa_nil)) qa_nil)))) (qa_cons (q_lstF (qa_cons (qcon (.bl true) pe_bl fun _ => .bl _) (qa_cons (q_lstF qa_nil) (qa_cons (q_call G_law_volume (hr.mono (by decide)) rfl (g_law_volume C) (kp_law_volume C) (bd_law_volume C) (qa_cons (qv 1) qa_nil)) qa_nil)))) qa_nil))))))
/-! _law_any -/
theorem sc_law_any : FnScope ["_law_bag_here", "_law_m", "_law_base", "_law_cap", "_law_way", "_law_short", "_law_low_here", "_law_high"] ["_law_bag_here"] (defScope s_law_any) := ⟨rfl, rfl, rfl, by decide +kernel, rfl, by decide +kernel, by decide +kernel⟩
theorem kp_law_any {K : PySem.W.Frag} {mg : Str → Option Value} (C : Hc K mg) : PySem.W.keepIn K (.ref (He.fAd K (("_law_any", none)))) = true := (f_law_any C).kp
theorem bd_law_any {K : PySem.W.Frag} {mg : Str → Option Value} (C : Hc K mg) : Binds K (fdAt K (("_law_any", none))) ["_law_bag_here"] [] := (f_law_any C).bindsN fun _ _ _ _ _ _ us hl => match us, hl with | [_], _ => rfl
theorem dv_law_any {P : Program} {w : World} {K : PySem.W.Frag} {mg : Str → Option Value} {base : Heap} (C : Hc K mg) (G_law_draw : FnOk P w K mg base CX0 1 (He.fAd K (("_law_draw", none))) (fdAt K (("_law_draw", none))) ["_law_bag_here", "_law_many_y"] (lSp K sp_law_draw)) (G_law_spots : FnOk P w K mg base CX0 3 (He.fAd K (("_law_spots", none))) (fdAt K (("_law_spots", none))) ["_law_bag_here", "_law_m"] (lSp K sp_law_spots)) (G_law_heights : FnOk P w K mg base CX0 3 (He.fAd K (("_law_heights", none))) (fdAt K (("_law_heights", none))) ["_law_bag_here"] (lSp K sp_law_heights))
    (cdv : Value) (A : Around) (outer : List Env) (s : Shared) (H : Hp) (E : XK) (hr : Room 3 (A.deeper (envOfC "_law_any" (defScope s_law_any) s.heap.objs.size (He.fAd K (("_law_any", none))) cdv))) :
    QSs (cxOf CX0 P w K mg base ["_law_bag_here", "_law_m", "_law_base", "_law_cap", "_law_way", "_law_short", "_law_low_here", "_law_high"] "_law_any" (defScope s_law_any) (He.fAd K (("_law_any", none))) cdv A outer s H E) (defBody s_law_any) (t_law_any K) :=
  (qs_cons (qs_set (i := 1) sc_law_any.nd rfl (Or.inl rfl) (q_opF o_addR l_addF (qcon (.int 3) pe_int fun _ => .int _) (q_call G_law_draw (hr.mono (by decide)) rfl (g_law_draw C) (kp_law_draw C) (bd_law_draw C) (qa_cons (qv 0) (qa_cons (qcon (.int 5) pe_int fun _ => .int _) qa_nil)))))
    (qs_cons (qs_par (i := 2) (j := 3) rfl sc_law_any.nd rfl rfl (by decide) rfl rfl (qa_cons (q_call G_law_spots (hr.mono (by decide)) rfl (g_law_spots C) (kp_law_spots C) (bd_law_spots C) (qa_cons (qv 0) (qa_cons (qv 1) qa_nil))) (qa_cons (q_call G_law_spots (hr.mono (by decide)) rfl (g_law_spots C) (kp_law_spots C) (bd_law_spots C) (qa_cons (qv 0) (qa_cons (qv 1) qa_nil))) qa_nil)) (by rfl))
    (qs_cons (qs_set (i := 4) sc_law_any.nd rfl (Or.inl rfl) (q_call G_law_draw (hr.mono (by decide)) rfl (g_law_draw C) (kp_law_draw C) (bd_law_draw C) (qa_cons (qv 0) (qa_cons (qcon (.int 12) pe_int fun _ => .int _) qa_nil))))
    (qs_cons (qs_if (t_cmp (o_eq (hu64 hr)) l_eq (qv 4) (qcon (.int 0) pe_int fun _ => .int _) (nomark _)) (qs_one (qs_set (i := 2) sc_law_any.nd rfl (Or.inl rfl) (q_slF (qv 2) o_none (o_some (q_un un_neg l_neg (qcon (.int 1) pe_int fun _ => .int _)))))) qs_nil)
    (qs_cons (qs_if (t_cmp (o_eq (hu64 hr)) l_eq (qv 4) (qcon (.int 1) pe_int fun _ => .int _) (nomark _)) (qs_one (qs_set (i := 3) sc_law_any.nd rfl (Or.inl rfl) (q_opF o_addR l_addF (qv 3) (q_lstF (qa_cons (q_tup (qa_cons (q_tup (qa_cons (qcon (.int 1) pe_int fun _ => .int _) (qa_cons (qcon (.int 2) pe_int fun _ => .int _) qa_nil))) (qa_cons (q_tup (qa_cons (qcon (.int 0) pe_int fun _ => .int _) (qa_cons (qcon (.int 1) pe_int fun _ => .int _) qa_nil))) qa_nil))) qa_nil))))) qs_nil)
    (qs_cons (qs_if (t_cmp (o_eq (hu64 hr)) l_eq (qv 4) (qcon (.int 2) pe_int fun _ => .int _) (nomark _)) (qs_cons (qs_set (i := 5) sc_law_any.nd rfl (Or.inl rfl) (q_call G_law_draw (hr.mono (by decide)) rfl (g_law_draw C) (kp_law_draw C) (bd_law_draw C) (qa_cons (qv 0) (qa_cons (qcon (.int 3) pe_int fun _ => .int _) qa_nil))))
    (qs_one (qs_par (i := 2) (j := 3) rfl sc_law_any.nd rfl rfl (by decide) rfl rfl (qa_cons (q_slF (qv 2) o_none (o_some (qv 5))) (qa_cons (q_slF (qv 3) o_none (o_some (qv 5))) qa_nil)) (by rfl)))) qs_nil)
    (qs_cons (qs_if (t_cmp (o_eq (hu64 hr)) l_eq (qv 4) (qcon (.int 3) pe_int fun _ => .int _) (nomark _)) (qs_one (qs_set (i := 3) sc_law_any.nd rfl (Or.inl rfl) (q_lstF qa_nil))) qs_nil)
    (qs_cons (qs_asg (q_call G_law_heights (hr.mono (by decide)) rfl (g_law_heights C) (kp_law_heights C) (bd_law_heights C) (qa_cons (qv 0) qa_nil)) (g_tup rfl (g_cons (g_name (i := 6) sc_law_any.nd rfl (Or.inl rfl)) (g_cons (g_name (i := 7) sc_law_any.nd rfl (Or.inl rfl)) g_nil))))
    (qs_cons (qs_if (t_cmp (o_eq (hu64 hr)) l_eq (qv 4) (qcon (.int 4) pe_int fun _ => .int _) (nomark _)) (qs_one (qs_set (i := 7) sc_law_any.nd rfl (Or.inl rfl) (qv 6))) qs_nil)
    (qs_one (qs_ret (q_tup (qa_cons (qv 2) (qa_cons (qv 6) (qa_cons (qv 3) (qa_cons (qv 7) qa_nil))))))))))))))))
/-! _law_once -/
theorem sc_law_once : FnScope ["_law_bag_here", "_law_base", "_law_low_here", "_law_cap", "_law_high", "_law_given_a", "_law_given_b", "_law_low_given", "_law_high_given", "_law_found"] ["_law_bag_here"] (defScope s_law_once) := ⟨rfl, rfl, rfl, by decide +kernel, rfl, by decide +kernel, by decide +kernel⟩
theorem kp_law_once {K : PySem.W.Frag} {mg : Str → Option Value} (C : Hc K mg) : PySem.W.keepIn K (.ref (He.fAd K (("_law_once", none)))) = true := (f_law_once C).kp
theorem bd_law_once {K : PySem.W.Frag} {mg : Str → Option Value} (C : Hc K mg) : Binds K (fdAt K (("_law_once", none))) ["_law_bag_here"] [] := (f_law_once C).bindsN fun _ _ _ _ _ _ us hl => match us, hl with | [_], _ => rfl
theorem KBN_law_once_loft {K : PySem.W.Frag} {mg : Str → Option Value} (C : Hc K mg) : KBinds K (fdAt K (("loft", none))) ["lower", "z0", "upper", "z1"] ["z1", "upper", "z0", "lower"] (fun us ws => us ++ List.reverse ws) (fun vs zs => vs ++ List.reverse zs) := kbinds_of (f_loft C) List.reverse rg_rev fun _ _ _ _ _ _ us ws hl s => by
  have hl2 : us.length + ws.length = 4 := by simpa using hl
  rcases us with _ | ⟨u0, _ | ⟨u1, _ | ⟨u2, _ | ⟨u3, _ | ⟨u4, ur⟩⟩⟩⟩⟩ <;> rcases ws with _ | ⟨w0, _ | ⟨w1, _ | ⟨w2, _ | ⟨w3, _ | ⟨w4, wr⟩⟩⟩⟩⟩ <;> first | (exfalso; clear hl; simp only [List.length_cons, List.length_nil] at hl2; omega) | exact .of_eq rfl
theorem dv_law_once {P : Program} {w : World} {K : PySem.W.Frag} {mg : Str → Option Value} {base : Heap} (C : Hc K mg) (G_law_any : FnOk P w K mg base CX0 4 (He.fAd K (("_law_any", none))) (fdAt K (("_law_any", none))) ["_law_bag_here"] (lSp K sp_law_any)) (G_law_handed : FnOk P w K mg base CX0 3 (He.fAd K (("_law_handed", none))) (fdAt K (("_law_handed", none))) ["_law_bag_here", "_law_spots_here"] (lSp K sp_law_handed)) (G_law_hand : FnOk P w K mg base CX0 2 (He.fAd K (("_law_hand", none))) (fdAt K (("_law_hand", none))) ["_law_bag_here", "_law_p"] (lSp K sp_law_hand)) (G_law_draw : FnOk P w K mg base CX0 1 (He.fAd K (("_law_draw", none))) (fdAt K (("_law_draw", none))) ["_law_bag_here", "_law_many_y"] (lSp K sp_law_draw)) (G_loft : FnOk P w K mg base (L2.CX P w) 6 (He.fAd K (("loft", none))) (fdAt K (("loft", none))) ["lower", "z0", "upper", "z1"] (lSp K (sp_loft K))) (G_law_lt : FnOk P w K mg base CX0 1 (He.fAd K (("_law_lt", none))) (fdAt K (("_law_lt", none))) ["_law_p", "_law_q"] (lSp K sp_law_lt)) (G_law_same : FnOk P w K mg base CX0 6 (He.fAd K (("_law_same", none))) (fdAt K (("_law_same", none))) ["_law_found", "_law_due"] (lSp K sp_law_same)) (G_law_right : FnOk P w K mg base CX0 7 (He.fAd K (("_law_right", none))) (fdAt K (("_law_right", none))) ["_law_made", "_law_pair"] (lSp K (sp_law_right K))) (G_law_loft : FnOk P w K mg base CX0 1 (He.fAd K (("_law_loft", none))) (fdAt K (("_law_loft", none))) ["_law_base", "_law_low_here", "_law_cap", "_law_high"] (lSp K sp_law_loft)) (TB : LamX.TabB base mg (He.cT K (("_law_once", none))).1 (He.cT K (("_law_once", none))).2)
    (A : Around) (outer : List Env) (s : Shared) (H : Hp) (E : XK) (hr : Room 8 (A.deeper (envOfC "_law_once" (defScope s_law_once) s.heap.objs.size (He.fAd K (("_law_once", none))) (.ref (He.codeOf K (("_law_once", none))))))) :
    QSs (cxOf CX0 P w K mg base ["_law_bag_here", "_law_base", "_law_low_here", "_law_cap", "_law_high", "_law_given_a", "_law_given_b", "_law_low_given", "_law_high_given", "_law_found"] "_law_once" (defScope s_law_once) (He.fAd K (("_law_once", none))) (.ref (He.codeOf K (("_law_once", none)))) A outer s H E) (defBody s_law_once) (t_law_once K) :=
  (qs_cons (qs_asg (q_call G_law_any (hr.mono (by decide)) rfl (g_law_any C) (kp_law_any C) (bd_law_any C) (qa_cons (qv 0) qa_nil)) (g_tup rfl (g_cons (g_name (i := 1) sc_law_once.nd rfl (Or.inl rfl)) (g_cons (g_name (i := 2) sc_law_once.nd rfl (Or.inl rfl)) (g_cons (g_name (i := 3) sc_law_once.nd rfl (Or.inl rfl)) (g_cons (g_name (i := 4) sc_law_once.nd rfl (Or.inl rfl)) g_nil))))))
    (qs_cons (qs_asg (q_tup (qa_cons (q_call G_law_handed (hr.mono (by decide)) rfl (g_law_handed C) (kp_law_handed C) (bd_law_handed C) (qa_cons (qv 0) (qa_cons (qv 1) qa_nil))) (qa_cons (q_call G_law_handed (hr.mono (by decide)) rfl (g_law_handed C) (kp_law_handed C) (bd_law_handed C) (qa_cons (qv 0) (qa_cons (qv 3) qa_nil))) qa_nil))) (g_tup rfl (g_cons (g_name (i := 5) sc_law_once.nd rfl (Or.inr rfl)) (g_cons (g_name (i := 6) sc_law_once.nd rfl (Or.inr rfl)) g_nil))))
    (qs_cons (qs_asg (q_tup (qa_cons (q_call G_law_hand (hr.mono (by decide)) rfl (g_law_hand C) (kp_law_hand C) (bd_law_hand C) (qa_cons (qv 0) (qa_cons (qv 2) qa_nil))) (qa_cons (q_call G_law_hand (hr.mono (by decide)) rfl (g_law_hand C) (kp_law_hand C) (bd_law_hand C) (qa_cons (qv 0) (qa_cons (qv 4) qa_nil))) qa_nil))) (g_tup rfl (g_cons (g_name (i := 7) sc_law_once.nd rfl (Or.inr rfl)) (g_cons (g_name (i := 8) sc_law_once.nd rfl (Or.inr rfl)) g_nil))))
    (qs_cons (qs_if (t_cmp (o_eq (hu64 hr)) l_eq (q_call G_law_draw (hr.mono (by decide)) rfl (g_law_draw C) (kp_law_draw C) (bd_law_draw C) (qa_cons (qv 0) (qa_cons (qcon (.int 2) pe_int fun _ => .int _) qa_nil))) (qcon (.int 0) pe_int fun _ => .int _) (nomark _)) (qs_one (qs_set (i := 9) sc_law_once.nd rfl (Or.inl rfl) (q_lamF (k := 6) rfl (g_law_try C) (f_law_try C) (bd_law_try C) sc_law_try rfl (Or.inl rfl) (fun _ => gv_law_try C _ _) TB rfl (List.mem_singleton.mpr rfl) (fun p hp _ => by cases List.mem_singleton.mp hp; rfl) (hr.mono (by decide)) (LamX.lamS_by (by kernel_rfl)) rfl (fun _ _ _ _ _ => rfl) (fun A outer s H E f c' hr2 tk => (px_e (px_call G_loft tk (hr2.mono (by decide)) rfl (g_loft C) (kp_loft C) (bd_loft C) (qa_cons (qv 5) (qa_cons (qv 7) (qa_cons (qv 6) (qa_cons (qv 8) qa_nil)))))))))) (qs_one (qs_set (i := 9) sc_law_once.nd rfl (Or.inl rfl) (q_lamF (k := 6) rfl (g_law_try C) (f_law_try C) (bd_law_try C) sc_law_try rfl (Or.inl rfl) (fun _ => gv_law_try C _ _) TB rfl (List.mem_singleton.mpr rfl) (fun p hp _ => by cases List.mem_singleton.mp hp; rfl) (hr.mono (by decide)) (LamX.lamS_by (by kernel_rfl)) rfl (fun _ _ _ _ _ => rfl) (fun A outer s H E f c' hr2 tk => (px_callK (ks := ["z1", "upper", "z0", "lower"]) List.reverse rg_rev G_loft tk (hr2.mono (by decide)) rfl (g_loft C) (kp_loft C) (KBN_law_once_loft C) (k_cons (qv 8) (k_cons (q_cty call_tuple_of l_tuple (by rfl) (fr_tuple C) (by decide +kernel) (qa_cons (qv 6) qa_nil)) (k_cons (qv 7) (k_cons (q_cty call_tuple_of l_tuple (by rfl) (fr_tuple C) (by decide +kernel) (qa_cons (qv 5) qa_nil)) k_nil))))))))))
    (qs_cons (qs_if (tw (tw_or (t_cmp (o_ne (hu64 hr)) l_ne (q_cb call_len l_len (by rfl) (fr_len C) PySem.boot_len (qa_cons (qv 1) qa_nil)) (q_cb call_len l_len (by rfl) (fr_len C) PySem.boot_len (qa_cons (qv 3) qa_nil)) (nomark _)) (tw_or (t_cmp op_lt l_lt (q_cb call_len l_len (by rfl) (fr_len C) PySem.boot_len (qa_cons (qv 1) qa_nil)) (qcon (.int 3) pe_int fun _ => .int _) (nomark _)) (tw_or1 (t_not (t_tru (q_call G_law_lt (hr.mono (by decide)) rfl (g_law_lt C) (kp_law_lt C) (bd_law_lt C) (qa_cons (qv 2) (qa_cons (qv 4) qa_nil))))))))) (qs_one (qs_ret (q_call G_law_same (hr.mono (by decide)) rfl (g_law_same C) (kp_law_same C) (bd_law_same C) (qa_cons (qv 9) (qa_cons (q_tup (qa_cons (qcon (.str "BadLoft") pe_str fun _ => .str _) qa_nil)) qa_nil))))) qs_nil)
    (qs_cons (qs_if (tw (tw_or (t_cmp (o_ne (hu64 hr)) l_ne (q_ixk 0 (qv 9) pe_int) (qcon (.str "") pe_str fun _ => .str _) (nomark _)) (tw_or (t_cmp (o_ne (hu64 hr)) l_ne (q_cb call_len l_len (by rfl) (fr_len C) PySem.boot_len (qa_cons (qv 5) qa_nil)) (q_cb call_len l_len (by rfl) (fr_len C) PySem.boot_len (qa_cons (qv 1) qa_nil)) (nomark _)) (tw_or1 (t_cmp (o_ne (hu64 hr)) l_ne (q_cb call_len l_len (by rfl) (fr_len C) PySem.boot_len (qa_cons (qv 6) qa_nil)) (q_cb call_len l_len (by rfl) (fr_len C) PySem.boot_len (qa_cons (qv 3) qa_nil)) (nomark _)))))) (qs_one (qs_ret (qcon (.bl false) pe_bl fun _ => .bl _))) qs_nil)
    (qs_cons (qs_expr (q_bm PySem.F.plainAttrs_list PySem.F.slot_list_append PySem.F.type_list_append mt_append l_append (qv 5) (qa_cons (q_tup (qa_cons (qcon (.int 0) pe_int fun _ => .int _) (qa_cons (qcon (.int 0) pe_int fun _ => .int _) qa_nil))) qa_nil)))
    (qs_cons (qs_expr (q_bm0 PySem.F.plainAttrs_list PySem.F.slot_list_clear PySem.F.type_list_clear mt_clear l_clear (qv 6)))
    (qs_one (qs_ret (q_call G_law_right (hr.mono (by decide)) rfl (g_law_right C) (kp_law_right C) (bd_law_right C) (qa_cons (q_ixk 1 (qv 9) pe_int) (qa_cons (q_call G_law_loft (hr.mono (by decide)) rfl (g_law_loft C) (kp_law_loft C) (bd_law_loft C) (qa_cons (qv 1) (qa_cons (qv 2) (qa_cons (qv 3) (qa_cons (qv 4) qa_nil))))) qa_nil)))))))))))))
/-! _law_prism -/
theorem sc_law_prism : FnScope ["_law_bag_here", "_law_ring_here", "_law_low_here", "_law_high", "_law_lean", "_law_cap", "_law_made", "_law_due", "_law_spot"] ["_law_bag_here"] (defScope s_law_prism) := ⟨rfl, rfl, rfl, by decide +kernel, rfl, by decide +kernel, by decide +kernel⟩
theorem kp_law_prism {K : PySem.W.Frag} {mg : Str → Option Value} (C : Hc K mg) : PySem.W.keepIn K (.ref (He.fAd K (("_law_prism", none)))) = true := (f_law_prism C).kp
theorem bd_law_prism {K : PySem.W.Frag} {mg : Str → Option Value} (C : Hc K mg) : Binds K (fdAt K (("_law_prism", none))) ["_law_bag_here"] [] := (f_law_prism C).bindsN fun _ _ _ _ _ _ us hl => match us, hl with | [_], _ => rfl
theorem dv_law_prism {P : Program} {w : World} {K : PySem.W.Frag} {mg : Str → Option Value} {base : Heap} (C : Hc K mg) (G_law_ring : FnOk P w K mg base CX0 3 (He.fAd K (("_law_ring", none))) (fdAt K (("_law_ring", none))) ["_law_bag_here"] (lSp K sp_law_ring)) (G_law_draw : FnOk P w K mg base CX0 1 (He.fAd K (("_law_draw", none))) (fdAt K (("_law_draw", none))) ["_law_bag_here", "_law_many_y"] (lSp K sp_law_draw)) (G_law_low : FnOk P w K mg base CX0 1 (He.fAd K (("_law_low", none))) (fdAt K (("_law_low", none))) ["_law_num", "_law_den"] (lSp K sp_law_low)) (G_law_add : FnOk P w K mg base CX0 2 (He.fAd K (("_law_add", none))) (fdAt K (("_law_add", none))) ["_law_p", "_law_q"] (lSp K sp_law_add)) (G_law_of : FnOk P w K mg base CX0 2 (He.fAd K (("_law_of", none))) (fdAt K (("_law_of", none))) ["_law_bag_here", "_law_things"] (lSp K sp_law_of)) (G_loft : FnOk P w K mg base (L2.CX P w) 6 (He.fAd K (("loft", none))) (fdAt K (("loft", none))) ["lower", "z0", "upper", "z1"] (lSp K (sp_loft K))) (G_law_handed : FnOk P w K mg base CX0 3 (He.fAd K (("_law_handed", none))) (fdAt K (("_law_handed", none))) ["_law_bag_here", "_law_spots_here"] (lSp K sp_law_handed)) (G_law_mul : FnOk P w K mg base CX0 2 (He.fAd K (("_law_mul", none))) (fdAt K (("_law_mul", none))) ["_law_p", "_law_q"] (lSp K sp_law_mul)) (G_law_sub : FnOk P w K mg base CX0 3 (He.fAd K (("_law_sub", none))) (fdAt K (("_law_sub", none))) ["_law_p", "_law_q"] (lSp K sp_law_sub)) (G_law_area : FnOk P w K mg base CX0 4 (He.fAd K (("_law_area", none))) (fdAt K (("_law_area", none))) ["_law_ring_here"] (lSp K sp_law_area)) (G_law_same : FnOk P w K mg base CX0 6 (He.fAd K (("_law_same", none))) (fdAt K (("_law_same", none))) ["_law_found", "_law_due"] (lSp K sp_law_same)) (G_law_loft : FnOk P w K mg base CX0 1 (He.fAd K (("_law_loft", none))) (fdAt K (("_law_loft", none))) ["_law_base", "_law_low_here", "_law_cap", "_law_high"] (lSp K sp_law_loft)) (G_volume : FnOk P w K mg base CX0 4 (He.fAd K (("volume", none))) (fdAt K (("volume", none))) ["net"] (lSp K (sp_volume K)))
    (cdv : Value) (A : Around) (outer : List Env) (s : Shared) (H : Hp) (E : XK) (hr : Room 6 (A.deeper (envOfC "_law_prism" (defScope s_law_prism) s.heap.objs.size (He.fAd K (("_law_prism", none))) cdv))) :
    QSs (cxOf CX0 P w K mg base ["_law_bag_here", "_law_ring_here", "_law_low_here", "_law_high", "_law_lean", "_law_cap", "_law_made", "_law_due", "_law_spot"] "_law_prism" (defScope s_law_prism) (He.fAd K (("_law_prism", none))) cdv A outer s H E) (defBody s_law_prism) (t_law_prism K) :=
  (qs_cons (qs_set (i := 1) sc_law_prism.nd rfl (Or.inl rfl) (q_call G_law_ring (hr.mono (by decide)) rfl (g_law_ring C) (kp_law_ring C) (bd_law_ring C) (qa_cons (qv 0) qa_nil)))
    (qs_cons (qs_set (i := 2) sc_law_prism.nd rfl (Or.inl rfl) (q_tup (qa_cons (q_op op_sub l_sub (q_call G_law_draw (hr.mono (by decide)) rfl (g_law_draw C) (kp_law_draw C) (bd_law_draw C) (qa_cons (qv 0) (qa_cons (qcon (.int 13) pe_int fun _ => .int _) qa_nil))) (qcon (.int 6) pe_int fun _ => .int _)) (qa_cons (qcon (.int 2) pe_int fun _ => .int _) qa_nil))))
    (qs_cons (qs_set (i := 2) sc_law_prism.nd rfl (Or.inl rfl) (q_call G_law_low (hr.mono (by decide)) rfl (g_law_low C) (kp_law_low C) (bd_law_low C) (qa_cons (q_ixk 0 (qv 2) pe_int) (qa_cons (q_ixk 1 (qv 2) pe_int) qa_nil))))
    (qs_cons (qs_set (i := 3) sc_law_prism.nd rfl (Or.inl rfl) (q_call G_law_add (hr.mono (by decide)) rfl (g_law_add C) (kp_law_add C) (bd_law_add C) (qa_cons (qv 2) (qa_cons (q_call G_law_of (hr.mono (by decide)) rfl (g_law_of C) (kp_law_of C) (bd_law_of C) (qa_cons (qv 0) (qa_cons (q_lstF (qa_cons (q_tup (qa_cons (qcon (.int 1) pe_int fun _ => .int _) (qa_cons (qcon (.int 1) pe_int fun _ => .int _) qa_nil))) (qa_cons (q_tup (qa_cons (qcon (.int 2) pe_int fun _ => .int _) (qa_cons (qcon (.int 1) pe_int fun _ => .int _) qa_nil))) (qa_cons (q_tup (qa_cons (qcon (.int 1) pe_int fun _ => .int _) (qa_cons (qcon (.int 3) pe_int fun _ => .int _) qa_nil))) (qa_cons (q_tup (qa_cons (qcon (.int 5) pe_int fun _ => .int _) (qa_cons (qcon (.int 2) pe_int fun _ => .int _) qa_nil))) qa_nil))))) qa_nil))) qa_nil))))
    (qs_cons (qs_set (i := 4) sc_law_prism.nd rfl (Or.inr rfl) (q_lstF (qa_cons (q_tup (qa_cons (q_op op_sub l_sub (q_call G_law_draw (hr.mono (by decide)) rfl (g_law_draw C) (kp_law_draw C) (bd_law_draw C) (qa_cons (qv 0) (qa_cons (qcon (.int 9) pe_int fun _ => .int _) qa_nil))) (qcon (.int 4) pe_int fun _ => .int _)) (qa_cons (qcon (.int 1) pe_int fun _ => .int _) qa_nil))) (qa_cons (q_tup (qa_cons (q_op op_sub l_sub (q_call G_law_draw (hr.mono (by decide)) rfl (g_law_draw C) (kp_law_draw C) (bd_law_draw C) (qa_cons (qv 0) (qa_cons (qcon (.int 9) pe_int fun _ => .int _) qa_nil))) (qcon (.int 4) pe_int fun _ => .int _)) (qa_cons (qcon (.int 1) pe_int fun _ => .int _) qa_nil))) qa_nil))))
    (qs_cons (qs_setLcF (i := 5) (own := [("_law_spot", 8)]) rfl sc_law_prism.nd rfl rfl (sw_true rfl rfl rfl (by decide +kernel)) (i_seq (qv 1)) (blkOk_by (own := [("_law_spot", 8)]) (by kernel_rfl)) (fun _ _ _ _ _ => (gp_name (i := 8) sc_law_prism.nd rfl (Or.inl rfl) (by decide))) (fun _ _ _ _ _ => ts_nil) (fun _ _ _ _ _ => (q_tup (qa_cons (q_call G_law_add (hr.mono (by decide)) rfl (g_law_add C) (kp_law_add C) (bd_law_add C) (qa_cons (q_ixk 0 (qv 8) pe_int) (qa_cons (q_ixk 0 (qv 4) pe_int) qa_nil))) (qa_cons (q_call G_law_add (hr.mono (by decide)) rfl (g_law_add C) (kp_law_add C) (bd_law_add C) (qa_cons (q_ixk 1 (qv 8) pe_int) (qa_cons (q_ixk 1 (qv 4) pe_int) qa_nil))) qa_nil)))))
    (qs_cons (qs_set (i := 6) sc_law_prism.nd rfl (Or.inl rfl) (q_callX0 G_loft (hr.mono (by decide)) rfl (g_loft C) (kp_loft C) (bd_loft C) (qa_cons (q_fz (q_call G_law_handed (hr.mono (by decide)) rfl (g_law_handed C) (kp_law_handed C) (bd_law_handed C) (qa_cons (qv 0) (qa_cons (qv 1) qa_nil)))) (qa_cons (qv 2) (qa_cons (q_fz (q_call G_law_handed (hr.mono (by decide)) rfl (g_law_handed C) (kp_law_handed C) (bd_law_handed C) (qa_cons (qv 0) (qa_cons (qv 5) qa_nil)))) (qa_cons (qv 3) qa_nil))))))
    (qs_cons (qs_set (i := 7) sc_law_prism.nd rfl (Or.inl rfl) (q_call G_law_mul (hr.mono (by decide)) rfl (g_law_mul C) (kp_law_mul C) (bd_law_mul C) (qa_cons (q_call G_law_area (hr.mono (by decide)) rfl (g_law_area C) (kp_law_area C) (bd_law_area C) (qa_cons (qv 1) qa_nil)) (qa_cons (q_call G_law_sub (hr.mono (by decide)) rfl (g_law_sub C) (kp_law_sub C) (bd_law_sub C) (qa_cons (qv 3) (qa_cons (qv 2) qa_nil))) qa_nil))))
    (qs_one (qs_ret (q_call G_law_same (hr.mono (by decide)) rfl (g_law_same C) (kp_law_same C) (bd_law_same C) (qa_cons (q_lstF (qa_cons (q_callK0 (ks := ["net"]) (fun l => l) rg_id G_volume (hr.mono (by decide)) rfl (g_volume C) (kp_volume C) (kbinds_of (f_volume C) (fun l => l) rg_id fun _ _ _ _ _ _ us ws hl s => match us, ws, hl with | [], [_], _ => .of_eq rfl | [_], [], _ => .of_eq rfl) (k_cons (qv 6) k_nil)) (qa_cons (q_fldF (qv 6)) qa_nil))) (qa_cons (q_lstF (qa_cons (qv 7) (qa_cons (q_cty call_tuple_of l_tuple (by rfl) (fr_tuple C) (by decide +kernel) (qa_cons (q_ixk 1 (q_call G_law_loft (hr.mono (by decide)) rfl (g_law_loft C) (kp_law_loft C) (bd_law_loft C) (qa_cons (qv 1) (qa_cons (qv 2) (qa_cons (qv 5) (qa_cons (qv 3) qa_nil))))) pe_int) qa_nil)) qa_nil))) qa_nil)))))))))))))
/-! law -/
theorem sc_law : FnScope ["_law_script", "_law_bag_here", "_law_turn"] ["_law_script"] (defScope s_law) := ⟨rfl, rfl, rfl, by decide +kernel, rfl, by decide +kernel, by decide +kernel⟩
theorem kp_law {K : PySem.W.Frag} {mg : Str → Option Value} (C : Hc K mg) : PySem.W.keepIn K (.ref (He.fAd K (("law", none)))) = true := (f_law C).kp
theorem bd_law {K : PySem.W.Frag} {mg : Str → Option Value} (C : Hc K mg) : Binds K (fdAt K (("law", none))) ["_law_script"] [] := (f_law C).bindsN fun _ _ _ _ _ _ us hl => match us, hl with | [_], _ => rfl
theorem dv_law {P : Program} {w : World} {K : PySem.W.Frag} {mg : Str → Option Value} {base : Heap} (C : Hc K mg) (G_law_bag : FnOk P w K mg base CX0 1 (He.fAd K (("_law_bag", none))) (fdAt K (("_law_bag", none))) ["_law_script"] (lSp K sp_law_bag)) (G_law_prism : FnOk P w K mg base CX0 7 (He.fAd K (("_law_prism", none))) (fdAt K (("_law_prism", none))) ["_law_bag_here"] (lSp K (sp_law_prism K))) (G_law_once : FnOk P w K mg base CX0 9 (He.fAd K (("_law_once", none))) (fdAt K (("_law_once", none))) ["_law_bag_here"] (lSp K (sp_law_once K)))
    (cdv : Value) (A : Around) (outer : List Env) (s : Shared) (H : Hp) (E : XK) (hr : Room 9 (A.deeper (envOfC "law" (defScope s_law) s.heap.objs.size (He.fAd K (("law", none))) cdv))) :
    QSs (cxOf CX0 P w K mg base ["_law_script", "_law_bag_here", "_law_turn"] "law" (defScope s_law) (He.fAd K (("law", none))) cdv A outer s H E) (defBody s_law) (t_law K) :=
  (qs_cons (qs_set (i := 1) sc_law.nd rfl (Or.inl rfl) (q_call G_law_bag (hr.mono (by decide)) rfl (g_law_bag C) (kp_law_bag C) (bd_law_bag C) (qa_cons (qv 0) qa_nil)))
    (qs_cons (qs_for hpN rfl (i_rng1 (qcon (.int 2) pe_int fun _ => .int _) rfl (fr_range C)) (g_name (i := 2) sc_law.nd rfl (Or.inl rfl)) (qs_one (qs_if (tw (tw_or (t_not (t_tru (q_call G_law_once (hr.mono (by decide)) rfl (g_law_once C) (kp_law_once C) (bd_law_once C) (qa_cons (qv 1) qa_nil)))) (tw_or1 (t_not (t_tru (q_call G_law_prism (hr.mono (by decide)) rfl (g_law_prism C) (kp_law_prism C) (bd_law_prism C) (qa_cons (qv 1) qa_nil))))))) (qs_one (qs_ret (qcon (.bl false) pe_bl fun _ => .bl _))) qs_nil)))
    (qs_one (qs_ret (qcon (.bl true) pe_bl fun _ => .bl _)))))
end Hd

namespace Hd
open PySem PySem.Spec PyProof.Rows L2 Z
theorem ok_sameN {P : Program} {w : World} {K : PySem.W.Frag} {mg : Str → Option Value} {base : Heap} (C : Hc K mg) : ∀ n, FnOk P w K mg base CX0 n (He.fAd K (("_law_same", none))) (fdAt K (("_law_same", none))) ["_law_found", "_law_due"] (lSp K (sp_law_sameN n))
  | 0 => ⟨fun vs H Q E h => by
      obtain ⟨ds, L, Q', E', _, _, q, _⟩ := h
      unfold sp_law_sameN at q
      split at q
      · exact q.1.elim
      · exact q.elim, fun A outer s H args us vs Q E _ _ _ _ h => by
      obtain ⟨ds, L, Q', E', _, _, q, _⟩ := h
      unfold sp_law_sameN at q
      split at q
      · exact q.1.elim
      · exact q.elim⟩
  | n + 1 => okD (f_law_same C) sc_law_same (fun ds L Q E h => by unfold sp_law_sameN at h; split at h <;> first | rfl | exact h.elim) (dv_law_same C n (sp_law_sameN n) (ok_sameN C n)) (rd_law_same n)
theorem ok_law_same {P : Program} {w : World} {K : PySem.W.Frag} {mg : Str → Option Value} {base : Heap} (C : Hc K mg) : FnOk P w K mg base CX0 6 (He.fAd K (("_law_same", none))) (fdAt K (("_law_same", none))) ["_law_found", "_law_due"] (lSp K sp_law_same) := ok_sameN C 6
theorem kit_self {K : PySem.W.Frag} {a : Addr} : PySem.W.kitOne K (.ref a) (.ref a) = some true := by unfold PySem.W.kitOne; rw [if_pos (by simp)]
theorem ok_scaled {P : Program} {w : World} {K : PySem.W.Frag} {mg : Str → Option Value} {base : Heap} (C : Hc K mg) : FnOk P w K mg base CX0 1 (He.fAd K (("scaled", none))) (fdAt K (("scaled", none))) ["rows"] (lSp K sp_scaled) := okD (f_scaled C) sc_scaled (fun ds L Q E h => by unfold sp_scaled at h; split at h <;> first | rfl | exact h.elim) (dv_scaled C ) rd_scaled
theorem ok_determinant {P : Program} {w : World} {K : PySem.W.Frag} {mg : Str → Option Value} {base : Heap} (C : Hc K mg) : FnOk P w K mg base CX0 1 (He.fAd K (("determinant", none))) (fdAt K (("determinant", none))) ["first", "second", "third"] (lSp K sp_determinant) := okD (f_determinant C) sc_determinant (fun ds L Q E h => by unfold sp_determinant at h; split at h <;> first | rfl | exact h.elim) (dv_determinant C ) rd_determinant
theorem ok_steps {P : Program} {w : World} {K : PySem.W.Frag} {mg : Str → Option Value} {base : Heap} (C : Hc K mg) : FnOk P w K mg base CX0 1 (He.fAd K (("steps", none))) (fdAt K (("steps", none))) ["face"] (lSp K sp_steps) := okD (f_steps C) sc_steps (fun ds L Q E h => by unfold sp_steps at h; split at h <;> first | rfl | exact h.elim) (dv_steps C ) rd_steps
theorem ok_edge_of {P : Program} {w : World} {K : PySem.W.Frag} {mg : Str → Option Value} {base : Heap} (C : Hc K mg) : FnOk P w K mg base CX0 1 (He.fAd K (("edge_of", none))) (fdAt K (("edge_of", none))) ["p", "q"] (lSp K sp_edge_of) := okD (f_edge_of C) sc_edge_of (fun ds L Q E h => by unfold sp_edge_of at h; split at h <;> first | rfl | exact h.elim) (dv_edge_of C ) rd_edge_of
theorem ok_is_integer {P : Program} {w : World} {K : PySem.W.Frag} {mg : Str → Option Value} {base : Heap} (C : Hc K mg) : FnOk P w K mg base CX0 1 (He.fAd K (("is_integer", none))) (fdAt K (("is_integer", none))) ["value"] (lSp K sp_is_integer) := okD (f_is_integer C) sc_is_integer (fun ds L Q E h => by unfold sp_is_integer at h; split at h <;> first | rfl | exact h.elim) (dv_is_integer C ) rd_is_integer
theorem ok_as_number {P : Program} {w : World} {K : PySem.W.Frag} {mg : Str → Option Value} {base : Heap} (C : Hc K mg) : FnOk P w K mg base CX0 1 (He.fAd K (("as_number", none))) (fdAt K (("as_number", none))) ["value"] (lSp K sp_as_number) := okD (f_as_number C) sc_as_number (fun ds L Q E h => by unfold sp_as_number at h; split at h <;> first | rfl | exact h.elim) (dv_as_number C ) rd_as_number
theorem ok_lowest {P : Program} {w : World} {K : PySem.W.Frag} {mg : Str → Option Value} {base : Heap} (C : Hc K mg) : FnOk P w K mg base CX0 1 (He.fAd K (("lowest", none))) (fdAt K (("lowest", none))) ["n", "d"] (lSp K sp_lowest) := okD (f_lowest C) sc_lowest (fun ds L Q E h => by unfold sp_lowest at h; split at h <;> first | rfl | exact h.elim) (dv_lowest C ) rd_lowest
theorem ok_is_index {P : Program} {w : World} {K : PySem.W.Frag} {mg : Str → Option Value} {base : Heap} (C : Hc K mg) : FnOk P w K mg base CX0 1 (He.fAd K (("_is_index", none))) (fdAt K (("_is_index", none))) ["value", "many"] (lSp K sp_is_index) := okD (f_is_index C) sc_is_index (fun ds L Q E h => by unfold sp_is_index at h; split at h <;> first | rfl | exact h.elim) (dv_is_index C ) rd_is_index
theorem ok_law_bag {P : Program} {w : World} {K : PySem.W.Frag} {mg : Str → Option Value} {base : Heap} (C : Hc K mg) : FnOk P w K mg base CX0 1 (He.fAd K (("_law_bag", none))) (fdAt K (("_law_bag", none))) ["_law_script"] (lSp K sp_law_bag) := okD (f_law_bag C) sc_law_bag (fun ds L Q E h => by unfold sp_law_bag at h; split at h <;> first | rfl | exact h.elim) (dv_law_bag C ) rd_law_bag
theorem ok_law_draw {P : Program} {w : World} {K : PySem.W.Frag} {mg : Str → Option Value} {base : Heap} (C : Hc K mg) : FnOk P w K mg base CX0 1 (He.fAd K (("_law_draw", none))) (fdAt K (("_law_draw", none))) ["_law_bag_here", "_law_many_y"] (lSp K sp_law_draw) := okD (f_law_draw C) sc_law_draw (fun ds L Q E h => by unfold sp_law_draw at h; split at h <;> first | rfl | exact h.elim) (dv_law_draw C ) rd_law_draw
theorem ok_law_low {P : Program} {w : World} {K : PySem.W.Frag} {mg : Str → Option Value} {base : Heap} (C : Hc K mg) : FnOk P w K mg base CX0 1 (He.fAd K (("_law_low", none))) (fdAt K (("_law_low", none))) ["_law_num", "_law_den"] (lSp K sp_law_low) := okD (f_law_low C) sc_law_low (fun ds L Q E h => by unfold sp_law_low at h; split at h <;> first | rfl | exact h.elim) (dv_law_low C ) rd_law_low
theorem ok_law_lt {P : Program} {w : World} {K : PySem.W.Frag} {mg : Str → Option Value} {base : Heap} (C : Hc K mg) : FnOk P w K mg base CX0 1 (He.fAd K (("_law_lt", none))) (fdAt K (("_law_lt", none))) ["_law_p", "_law_q"] (lSp K sp_law_lt) := okD (f_law_lt C) sc_law_lt (fun ds L Q E h => by unfold sp_law_lt at h; split at h <;> first | rfl | exact h.elim) (dv_law_lt C ) rd_law_lt
theorem ok_law_loft {P : Program} {w : World} {K : PySem.W.Frag} {mg : Str → Option Value} {base : Heap} (C : Hc K mg) : FnOk P w K mg base CX0 1 (He.fAd K (("_law_loft", none))) (fdAt K (("_law_loft", none))) ["_law_base", "_law_low_here", "_law_cap", "_law_high"] (lSp K sp_law_loft) := okD (f_law_loft C) sc_law_loft (fun ds L Q E h => by unfold sp_law_loft at h; split at h <;> first | rfl | exact h.elim) (dv_law_loft C ) rd_law_loft
theorem ok_surpluses {P : Program} {w : World} {K : PySem.W.Frag} {mg : Str → Option Value} {base : Heap} (C : Hc K mg) : FnOk P w K mg base CX0 2 (He.fAd K (("surpluses", none))) (fdAt K (("surpluses", none))) ["faces"] (lSp K sp_surpluses) := okD (f_surpluses C) sc_surpluses (fun ds L Q E h => by unfold sp_surpluses at h; split at h <;> first | rfl | exact h.elim) (dv_surpluses C (ok_steps C) (ok_edge_of C)) rd_surpluses
theorem ok_is_number {P : Program} {w : World} {K : PySem.W.Frag} {mg : Str → Option Value} {base : Heap} (C : Hc K mg) : FnOk P w K mg base CX0 2 (He.fAd K (("is_number", none))) (fdAt K (("is_number", none))) ["value"] (lSp K sp_is_number) := okD (f_is_number C) sc_is_number (fun ds L Q E h => by unfold sp_is_number at h; split at h <;> first | rfl | exact h.elim) (dv_is_number C (ok_is_integer C)) rd_is_number
theorem ok_compare {P : Program} {w : World} {K : PySem.W.Frag} {mg : Str → Option Value} {base : Heap} (C : Hc K mg) : FnOk P w K mg base CX0 2 (He.fAd K (("compare", none))) (fdAt K (("compare", none))) ["a", "b"] (lSp K sp_compare) := okD (f_compare C) sc_compare (fun ds L Q E h => by unfold sp_compare at h; split at h <;> first | rfl | exact h.elim) (dv_compare C (ok_as_number C)) rd_compare
theorem ok_is_face {P : Program} {w : World} {K : PySem.W.Frag} {mg : Str → Option Value} {base : Heap} (C : Hc K mg) : FnOk P w K mg base CX0 2 (He.fAd K (("_is_face", none))) (fdAt K (("_is_face", none))) ["value", "many"] (lSp K sp_is_face) := okD (f_is_face C) sc_is_face (fun ds L Q E h => by unfold sp_is_face at h; split at h <;> first | rfl | exact h.elim) (dv_is_face C (ok_is_index C)) rd_is_face
theorem ok_law_of {P : Program} {w : World} {K : PySem.W.Frag} {mg : Str → Option Value} {base : Heap} (C : Hc K mg) : FnOk P w K mg base CX0 2 (He.fAd K (("_law_of", none))) (fdAt K (("_law_of", none))) ["_law_bag_here", "_law_things"] (lSp K sp_law_of) := okD (f_law_of C) sc_law_of (fun ds L Q E h => by unfold sp_law_of at h; split at h <;> first | rfl | exact h.elim) (dv_law_of C (ok_law_draw C)) rd_law_of
theorem ok_law_add {P : Program} {w : World} {K : PySem.W.Frag} {mg : Str → Option Value} {base : Heap} (C : Hc K mg) : FnOk P w K mg base CX0 2 (He.fAd K (("_law_add", none))) (fdAt K (("_law_add", none))) ["_law_p", "_law_q"] (lSp K sp_law_add) := okD (f_law_add C) sc_law_add (fun ds L Q E h => by unfold sp_law_add at h; split at h <;> first | rfl | exact h.elim) (dv_law_add C (ok_law_low C)) rd_law_add
theorem ok_law_mul {P : Program} {w : World} {K : PySem.W.Frag} {mg : Str → Option Value} {base : Heap} (C : Hc K mg) : FnOk P w K mg base CX0 2 (He.fAd K (("_law_mul", none))) (fdAt K (("_law_mul", none))) ["_law_p", "_law_q"] (lSp K sp_law_mul) := okD (f_law_mul C) sc_law_mul (fun ds L Q E h => by unfold sp_law_mul at h; split at h <;> first | rfl | exact h.elim) (dv_law_mul C (ok_law_low C)) rd_law_mul
theorem ok_law_hand {P : Program} {w : World} {K : PySem.W.Frag} {mg : Str → Option Value} {base : Heap} (C : Hc K mg) : FnOk P w K mg base CX0 2 (He.fAd K (("_law_hand", none))) (fdAt K (("_law_hand", none))) ["_law_bag_here", "_law_p"] (lSp K sp_law_hand) := okD (f_law_hand C) sc_law_hand (fun ds L Q E h => by unfold sp_law_hand at h; split at h <;> first | rfl | exact h.elim) (dv_law_hand C (ok_law_draw C)) rd_law_hand
theorem ok_law_number {P : Program} {w : World} {K : PySem.W.Frag} {mg : Str → Option Value} {base : Heap} (C : Hc K mg) : FnOk P w K mg base CX0 2 (He.fAd K (("_law_number", none))) (fdAt K (("_law_number", none))) ["_law_bag_here"] (lSp K sp_law_number) := okD (f_law_number C) sc_law_number (fun ds L Q E h => by unfold sp_law_number at h; split at h <;> first | rfl | exact h.elim) (dv_law_number C (ok_law_draw C) (ok_law_low C)) rd_law_number
theorem ok_exact {P : Program} {w : World} {K : PySem.W.Frag} {mg : Str → Option Value} {base : Heap} (C : Hc K mg) : FnOk P w K mg base CX0 3 (He.fAd K (("exact", none))) (fdAt K (("exact", none))) ["value"] (lSp K sp_exact) := okD (f_exact C) sc_exact (fun ds L Q E h => by unfold sp_exact at h; split at h <;> first | rfl | exact h.elim) (dv_exact C (ok_is_integer C) (ok_lowest C)) rd_exact
theorem ok_is_corner {P : Program} {w : World} {K : PySem.W.Frag} {mg : Str → Option Value} {base : Heap} (C : Hc K mg) : FnOk P w K mg base CX0 3 (He.fAd K (("_is_corner", none))) (fdAt K (("_is_corner", none))) ["value"] (lSp K sp_is_corner) := okD (f_is_corner C) sc_is_corner (fun ds L Q E h => by unfold sp_is_corner at h; split at h <;> first | rfl | exact h.elim) (dv_is_corner C (ok_is_number C)) rd_is_corner
theorem ok_open_edges {P : Program} {w : World} {K : PySem.W.Frag} {mg : Str → Option Value} {base : Heap} (C : Hc K mg) : FnOk P w K mg base CX0 3 (He.fAd K (("open_edges", none))) (fdAt K (("open_edges", none))) ["net"] (lSp K (sp_open_edges K)) := okD (f_open_edges C) sc_open_edges (fun ds L Q E h => by unfold sp_open_edges at h; split at h <;> first | rfl | exact h.elim) (dv_open_edges C (ok_surpluses C)) (rd_open_edges (cl_Net C) (na_Net_faces C))
theorem ok_law_sub {P : Program} {w : World} {K : PySem.W.Frag} {mg : Str → Option Value} {base : Heap} (C : Hc K mg) : FnOk P w K mg base CX0 3 (He.fAd K (("_law_sub", none))) (fdAt K (("_law_sub", none))) ["_law_p", "_law_q"] (lSp K sp_law_sub) := okD (f_law_sub C) sc_law_sub (fun ds L Q E h => by unfold sp_law_sub at h; split at h <;> first | rfl | exact h.elim) (dv_law_sub C (ok_law_add C)) rd_law_sub
theorem ok_law_handed {P : Program} {w : World} {K : PySem.W.Frag} {mg : Str → Option Value} {base : Heap} (C : Hc K mg) : FnOk P w K mg base CX0 3 (He.fAd K (("_law_handed", none))) (fdAt K (("_law_handed", none))) ["_law_bag_here", "_law_spots_here"] (lSp K sp_law_handed) := okD (f_law_handed C) sc_law_handed (fun ds L Q E h => by unfold sp_law_handed at h; split at h <;> first | rfl | exact h.elim) (dv_law_handed C (ok_law_hand C)) rd_law_handed
theorem ok_law_ring {P : Program} {w : World} {K : PySem.W.Frag} {mg : Str → Option Value} {base : Heap} (C : Hc K mg) : FnOk P w K mg base CX0 3 (He.fAd K (("_law_ring", none))) (fdAt K (("_law_ring", none))) ["_law_bag_here"] (lSp K sp_law_ring) := okD (f_law_ring C) sc_law_ring (fun ds L Q E h => by unfold sp_law_ring at h; split at h <;> first | rfl | exact h.elim) (dv_law_ring C (ok_law_draw C) (ok_law_of C) (ok_law_low C)) rd_law_ring
theorem ok_law_spots {P : Program} {w : World} {K : PySem.W.Frag} {mg : Str → Option Value} {base : Heap} (C : Hc K mg) : FnOk P w K mg base CX0 3 (He.fAd K (("_law_spots", none))) (fdAt K (("_law_spots", none))) ["_law_bag_here", "_law_m"] (lSp K sp_law_spots) := okD (f_law_spots C) sc_law_spots (fun ds L Q E h => by unfold sp_law_spots at h; split at h <;> first | rfl | exact h.elim) (dv_law_spots C (ok_law_draw C) (ok_law_number C)) rd_law_spots
theorem ok_law_heights {P : Program} {w : World} {K : PySem.W.Frag} {mg : Str → Option Value} {base : Heap} (C : Hc K mg) : FnOk P w K mg base CX0 3 (He.fAd K (("_law_heights", none))) (fdAt K (("_law_heights", none))) ["_law_bag_here"] (lSp K sp_law_heights) := okD (f_law_heights C) sc_law_heights (fun ds L Q E h => by unfold sp_law_heights at h; split at h <;> first | rfl | exact h.elim) (dv_law_heights C (ok_law_number C) (ok_law_lt C) (ok_law_draw C)) rd_law_heights
theorem ok_Net_init {P : Program} {w : World} {K : PySem.W.Frag} {mg : Str → Option Value} {base : Heap} (C : Hc K mg) : FnOk P w K mg base CX0 4 (He.fAd K (("Net", some "__init__"))) (fdAt K (("Net", some "__init__"))) ["self", "corners", "faces"] (lSp K (sp_Net_init K)) := okD (f_Net_init C) sc_Net_init (fun ds L Q E h => by unfold sp_Net_init at h; split at h <;> first | rfl | exact h.elim) (dv_Net_init C (ok_is_corner C) (ok_is_face C) (ok_exact C)) (rd_Net_init (cl_Net C) (na_Net_corners C) (na_Net_faces C))
theorem ok_is_closed {P : Program} {w : World} {K : PySem.W.Frag} {mg : Str → Option Value} {base : Heap} (C : Hc K mg) : FnOk P w K mg base CX0 4 (He.fAd K (("is_closed", none))) (fdAt K (("is_closed", none))) ["net"] (lSp K (sp_is_closed K)) := okD (f_is_closed C) sc_is_closed (fun ds L Q E h => by unfold sp_is_closed at h; split at h <;> first | rfl | exact h.elim) (dv_is_closed C (ok_open_edges C)) rd_is_closed
theorem ok_volume {P : Program} {w : World} {K : PySem.W.Frag} {mg : Str → Option Value} {base : Heap} (C : Hc K mg) : FnOk P w K mg base CX0 4 (He.fAd K (("volume", none))) (fdAt K (("volume", none))) ["net"] (lSp K (sp_volume K)) := okD (f_volume C) sc_volume (fun ds L Q E h => by unfold sp_volume at h; split at h <;> first | rfl | exact h.elim) (dv_volume C (ok_scaled C) (ok_determinant C) (ok_exact C)) (rd_volume (cl_Net C) (na_Net_corners C) (na_Net_faces C))
theorem ok_law_area {P : Program} {w : World} {K : PySem.W.Frag} {mg : Str → Option Value} {base : Heap} (C : Hc K mg) : FnOk P w K mg base CX0 4 (He.fAd K (("_law_area", none))) (fdAt K (("_law_area", none))) ["_law_ring_here"] (lSp K sp_law_area) := okD (f_law_area C) sc_law_area (fun ds L Q E h => by unfold sp_law_area at h; split at h <;> first | rfl | exact h.elim) (dv_law_area C (ok_law_add C) (ok_law_sub C) (ok_law_mul C)) rd_law_area
theorem ok_law_det {P : Program} {w : World} {K : PySem.W.Frag} {mg : Str → Option Value} {base : Heap} (C : Hc K mg) : FnOk P w K mg base CX0 4 (He.fAd K (("_law_det", none))) (fdAt K (("_law_det", none))) ["_law_a", "_law_b", "_law_third"] (lSp K sp_law_det) := okD (f_law_det C) sc_law_det (fun ds L Q E h => by unfold sp_law_det at h; split at h <;> first | rfl | exact h.elim) (dv_law_det C (ok_law_sub C) (ok_law_mul C) (ok_law_add C)) rd_law_det
theorem ok_law_any {P : Program} {w : World} {K : PySem.W.Frag} {mg : Str → Option Value} {base : Heap} (C : Hc K mg) : FnOk P w K mg base CX0 4 (He.fAd K (("_law_any", none))) (fdAt K (("_law_any", none))) ["_law_bag_here"] (lSp K sp_law_any) := okD (f_law_any C) sc_law_any (fun ds L Q E h => by unfold sp_law_any at h; split at h <;> first | rfl | exact h.elim) (dv_law_any C (ok_law_draw C) (ok_law_spots C) (ok_law_heights C)) rd_law_any
theorem ok_law_volume {P : Program} {w : World} {K : PySem.W.Frag} {mg : Str → Option Value} {base : Heap} (C : Hc K mg) : FnOk P w K mg base CX0 5 (He.fAd K (("_law_volume", none))) (fdAt K (("_law_volume", none))) ["_law_pair"] (lSp K sp_law_volume) := okD (f_law_volume C) sc_law_volume (fun ds L Q E h => by unfold sp_law_volume at h; split at h <;> first | rfl | exact h.elim) (dv_law_volume C (ok_law_add C) (ok_law_det C) (ok_law_mul C)) rd_law_volume
theorem ok_loft {P : Program} {w : World} {K : PySem.W.Frag} {mg : Str → Option Value} {base : Heap} (C : Hc K mg) : FnOk P w K mg base (L2.CX P w) 6 (He.fAd K (("loft", none))) (fdAt K (("loft", none))) ["lower", "z0", "upper", "z1"] (lSp K (sp_loft K)) := okDX (f_loft C) sc_loft (fun ds L Q E h => by unfold sp_loft at h; split at h <;> first | rfl | exact h.elim) (dv_loft C (ok_compare C) (ok_Net_init C)) rd_loft
theorem ok_law_right {P : Program} {w : World} {K : PySem.W.Frag} {mg : Str → Option Value} {base : Heap} (C : Hc K mg) : FnOk P w K mg base CX0 7 (He.fAd K (("_law_right", none))) (fdAt K (("_law_right", none))) ["_law_made", "_law_pair"] (lSp K (sp_law_right K)) := okD (f_law_right C) sc_law_right (fun ds L Q E h => by unfold sp_law_right at h; split at h <;> first | rfl | exact h.elim) (dv_law_right C (ok_law_same C) (ok_law_volume C) (ok_volume C) (ok_open_edges C) (ok_is_closed C)) (rd_law_right (cl_Net C) (na_Net_corners C) (na_Net_faces C))
theorem ok_law_prism {P : Program} {w : World} {K : PySem.W.Frag} {mg : Str → Option Value} {base : Heap} (C : Hc K mg) : FnOk P w K mg base CX0 7 (He.fAd K (("_law_prism", none))) (fdAt K (("_law_prism", none))) ["_law_bag_here"] (lSp K (sp_law_prism K)) := okD (f_law_prism C) sc_law_prism (fun ds L Q E h => by unfold sp_law_prism at h; split at h <;> first | rfl | exact h.elim) (dv_law_prism C (ok_law_ring C) (ok_law_draw C) (ok_law_low C) (ok_law_add C) (ok_law_of C) (ok_loft C) (ok_law_handed C) (ok_law_mul C) (ok_law_sub C) (ok_law_area C) (ok_law_same C) (ok_law_loft C) (ok_volume C)) (rd_law_prism (cl_Net C) (na_Net_faces C))
theorem ok_law_once {P : Program} {w : World} {K : PySem.W.Frag} {mg : Str → Option Value} {base : Heap} (C : Hc K mg) (TB : LamX.TabB base mg (He.cT K (("_law_once", none))).1 (He.cT K (("_law_once", none))).2) : FnOk P w K mg base CX0 9 (He.fAd K (("_law_once", none))) (fdAt K (("_law_once", none))) ["_law_bag_here"] (lSp K (sp_law_once K)) := okDL (f_law_once C) sc_law_once (fun ds L Q E h => by unfold sp_law_once at h; split at h <;> first | rfl | exact h.elim) (dv_law_once C (ok_law_any C) (ok_law_handed C) (ok_law_hand C) (ok_law_draw C) (ok_loft C) (ok_law_lt C) (ok_law_same C) (ok_law_right C) (ok_law_loft C) TB) (rd_law_once (xm_BadLoft C) (ec_BadLoft C) (kit_self) (kv_BadLoft C))
theorem ok_law {P : Program} {w : World} {K : PySem.W.Frag} {mg : Str → Option Value} {base : Heap} (C : Hc K mg) (TB : LamX.TabB base mg (He.cT K (("_law_once", none))).1 (He.cT K (("_law_once", none))).2) : FnOk P w K mg base CX0 10 (He.fAd K (("law", none))) (fdAt K (("law", none))) ["_law_script"] (lSp K (sp_law K)) := okD (f_law C) sc_law (fun ds L Q E h => by unfold sp_law at h; split at h <;> first | rfl | exact h.elim) (dv_law C (ok_law_bag C) (ok_law_prism C) (ok_law_once C TB)) (rd_law )
theorem facts {P : Program} {w : World} {K : PySem.W.Frag} {h : Heap} {mg : Str → Option Value} {f : Addr} (X : K.In h) (G : h.Ns mainGlobals mg) (hfa : mg ("law" : Str) = some (.ref f)) (c : He.SaysD fa fn K) (ce : ex K = true) :
    ∃ fd : FuncData, (∀ (s : Shared) (v : Value), BindsTo s fd ⟨[v], []⟩ [("_law_script", v)]) ∧ ∀ base : Heap, K.In base → base.Ns mainGlobals mg → LamX.TabB base mg (He.cT K (("_law_once", none))).1 (He.cT K (("_law_once", none))).2 → FnOk P w K mg base CX0 10 f fd ["_law_script"] (lSp K (sp_law K)) := by
  have C : Hc K mg := ⟨⟨h, X, G, c, ce⟩⟩
  have e := hfa.symm.trans (g_law C)
  cases e
  have b := FunD.bindsA (ps := ["_law_script"]) (f_law C) fun _ _ _ _ _ _ us hl => match us, hl with | [_], _ => rfl
  exact ⟨_, fun s v => b s [v] rfl, fun base _ _ TB => ok_law C TB⟩
theorem tab_rep {K : PySem.W.Frag} {H : Hp} {P : Addr} {q : Str} (hT : H P = some (.tbl #[])) : RepH K H (Z.up (fun _ => none) P (.tab q)) := by
  intro b o e
  by_cases hb : b = P
  · subst hb
    rw [up_same] at e
    cases e
    exact LamX.TabS.nil hT
  · rw [up_ne hb] at e
    exact nomatch e
theorem tab_are {K : PySem.W.Frag} : ∃ P q, lamT K = [(P, q)] ∧ P = (He.cT K (("_law_once", none))).2 := ⟨_, _, rfl, rfl⟩
theorem sp_start {K : PySem.W.Frag} {H : Hp} {a : Addr} {ns : List Int} (hT : H (He.cT K (("_law_once", none))).2 = some (.tbl #[])) (hS : SqL K H a (ns.map V.int)) : lSp K (sp_law K) [.ref a] H (fun v _ => v = .bl true) fun _ _ _ => False := by
  obtain ⟨P, q, eT, eP⟩ := tab_are (K := K)
  rw [← eP] at hT
  have r0 := tab_rep (K := K) (q := q) hT
  have t0 : TabsAre (lamT K) (Z.up (fun _ => none) P (.tab q)) := by
    rw [eT]
    refine ⟨fun p hp => ?_, fun P' q' e => ?_⟩
    · cases List.mem_singleton.mp hp
      exact up_same
    · by_cases z : P' = P
      · subst z
        rw [up_same] at e
        cases e
        exact List.mem_singleton.mpr rfl
      · rw [up_ne z] at e
        exact nomatch e
  have fin : ∀ (L : Lp) (d : D), RepH K H L → TabsAre (lamT K) L → (d = .ilst (ns.map D.int) ∨ d = .scr ns ∨ ∃ a, d = .ref a ∧ L a = some (.lst (ns.map D.int))) → RelD K H d (.ref a) → lSp K (sp_law K) [.ref a] H (fun v _ => v = .bl true) fun _ _ _ => False := by
    intro L d rh hTa hd rd
    refine ⟨[d], L, (fun d _ => d = D.bl true : VK'), (fun _ _ _ => False : XK'), .cons rd .nil, rh, ?_, ?_, ?_⟩
    · exact ⟨ns, hd, hTa, fun _ => rfl⟩
    · intro d L1 v H1 q _ _ rd
      have q : d = D.bl true := q
      subst q
      cases rd
      rfl
    · intro _ _ _ _ _ z
      exact False.elim z
  rcases hS with (h | ⟨o, h⟩) | hk
  · have ne : a ≠ P := fun z => by rw [z] at h; rw [hT] at h; cases h
    refine fin (Z.up (Z.up (fun _ => none) P (.tab q)) a (.lst (ns.map D.int))) (.ref a) (fun b u e => ?_) (t0.up (fun q2 e => ?_) fun q2 e => nomatch e) (.inr (.inr ⟨a, rfl, up_same⟩)) (.ref a)
    · by_cases hb : b = a
      · subst hb
        rw [up_same] at e
        cases e
        exact ⟨_, h, RelDs.of_ints ns⟩
      · rw [up_ne hb] at e
        exact r0 b u e
    · rw [up_ne ne] at e
      exact nomatch e
  · exact fin _ _ r0 t0 (.inl rfl) (.ilst ⟨o, h⟩ (RelDs.of_ints ns))
  · exact fin _ _ r0 t0 (.inr (.inl rfl)) (.scr fun H' => .inr hk)
end Hd
open PySem PySem.W PySem.Calls PyProof.Rows
theorem PySem.Challenge.cw_mostlaid_k24_lofts_told_holds : PySem.Challenge.rw_mostlaid_k24_lofts_told.Holds := by
  w_on; o_law
  refine HandSHeadRun.head_imp (r := OpenLaw.row PySem.Challenge.rw_mostlaid_k24_lofts_told) (q := view (OpenLaw.row PySem.Challenge.rw_mostlaid_k24_lofts_told).prog [0, 58]) (H := Hd.hk) (ob := Hd.ob) (M := 40000) (loose := Hd.loose) (d := HandSHeadRun.topDef (OpenLaw.row PySem.Challenge.rw_mostlaid_k24_lofts_told).prog 58) (kwd := []) Hd.ob_eq Hd.run (by kernel_rfl) (by kernel_rfl) (by kernel_rfl) (by rfl) (by first | assumption | decide +kernel) (by decide +kernel) ⟨rfl, rfl, rfl, rfl, rfl, by decide +kernel⟩ ?hw ?hc
  case hw => w_witness2
  case hc =>
    refine LamX.walk_ofTsE (l := PySem.Challenge.rw_mostlaid_k24_lofts_told) (n := 63) (k := 10) (x := "_law_script") (CX := fun _ => L2.CX0) rfl (by decide) (by kernel_rfl) ⟨rfl, by decide, by decide⟩ ?F (fun _ _ _ _ _ z => z)
    intro w mg fa h Y G hmg0
    obtain ⟨K, KX, c⟩ := Y
    have hmg : mg ("law" : PySem.Str) = some (.ref fa) := by
      have e : (HandSHeadRun.topDef (OpenLaw.row PySem.Challenge.rw_mostlaid_k24_lofts_told).prog 58).name = ("law" : PySem.Str) := by kernel_rfl
      rw [← e]
      exact hmg0
    obtain ⟨fd, hb, hF⟩ := Hd.facts (P := (PySem.Challenge.rw_mostlaid_k24_lofts_told).prog) (w := w) KX G hmg c.t.d c.more
    refine ⟨K, KX, fd, [He.cT K (("_law_once", none))], Z.lSp K (Hd.sp_law K), fun p hp => ?_, fun p hp => ?_, fun p hp => ?_, hb, fun H a ns _ _ hT hS => Hd.sp_start (hT _ (List.mem_singleton.mpr rfl)) hS, fun base hb1 hb2 TB => hF base hb1 hb2 (TB _ (List.mem_singleton.mpr rfl))⟩
    · cases List.mem_singleton.mp hp
      exact c.empty _ (List.mem_singleton.mpr rfl)
    · cases List.mem_singleton.mp hp
      exact c.out _ (List.mem_singleton.mpr rfl)
    · cases List.mem_singleton.mp hp
      exact PySem.W.codeHd_of_K KX (c.hd _ (List.mem_singleton.mpr rfl))
