import PyProof.Rows.All
import Wide.All
import OpenK.AllK
import Wide.FinOn
import HandS.ForMost
import HandS.Exc
import HandS.TryOnly
import HandS.ExcOwn
import HandS.WordsExc
import HandS.CallSlots
import HandS.Deep
import HandS.TupSets
import HandS.IsInst
import HandS.Wide
import HandS.Conv
import HandS.Flow
import HandS.ExcInit
import HandS.TupLe
import HandS.Style
import HandS.NestedK
import HandS.ExcSuper
import KE.KExcSuper
import KE.KSuper
import HandS.ExcField
import PyProof.ReprRoads
import PyProof.ReprLen
import KE.RegKSuper
import KE.RegKTryMore
import PySem.Challenge.RW_murmur_k14_replicas_start_again
set_option Elab.async false
set_option linter.all false
set_option maxRecDepth 100000
namespace Mu
open PySem L2

/-! ## values with their tuples by value -/
inductive D where
  | non | bl (b : Bool) | int (i : Int) | str (x : Str) | tup (ds : List D) | fls (ds : List D) | ref (a : Addr) | ty (n : String)
instance : Inhabited D := ⟨.non⟩

/-- a list that nobody writes -/
def Frl (K : PySem.W.Frag) (H : Hp) (a : Addr) (xs : List V) : Prop :=
  (∃ o, H a = some (.frz o (.lst xs))) ∨ ∀ H', SqL K H' a xs

mutual
inductive Rp (K : PySem.W.Frag) (H : Hp) : V → D → Prop
  | non : Rp K H .non .non
  | bl (b : Bool) : Rp K H (.bl b) (.bl b)
  | int (i : Int) : Rp K H (.int i) (.int i)
  | str (x : Str) : Rp K H (.str x) (.str x)
  | ref (a : Addr) : Rp K H (.ref a) (.ref a)
  | ty (n : String) : Rp K H (.ty n) (.ty n)
  | tup {a : Addr} {xs : List V} {ds : List D} : SqT K H a xs → Rps K H xs ds → Rp K H (.ref a) (.tup ds)
  | fls {a : Addr} {xs : List V} {ds : List D} : Frl K H a xs → Rps K H xs ds → Rp K H (.ref a) (.fls ds)
inductive Rps (K : PySem.W.Frag) (H : Hp) : List V → List D → Prop
  | nil : Rps K H [] []
  | cons {v : V} {vs : List V} {d : D} {ds : List D} : Rp K H v d → Rps K H vs ds → Rps K H (v :: vs) (d :: ds)
end

/-- what stands at an address, its tuples by value -/
inductive AO where
  | lst (ds : List D) | ins (c : String) (fs : List (Str × D)) | dk (kvs : List (Key × D))
abbrev AHp := Addr → Option AO
def ua (A : AHp) (a : Addr) (o : AO) : AHp := fun b => if b = a then some o else A b
theorem ua_same {A : AHp} {a : Addr} {o : AO} : ua A a o a = some o := by unfold ua; rw [if_pos rfl]
theorem ua_ne {A : AHp} {a b : Addr} {o : AO} (h : b ≠ a) : ua A a o b = A b := by unfold ua; rw [if_neg h]
theorem ua_ua {A : AHp} {a : Addr} {o u : AO} : ua (ua A a o) a u = ua A a u := by
  funext b; unfold ua; split <;> rfl
theorem ua_id {A : AHp} {a : Addr} {o : AO} (h : A a = some o) : ua A a o = A := by
  funext b; unfold ua; split
  · rename_i e; rw [e, h]
  · rfl
/-- an address forgotten -/
def ud (A : AHp) (a : Addr) : AHp := fun b => if b = a then none else A b
theorem ud_same {A : AHp} {a : Addr} : ud A a a = none := by unfold ud; rw [if_pos rfl]
theorem ud_ne {A : AHp} {a b : Addr} (h : b ≠ a) : ud A a b = A b := by unfold ud; rw [if_neg h]

structure Bs where
  κ : String → Addr
  H0 : Hp
  A0 : AHp

/-- named values, side by side -/
def Rfs (K : PySem.W.Frag) (H : Hp) {α : Type} : List (α × V) → List (α × D) → Prop := Paired fun p q => p.1 = q.1 ∧ Rp K H p.2 q.2

def RO (κ : String → Addr) (K : PySem.W.Frag) (H : Hp) (a : Addr) : AO → Prop
  | .lst ds => ∃ xs, H a = some (.lst xs) ∧ Rps K H xs ds
  | .ins c fs => ∃ dx ws, H a = some (.ins (κ c) dx ws) ∧ Rfs K H ws fs
  | .dk kvs => ∃ ws, H a = some (.dK ws) ∧ Rfs K H ws kvs
def RH (κ : String → Addr) (K : PySem.W.Frag) (H : Hp) (A : AHp) : Prop := ∀ a o, A a = some o → RO κ K H a o
def Step (H : Hp) (A : AHp) (H' : Hp) (A' : AHp) : Prop := ∀ a o, H a = some o → A a = none → H' a = some o ∧ A' a = none
theorem Step.refl (H : Hp) (A : AHp) : Step H A H A := fun _ _ h h' => ⟨h, h'⟩
theorem Step.trans {H H1 H2 : Hp} {A A1 A2 : AHp} (s : Step H A H1 A1) (t : Step H1 A1 H2 A2) : Step H A H2 A2 := fun a o h h' =>
  let ⟨h1, h2⟩ := s a o h h'; t a o h1 h2

section
variable {κ : String → Addr} {K : PySem.W.Frag} {H H' : Hp} {A A' : AHp} {a : Addr}
theorem RO.some {o : AO} (h : RO κ K H a o) : ∃ u, H a = some u ∧ (∀ ys, u ≠ .tup ys) ∧ (∀ ob w, u ≠ .frz ob w) := by
  cases o with
  | lst ds => obtain ⟨xs, e, _⟩ := h; exact ⟨_, e, fun _ z => (by cases z), fun _ _ z => (by cases z)⟩
  | ins c fs => obtain ⟨dx, ws, e, _⟩ := h; exact ⟨_, e, fun _ z => (by cases z), fun _ _ z => (by cases z)⟩
  | dk kvs => obtain ⟨ws, e, _⟩ := h; exact ⟨_, e, fun _ z => (by cases z), fun _ _ z => (by cases z)⟩
theorem RH.free (r : RH κ K H A) (h : H a = none) : A a = none := by
  cases e : A a with
  | none => rfl
  | some o => obtain ⟨u, q, _, _⟩ := (r a o e).some; rw [h] at q; cases q
theorem RH.hid (r : RH κ K H A) {u : HO} (h : H a = some u) (t : (∃ ys, u = .tup ys) ∨ ∃ ob w, u = .frz ob w) : A a = none := by
  cases e : A a with
  | none => rfl
  | some o =>
    obtain ⟨v, q, n1, n2⟩ := (r a o e).some
    rw [h] at q; cases q
    rcases t with ⟨ys, z⟩ | ⟨ob, w, z⟩
    · exact absurd z (n1 ys)
    · exact absurd z (n2 ob w)
theorem Frl.sq {xs : List V} (h : Frl K H a xs) : SqL K H a xs := by
  rcases h with ⟨o, e⟩ | h
  · exact .inl (.inr ⟨o, e⟩)
  · exact h H
/-- what is never written stands -/
def Stays (H H' : Hp) : Prop := ∀ a u, H a = some u → ((∃ ys, u = .tup ys) ∨ ∃ ob w, u = .frz ob w) → H' a = some u
theorem Stays.sqt (s : Stays H H') {xs : List V} (h : SqT K H a xs) : SqT K H' a xs := by
  rcases h with (h | ⟨o, h⟩) | h
  · exact .inl (.inl (s _ _ h (.inl ⟨_, rfl⟩)))
  · exact .inl (.inr ⟨o, s _ _ h (.inr ⟨_, _, rfl⟩)⟩)
  · exact .inr h
theorem Stays.frl (s : Stays H H') {xs : List V} (h : Frl K H a xs) : Frl K H' a xs := by
  rcases h with ⟨o, e⟩ | h
  · exact .inl ⟨o, s _ _ e (.inr ⟨_, _, rfl⟩)⟩
  · exact .inr h
mutual
theorem Stays.rp (s : Stays H H') : ∀ {v : V} {d : D}, Rp K H v d → Rp K H' v d
  | _, _, .non => .non
  | _, _, .bl b => .bl b
  | _, _, .int i => .int i
  | _, _, .str x => .str x
  | _, _, .ref a => .ref a
  | _, _, .ty n => .ty n
  | _, _, .tup h t => .tup (s.sqt h) (Stays.rps s t)
  | _, _, .fls h t => .fls (s.frl h) (Stays.rps s t)
theorem Stays.rps (s : Stays H H') : ∀ {vs : List V} {ds : List D}, Rps K H vs ds → Rps K H' vs ds
  | _, _, .nil => .nil
  | _, _, .cons h t => .cons (Stays.rp s h) (Stays.rps s t)
end
theorem RH.stays (r : RH κ K H A) (s : Step H A H' A') : Stays H H' := fun a u e t => (s a u e (r.hid e t)).1
theorem RH.rp (r : RH κ K H A) (s : Step H A H' A') {v : V} {d : D} (h : Rp K H v d) : Rp K H' v d := (r.stays s).rp h
theorem RH.rps (r : RH κ K H A) (s : Step H A H' A') {vs : List V} {ds : List D} (h : Rps K H vs ds) : Rps K H' vs ds := (r.stays s).rps h
theorem Stays.ro (s : Stays H H') {o : AO} (h : RO κ K H a o) (e : H' a = H a) : RO κ K H' a o := by
  cases o with
  | lst ds => obtain ⟨xs, q, t⟩ := h; exact ⟨xs, e.trans q, s.rps t⟩
  | ins c fs => obtain ⟨dx, ws, q, t⟩ := h; exact ⟨dx, ws, e.trans q, Paired.mapP t fun _ _ z => ⟨z.1, s.rp z.2⟩⟩
  | dk kvs => obtain ⟨ws, q, t⟩ := h; exact ⟨ws, e.trans q, Paired.mapP t fun _ _ z => ⟨z.1, s.rp z.2⟩⟩
/-- a list that A doesn't tell is written -/
theorem Stays.wr {p : Addr} {xs ys : List V} (e : H p = some (.lst xs)) : Stays H (upd H p (.lst ys)) := fun a u h t => by
  have ne : a ≠ p := by
    intro z
    rw [z, e] at h
    cases h
    rcases t with ⟨_, z⟩ | ⟨_, _, z⟩ <;> cases z
  rw [upd_ne ne]; exact h
theorem RH.rfs (r : RH κ K H A) (s : Step H A H' A') {α : Type} {ws : List (α × V)} {fs : List (α × D)} (h : Rfs K H ws fs) : Rfs K H' ws fs :=
  Paired.mapP h fun _ _ z => ⟨z.1, r.rp s z.2⟩
/-- an object of the heap that the step leaves -/
theorem RH.ro (r : RH κ K H A) (s : Step H A H' A') {o : AO} (h : RO κ K H a o) (e : H' a = H a) : RO κ K H' a o := by
  cases o with
  | lst ds => obtain ⟨xs, q, t⟩ := h; exact ⟨xs, e.trans q, r.rps s t⟩
  | ins c fs => obtain ⟨dx, ws, q, t⟩ := h; exact ⟨dx, ws, e.trans q, r.rfs s t⟩
  | dk kvs => obtain ⟨ws, q, t⟩ := h; exact ⟨ws, e.trans q, r.rfs s t⟩
/-- a new object that A doesn't tell -/
theorem Step.more {p : Addr} {u : HO} (n : H p = none) (A : AHp) : Step H A (upd H p u) A := fun a o h h' => ⟨by rw [upd_ne (ne_of_none h n)]; exact h, h'⟩
theorem Step.new {p : Addr} {u : HO} {o : AO} (n : H p = none) (A : AHp) : Step H A (upd H p u) (ua A p o) := fun a o' h h' =>
  ⟨by rw [upd_ne (ne_of_none h n)]; exact h, by rw [ua_ne (ne_of_none h n)]; exact h'⟩
theorem Step.set {p : Addr} {u : HO} {o o' : AO} (e : A p = some o') : Step H A (upd H p u) (ua A p o) := fun a z h h' => by
  have ne : a ≠ p := fun q => by rw [q, e] at h'; cases h'
  exact ⟨by rw [upd_ne ne]; exact h, by rw [ua_ne ne]; exact h'⟩
theorem RH.more (r : RH κ K H A) {p : Addr} {u : HO} (n : H p = none) : RH κ K (upd H p u) A := fun a o e => by
  obtain ⟨w, q, _⟩ := (r a o e).some
  exact r.ro (Step.more n A) (r a o e) (upd_ne (ne_of_none q n))
theorem RH.new (r : RH κ K H A) {p : Addr} {u : HO} {o : AO} (n : H p = none) (h : RO κ K (upd H p u) p o) : RH κ K (upd H p u) (ua A p o) := fun a o' e => by
  by_cases q : a = p
  · subst q; rw [ua_same] at e; cases e; exact h
  · rw [ua_ne q] at e
    exact r.ro (Step.more n A) (r a o' e) (upd_ne q)
theorem RH.set (r : RH κ K H A) {p : Addr} {u : HO} {o o' : AO} (ep : A p = some o') (h : RO κ K (upd H p u) p o) : RH κ K (upd H p u) (ua A p o) := fun a z e => by
  by_cases q : a = p
  · subst q; rw [ua_same] at e; cases e; exact h
  · rw [ua_ne q] at e
    have st : Step H A (upd H p u) (ua A p o) := Step.set ep
    exact r.ro st (r a z e) (upd_ne q)
end

/-! ## frames -/
abbrev AEnv := List (Option D)
structure RE (K : PySem.W.Frag) (H : Hp) (σ : St) (ρ : AEnv) : Prop where
  len : σ.length = ρ.length
  at_ : ∀ (i : Nat) (d : D), ρ[i]? = some (some d) → ∃ v, σ[i]? = some (some v) ∧ Rp K H v d
structure HR (B : Bs) (K : PySem.W.Frag) (H : Hp) (A : AHp) : Prop where
  hp : RH B.κ K H A
  st : Step B.H0 B.A0 H A
structure Rel (B : Bs) (K : PySem.W.Frag) (σ : St) (H : Hp) (ρ : AEnv) (A : AHp) : Prop where
  hr : HR B K H A
  en : RE K H σ ρ
section
variable {B : Bs} {K : PySem.W.Frag} {σ : St} {H H' : Hp} {ρ : AEnv} {A A' : AHp}
theorem HR.step (r : HR B K H A) (s : Step H A H' A') (h : RH B.κ K H' A') : HR B K H' A' := ⟨h, r.st.trans s⟩
theorem RE.step (e : RE K H σ ρ) {κ : String → Addr} (r : RH κ K H A) (s : Step H A H' A') : RE K H' σ ρ := ⟨e.len, fun i d q => by
  obtain ⟨v, h1, h2⟩ := e.at_ i d q
  exact ⟨v, h1, r.rp s h2⟩⟩
theorem Rel.step (r : Rel B K σ H ρ A) (s : Step H A H' A') (h : RH B.κ K H' A') : Rel B K σ H' ρ A' := ⟨r.hr.step s h, r.en.step r.hr.hp s⟩
theorem RE.stay (e : RE K H σ ρ) (s : Stays H H') : RE K H' σ ρ := ⟨e.len, fun i d q => by
  obtain ⟨v, h1, h2⟩ := e.at_ i d q
  exact ⟨v, h1, s.rp h2⟩⟩
theorem RE.set (e : RE K H σ ρ) {i : Nat} {v : V} {d : D} (h : Rp K H v d) : RE K H (σ.set i (some v)) (ρ.set i (some d)) := by
  refine ⟨by simp [e.len], fun j w q => ?_⟩
  by_cases hj : i = j
  · subst hj
    by_cases hl : i < ρ.length
    · rw [List.getElem?_set_self hl] at q
      cases q
      exact ⟨v, by rw [List.getElem?_set_self (by rw [e.len]; exact hl)], h⟩
    · rw [List.getElem?_eq_none (by simpa using hl)] at q; cases q
  · rw [List.getElem?_set_ne hj] at q
    rw [List.getElem?_set_ne hj]
    exact e.at_ j w q
theorem RE.unset (e : RE K H σ ρ) {i : Nat} : RE K H (σ.set i none) (ρ.set i none) := by
  refine ⟨by simp [e.len], fun j w q => ?_⟩
  by_cases hj : i = j
  · subst hj
    by_cases hl : i < ρ.length
    · rw [List.getElem?_set_self hl] at q; cases q
    · rw [List.getElem?_eq_none (by simpa using hl)] at q; cases q
  · rw [List.getElem?_set_ne hj] at q
    rw [List.getElem?_set_ne hj]
    exact e.at_ j w q
/-- a slot forgotten in the words alone -/
theorem RE.drop (e : RE K H σ ρ) {i : Nat} {x : Option V} (h : (ρ.set i none).length = ρ.length := by simp) : RE K H (σ.set i x) (ρ.set i none) := by
  refine ⟨by simp [e.len], fun j w q => ?_⟩
  by_cases hj : i = j
  · subst hj
    by_cases hl : i < ρ.length
    · rw [List.getElem?_set_self hl] at q; cases q
    · rw [List.getElem?_eq_none (by simpa using hl)] at q; cases q
  · rw [List.getElem?_set_ne hj] at q
    rw [List.getElem?_set_ne hj]
    exact e.at_ j w q
end

/-! ## readings over data -/
abbrev AK := D → AHp → Prop
/-- what is wanted of an exception: the frame, its class, what it tells -/
abbrev EA := AEnv → String → D → AHp → Prop
abbrev TEA := EA → AEnv → AHp → AK → Prop
abbrev TTA := EA → AEnv → AHp → (Bool → AHp → Prop) → Prop
abbrev TAA := EA → AEnv → AHp → (List D → AHp → Prop) → Prop
structure EndsA where
  nx : AEnv → AHp → Prop
  rt : AK
  bk : AEnv → AHp → Prop
  ct : AEnv → AHp → Prop
abbrev TSA := EA → EndsA → AEnv → AHp → Prop
abbrev TGA := EA → D → AEnv → AHp → (AEnv → AHp → Prop) → Prop
def fld (c : String) : Str := if c = "Malformed" then "line" else "name"

structure Lnk (B : Bs) (X : Cx) (E : EA) : Prop where
  ex : ∃ W : WX, Takes X W ∧ ∀ (σ : St) (H : Hp) (ρ : AEnv) (A : AHp) (c : String) (pl : D) (da : Addr) (v : V), Rel B X.K σ H ρ A → E ρ c pl A →
    H da = some (.xd [(fld c, v)]) → A da = none → Rp X.K H v pl → W (.ref (B.κ c)) (some da) σ H

def eOf (B : Bs) (K : PySem.W.Frag) (T : AEnv → AHp → AK → Prop) : TE := fun σ H Q => ∃ ρ A QA, Rel B K σ H ρ A ∧ T ρ A QA ∧
  ∀ v d H' A', Rel B K σ H' ρ A' → Step H A H' A' → Rp K H' v d → QA d A' → Q v H'
def tstOf (B : Bs) (K : PySem.W.Frag) (T : AEnv → AHp → (Bool → AHp → Prop) → Prop) : TT := fun σ H Q => ∃ ρ A QA, Rel B K σ H ρ A ∧ T ρ A QA ∧
  ∀ b H' A', Rel B K σ H' ρ A' → Step H A H' A' → QA b A' → Q b H'
def aOf (B : Bs) (K : PySem.W.Frag) (T : AEnv → AHp → (List D → AHp → Prop) → Prop) : TA := fun σ H Q => ∃ ρ A QA, Rel B K σ H ρ A ∧ T ρ A QA ∧
  ∀ vs ds H' A', Rel B K σ H' ρ A' → Step H A H' A' → Rps K H' vs ds → QA ds A' → Q vs H'
def sOf (B : Bs) (K : PySem.W.Frag) (T : EndsA → AEnv → AHp → Prop) : TS := fun Dn σ H => ∃ ρ A DA, Rel B K σ H ρ A ∧ T DA ρ A ∧
  (∀ σ' H' ρ' A', Rel B K σ' H' ρ' A' → Step H A H' A' → DA.nx ρ' A' → Dn.nx σ' H') ∧ (∀ v d H' A', HR B K H' A' → Step H A H' A' → Rp K H' v d → DA.rt d A' → Dn.rt v H') ∧
  (∀ σ' H' ρ' A', Rel B K σ' H' ρ' A' → Step H A H' A' → DA.bk ρ' A' → Dn.bk σ' H') ∧ (∀ σ' H' ρ' A', Rel B K σ' H' ρ' A' → Step H A H' A' → DA.ct ρ' A' → Dn.ct σ' H')
def gOf (B : Bs) (K : PySem.W.Frag) (T : D → AEnv → AHp → (AEnv → AHp → Prop) → Prop) : TG := fun v σ H Q => ∃ ρ A d QA, Rel B K σ H ρ A ∧ Rp K H v d ∧ T d ρ A QA ∧
  ∀ σ' H' ρ' A', Rel B K σ' H' ρ' A' → Step H A H' A' → QA ρ' A' → Q σ' H'
def gsOf (B : Bs) (K : PySem.W.Frag) (T : List D → AEnv → AHp → (AEnv → AHp → Prop) → Prop) : TGs := fun vs σ H Q => ∃ ρ A ds QA, Rel B K σ H ρ A ∧ Rps K H vs ds ∧ T ds ρ A QA ∧
  ∀ σ' H' ρ' A', Rel B K σ' H' ρ' A' → Step H A H' A' → QA ρ' A' → Q σ' H'
def AE (B : Bs) (X : Cx) (e : Expr) (T : TEA) : Prop := ∀ E, Lnk B X E → PE X e (eOf B X.K (T E))
def AT (B : Bs) (X : Cx) (e : Expr) (T : TTA) : Prop := ∀ E, Lnk B X E → PT X e (tstOf B X.K (T E))
def AW (B : Bs) (X : Cx) (e : Expr) (T : TTA) : Prop := ∀ E, Lnk B X E → PW X e (tstOf B X.K (T E))
def AA (B : Bs) (X : Cx) (es : List Expr) (T : TAA) : Prop := ∀ E, Lnk B X E → PA X es (aOf B X.K (T E))
def AS (B : Bs) (X : Cx) (st : Stmt) (T : TSA) : Prop := ∀ E, Lnk B X E → PS X st (sOf B X.K (T E))
def ASs (B : Bs) (X : Cx) (st : List Stmt) (T : TSA) : Prop := ∀ E, Lnk B X E → PSs X st (sOf B X.K (T E))
def AG (B : Bs) (X : Cx) (tg : Expr) (T : TGA) : Prop := ∀ E, Lnk B X E → PG X tg (gOf B X.K (T E))
def AGs (B : Bs) (X : Cx) (tg : List Expr) (T : EA → List D → AEnv → AHp → (AEnv → AHp → Prop) → Prop) : Prop := ∀ E, Lnk B X E → PGs X tg (gsOf B X.K (T E))

section
variable {X : Cx}
theorem PE.wk {e : Expr} {t t' : TE} (h : PE X e t) (w : ∀ σ H Q, t' σ H Q → t σ H Q) : PE X e t' := ⟨fun pins s σ H Q I q => h.run pins s σ H Q I (w _ _ _ q)⟩
theorem PT.wk {e : Expr} {t t' : TT} (h : PT X e t) (w : ∀ σ H Q, t' σ H Q → t σ H Q) : PT X e t' := ⟨fun pins s σ H Q I q => h.run pins s σ H Q I (w _ _ _ q)⟩
theorem PW.wk {e : Expr} {t t' : TT} (h : PW X e t) (w : ∀ σ H Q, t' σ H Q → t σ H Q) : PW X e t' := ⟨fun wh pins s σ H Q I q => h.run wh pins s σ H Q I (w _ _ _ q)⟩
theorem PA.wk {e : List Expr} {t t' : TA} (h : PA X e t) (w : ∀ σ H Q, t' σ H Q → t σ H Q) : PA X e t' := ⟨fun p pins s σ H Q I q => h.run p pins s σ H Q I (w _ _ _ q)⟩
theorem PS.wk {e : Stmt} {t t' : TS} (h : PS X e t) (w : ∀ Dn σ H, t' Dn σ H → t Dn σ H) : PS X e t' := ⟨fun pins s σ H Dn I q => h.run pins s σ H Dn I (w _ _ _ q)⟩
theorem PSs.wk {e : List Stmt} {t t' : TS} (h : PSs X e t) (w : ∀ Dn σ H, t' Dn σ H → t Dn σ H) : PSs X e t' := ⟨fun pins s σ H Dn I q => h.run pins s σ H Dn I (w _ _ _ q)⟩
theorem PG.wk {e : Expr} {t t' : TG} (h : PG X e t) (w : ∀ v σ H Q, t' v σ H Q → t v σ H Q) : PG X e t' := ⟨fun pins s σ H v u Q I r q => h.run pins s σ H v u Q I r (w _ _ _ _ q)⟩
theorem PGs.wk {e : List Expr} {t t' : TGs} (h : PGs X e t) (w : ∀ v σ H Q, t' v σ H Q → t v σ H Q) : PGs X e t' := ⟨fun pins s σ H v u Q I r q => h.run pins s σ H v u Q I r (w _ _ _ _ q)⟩
theorem PE.or {e : Expr} {t t' : TE} (h : PE X e t) (h' : PE X e t') : PE X e (fun σ H Q => t σ H Q ∨ t' σ H Q) := ⟨fun pins s σ H Q I q => by
  rcases q with q | q
  · exact h.run pins s σ H Q I q
  · exact h'.run pins s σ H Q I q⟩
end
end Mu

namespace Mu
open PySem L2
variable {B : Bs} {X : Cx} {pos : Pos}

/-! ## names, constants -/
def xVar (i : Nat) : TEA := fun _ ρ A Q => ∃ d, ρ[i]? = some (some d) ∧ Q d A
def xC (d : D) : TEA := fun _ _ A Q => Q d A
theorem ae_var {i : Nat} {e : Expr} (h : PE X e (tVar i)) : AE B X e (xVar i) := fun E _ => PE.wk h fun σ H Q ⟨ρ, A, QA, R, ⟨d, h1, h2⟩, k⟩ => by
  obtain ⟨v, q1, q2⟩ := R.en.at_ i d h1
  exact ⟨v, q1, k v d H A R (Step.refl _ _) q2 h2⟩
theorem ae_c {e : Expr} {v : V} {d : D} (h : PE X e (tC v)) (r : ∀ H, Rp X.K H v d) : AE B X e (xC d) := fun E _ => PE.wk h fun σ H Q ⟨ρ, A, QA, R, h2, k⟩ =>
  k v d H A R (Step.refl _ _) (r H) h2
theorem ae_int {i : Int} {j} : AE B X (.Constant (.int i) j pos) (xC (.int i)) := ae_c pe_int fun _ => .int _
theorem ae_bl {b : Bool} {j} : AE B X (.Constant (.bool b) j pos) (xC (.bl b)) := ae_c pe_bl fun _ => .bl _
theorem ae_non {j} : AE B X (.Constant .none j pos) (xC .non) := ae_c pe_non fun _ => .non
theorem ae_str {x : Str} {j} : AE B X (.Constant (.str x) j pos) (xC (.str x)) := ae_c pe_str fun _ => .str _

/-! ## operators by their values -/
abbrev R2A := D → D → AHp → AK → Prop
/-- the rule r serves the words rA -/
def Lk2 (B : Bs) (K : PySem.W.Frag) (r : R2) (rA : R2A) : Prop := ∀ (x y : V) (d e : D) (H : Hp) (A : AHp) (Q : VK) (QA : AK), HR B K H A → Rp K H x d → Rp K H y e → rA d e A QA →
  (∀ v d' H' A', HR B K H' A' → Step H A H' A' → Rp K H' v d' → QA d' A' → Q v H') → r x y H Q
def xBin (rA : R2A) (a b : TEA) : TEA := fun E ρ A Q => a E ρ A fun d A1 => b E ρ A1 fun e A2 => rA d e A2 Q
theorem Rel.of {B : Bs} {K : PySem.W.Frag} {σ : St} {H H' : Hp} {ρ : AEnv} {A A' : AHp} (r : Rel B K σ H ρ A) (s : Step H A H' A') (h : HR B K H' A') : Rel B K σ H' ρ A' := ⟨h, r.en.step r.hr.hp s⟩
theorem bin_wk {E : EA} {r : R2} {rA : R2A} (l : Lk2 B X.K r rA) {a b : TEA} : ∀ σ H Q, eOf B X.K (xBin rA a b E) σ H Q → tOp r (eOf B X.K (a E)) (eOf B X.K (b E)) σ H Q := fun σ H Q ⟨ρ, A, QA, R, h, k⟩ =>
  ⟨ρ, A, _, R, h, fun v d H1 A1 R1 S1 r1 h1 => ⟨ρ, A1, _, R1, h1, fun v2 d2 H2 A2 R2' S2 r2 h2 => l v v2 d d2 H2 A2 Q QA R2'.hr (R1.hr.hp.rp S2 r1) r2 h2 fun v' d' H' A' hr s rp q =>
    k v' d' H' A' (R2'.of s hr) ((S1.trans S2).trans s) rp q⟩⟩
theorem ae_bin {op : Operator} {r : R2} {rA : R2A} {a b : Expr} {ta tb : TEA} (ho : OpR X (binaryOp op) r) (l : Lk2 B X.K r rA) (ha : AE B X a ta) (hb : AE B X b tb) : AE B X (.BinOp a op b pos) (xBin rA ta tb) :=
  fun E hE => PE.wk (pe_op ho (ha E hE) (hb E hE)) (bin_wk l)
theorem ae_cmp {op : CmpOp} {r : R2} {rA : R2A} {a b : Expr} {ta tb : TEA} (ho : OpR X (compareOp op) r) (l : Lk2 B X.K r rA) (ha : AE B X a ta) (hb : AE B X b tb) (hm : behindInMarks op b = false) : AE B X (.Compare a [op] [b] pos) (xBin rA ta tb) :=
  fun E hE => PE.wk (pe_cmpR ho (ha E hE) (hb E hE) hm) (bin_wk l)
theorem ae_ix {r : R2} {rA : R2A} {a b : Expr} {ta tb : TEA} (ho : IxR X r) (l : Lk2 B X.K r rA) (ha : AE B X a ta) (hb : AE B X b tb) (hs : PlainIx b) : AE B X (.Subscript a b pos) (xBin rA ta tb) :=
  fun E hE => PE.wk (pe_ix ho (ha E hE) (hb E hE) hs) (bin_wk l)
/-- a truth -/
def xTest (t : TEA) : TTA := fun E ρ A Q => t E ρ A fun d A1 => ∃ b, d = .bl b ∧ Q b A1
theorem Rp.bl_inv {K : PySem.W.Frag} {H : Hp} {v : V} {b : Bool} (h : Rp K H v (.bl b)) : v = .bl b := by cases h; rfl
theorem Rp.int_inv {K : PySem.W.Frag} {H : Hp} {v : V} {b : Int} (h : Rp K H v (.int b)) : v = .int b := by cases h; rfl
theorem Rp.str_inv {K : PySem.W.Frag} {H : Hp} {v : V} {b : Str} (h : Rp K H v (.str b)) : v = .str b := by cases h; rfl
theorem Rp.non_inv {K : PySem.W.Frag} {H : Hp} {v : V} (h : Rp K H v .non) : v = .non := by cases h; rfl
theorem Rp.ref_inv {K : PySem.W.Frag} {H : Hp} {v : V} {a : Addr} (h : Rp K H v (.ref a)) : v = .ref a := by cases h; rfl
theorem Rp.ty_inv {K : PySem.W.Frag} {H : Hp} {v : V} {a : String} (h : Rp K H v (.ty a)) : v = .ty a := by cases h; rfl
theorem Rp.tup_inv {K : PySem.W.Frag} {H : Hp} {v : V} {ds : List D} (h : Rp K H v (.tup ds)) : ∃ a xs, v = .ref a ∧ SqT K H a xs ∧ Rps K H xs ds := by cases h with | tup h t => exact ⟨_, _, rfl, h, t⟩
theorem Rp.fls_inv {K : PySem.W.Frag} {H : Hp} {v : V} {ds : List D} (h : Rp K H v (.fls ds)) : ∃ a xs, v = .ref a ∧ Frl K H a xs ∧ Rps K H xs ds := by cases h with | fls h t => exact ⟨_, _, rfl, h, t⟩
theorem test_wk {E : EA} {t : TEA} {u : TE} (w : ∀ σ H Q, eOf B X.K (t E) σ H Q → u σ H Q) : ∀ σ H Q, tstOf B X.K (xTest t E) σ H Q → tTest u σ H Q := fun σ H Q ⟨ρ, A, QA, R, h, k⟩ =>
  w σ H _ ⟨ρ, A, _, R, h, fun v d H1 A1 R1 S1 r1 ⟨b, e, h1⟩ => ⟨b, (by subst e; exact r1.bl_inv), k b H1 A1 R1 S1 h1⟩⟩
theorem at_cmp {op : CmpOp} {r : R2} {rA : R2A} {a b : Expr} {ta tb : TEA} (ho : OpR X (compareOp op) r) (l : Lk2 B X.K r rA) (ha : AE B X a ta) (hb : AE B X b tb) (hm : behindInMarks op b = false) : AT B X (.Compare a [op] [b] pos) (xTest (xBin rA ta tb)) :=
  fun E hE => PT.wk (pt_cmpR ho (ha E hE) (hb E hE) hm) (test_wk (t := xBin rA ta tb) (bin_wk l))
theorem at_val {e : Expr} {t : TEA} (h : AE B X e t) (he : ∀ whole, isTrue e X.env whole = (do let v ← whole; standAt e.pos; holding [v] (truthy v)) := by intro _; rfl) : AT B X e (xTest t) :=
  fun E hE => PT.wk (pt_val (h E hE) he) (test_wk (t := t) fun _ _ _ q => q)

/-! ## the operators -/
def intA (C : Int → Int → Prop) (g : Int → Int → D) : R2A := fun x y A Q => ∃ i j, x = .int i ∧ y = .int j ∧ C i j ∧ Q (g i j) A
theorem lk_int {r : R2} {C : Int → Int → Prop} {g : Int → Int → D} {gv : Int → Int → V} (h : ∀ i j H Q, C i j → Q (gv i j) H → r (.int i) (.int j) H Q) (hg : ∀ K H i j, Rp K H (gv i j) (g i j)) : Lk2 B X.K r (intA C g) := by
  intro x y d e H A Q QA R r1 r2 h' k
  obtain ⟨i, j, rfl, rfl, c, q⟩ := h'
  rw [r1.int_inv, r2.int_inv]
  exact h i j H Q c (k _ _ H A R (Step.refl _ _) (hg _ _ i j) q)
abbrev noC : Int → Int → Prop := fun _ _ => True
theorem Rps.length {K : PySem.W.Frag} {H : Hp} : ∀ {xs : List V} {ds : List D}, Rps K H xs ds → xs.length = ds.length
  | _, _, .nil => rfl
  | _, _, .cons _ t => by simp [Rps.length t]
theorem Rps.append {K : PySem.W.Frag} {H : Hp} : ∀ {xs ys : List V} {ds es : List D}, Rps K H xs ds → Rps K H ys es → Rps K H (xs ++ ys) (ds ++ es)
  | _, _, _, _, .nil, s => s
  | _, _, _, _, .cons h t, s => .cons h (Rps.append t s)
theorem Rps.get {K : PySem.W.Frag} {H : Hp} : ∀ {xs : List V} {ds : List D} {i : Nat} {d : D}, Rps K H xs ds → ds[i]? = some d → ∃ v, xs[i]? = some v ∧ Rp K H v d
  | _, _, _, _, .nil, h => by simp at h
  | _, _, 0, _, .cons h _, e => by simp at e; subst e; exact ⟨_, rfl, h⟩
  | _, _, i + 1, _, .cons _ t, e => by
    obtain ⟨v, h1, h2⟩ := Rps.get (i := i) t (by simpa using e)
    exact ⟨v, by simpa using h1, h2⟩
theorem Rps.take {K : PySem.W.Frag} {H : Hp} : ∀ {xs : List V} {ds : List D} (n : Nat), Rps K H xs ds → Rps K H (xs.take n) (ds.take n)
  | _, _, 0, _ => .nil
  | _, _, _ + 1, .nil => .nil
  | _, _, n + 1, .cons h t => .cons h (Rps.take n t)
theorem Rps.drop {K : PySem.W.Frag} {H : Hp} : ∀ {xs : List V} {ds : List D} (n : Nat), Rps K H xs ds → Rps K H (xs.drop n) (ds.drop n)
  | _, _, 0, r => r
  | _, _, _ + 1, .nil => .nil
  | _, _, n + 1, .cons _ t => Rps.drop n t
theorem Rps.set {K : PySem.W.Frag} {H : Hp} {v : V} {d : D} (h : Rp K H v d) : ∀ {xs : List V} {ds : List D} (n : Nat), Rps K H xs ds → Rps K H (xs.set n v) (ds.set n d)
  | _, _, _, .nil => .nil
  | _, _, 0, .cons _ t => .cons h t
  | _, _, n + 1, .cons q t => .cons q (Rps.set h n t)
theorem Rps.rev {K : PySem.W.Frag} {H : Hp} : ∀ {xs : List V} {ds : List D}, Rps K H xs ds → Rps K H xs.reverse ds.reverse
  | _, _, .nil => .nil
  | _, _, .cons h t => by simp only [List.reverse_cons]; exact Rps.append (Rps.rev t) (.cons h .nil)
theorem Rps.nil_iff {K : PySem.W.Frag} {H : Hp} {xs : List V} {ds : List D} (h : Rps K H xs ds) : xs = [] ↔ ds = [] := by
  cases h with
  | nil => simp
  | cons _ _ => simp
theorem ixN_at {K : PySem.W.Frag} {H : Hp} {xs : List V} {ds : List D} (h : Rps K H xs ds) {i : Int} {d : D} (e : atI ds i = some d) : ∃ v, atI xs i = some v ∧ Rp K H v d := by
  unfold atI at e ⊢
  rw [← h.length] at e
  cases q : ixN xs.length i with
  | none => rw [q] at e; cases e
  | some j =>
    rw [q] at e
    obtain ⟨v, h1, h2⟩ := h.get (i := j) e
    exact ⟨v, h1, h2⟩

/-- a list that may be read: its items -/
def LsA (A : AHp) (x : D) (ds : List D) : Prop := (∃ l, x = .ref l ∧ A l = some (.lst ds)) ∨ x = .fls ds
theorem LsA.sq {K : PySem.W.Frag} {κ : String → Addr} {H : Hp} {A : AHp} {x : D} {v : V} {ds : List D} (R : RH κ K H A) (h : LsA A x ds) (r : Rp K H v x) : ∃ l xs, v = .ref l ∧ SqL K H l xs ∧ Rps K H xs ds := by
  rcases h with ⟨l, rfl, e⟩ | rfl
  · obtain ⟨xs, h1, h2⟩ := R l _ e
    exact ⟨l, xs, r.ref_inv, SqL.of h1, h2⟩
  · obtain ⟨a, xs, rfl, h1, h2⟩ := r.fls_inv
    exact ⟨a, xs, rfl, h1.sq, h2⟩

def addA : R2A := fun x y A Q => intA noC (fun i j => .int (i + j)) x y A Q ∨ (∃ s t, x = .str s ∧ y = .str t ∧ s.length + t.length ≤ sizeLine ∧ Q (.str (s ++ t)) A) ∨
  (∃ l m xs ys, x = .ref l ∧ y = .ref m ∧ A l = some (.lst xs) ∧ A m = some (.lst ys) ∧ xs.length + ys.length ≤ sizeLine ∧ ∀ p, A p = none → Q (.ref p) (ua A p (.lst (xs ++ ys)))) ∨
  (∃ xs ys, x = .tup xs ∧ y = .tup ys ∧ xs ≠ [] ∧ xs.length + ys.length ≤ sizeLine ∧ Q (.tup (xs ++ ys)) A)
/-- a new list is laid -/
theorem new_lst {K : PySem.W.Frag} {H : Hp} {A : AHp} {Q : VK} {QA : AK} {xs : List V} {ds : List D} (R : HR B K H A) (r : Rps K H xs ds) (h : ∀ p, A p = none → QA (.ref p) (ua A p (.lst ds)))
    (k : ∀ v d' H' A', HR B K H' A' → Step H A H' A' → Rp K H' v d' → QA d' A' → Q v H') : ∀ p, H p = none → Q (.ref p) (upd H p (.lst xs)) := fun p n => by
  have st : Step H A (upd H p (.lst xs)) (ua A p (.lst ds)) := Step.new n A
  exact k _ _ _ _ (R.step st (R.hp.new n ⟨xs, upd_same, R.hp.rps (Step.more n A) r⟩)) st (.ref p) (h p (R.hp.free n))
theorem new_tup {K : PySem.W.Frag} {H : Hp} {A : AHp} {Q : VK} {QA : AK} {xs : List V} {ds : List D} (R : HR B K H A) (r : Rps K H xs ds) (h : QA (.tup ds) A)
    (k : ∀ v d' H' A', HR B K H' A' → Step H A H' A' → Rp K H' v d' → QA d' A' → Q v H') : ∀ p, H p = none → Q (.ref p) (upd H p (.tup xs)) := fun p n => by
  have st : Step H A (upd H p (.tup xs)) A := Step.more n A
  exact k _ _ _ _ (R.step st (R.hp.more n)) st (.tup (SqT.of upd_same) (R.hp.rps st r)) h
theorem op_addA : OpR X (binaryOp .Add) (fun x y H Q => (rI0 fun i j => .int (i + j)) x y H Q ∨ (∃ i j, x = .str i ∧ y = .str j ∧ i.length + j.length ≤ sizeLine ∧ Q (.str (i ++ j)) H) ∨ rCat x y H Q ∨ rCatT X.K x y H Q) :=
  op_add.or (op_add_str.or (op_cat.or op_catT))
theorem lk_add : Lk2 B X.K (fun x y H Q => (rI0 fun i j => .int (i + j)) x y H Q ∨ (∃ i j, x = .str i ∧ y = .str j ∧ i.length + j.length ≤ sizeLine ∧ Q (.str (i ++ j)) H) ∨ rCat x y H Q ∨ rCatT X.K x y H Q) addA := by
  intro x y d e H A Q QA R r1 r2 h k
  rcases h with ⟨i, j, rfl, rfl, _, q⟩ | ⟨s, t, rfl, rfl, hz, q⟩ | ⟨l, m, xs, ys, rfl, rfl, e1, e2, hz, q⟩ | ⟨xs, ys, rfl, rfl, hn, hz, q⟩
  · rw [r1.int_inv, r2.int_inv]
    exact .inl ⟨i, j, rfl, rfl, k _ _ H A R (Step.refl _ _) (.int _) q⟩
  · rw [r1.str_inv, r2.str_inv]
    exact .inr (.inl ⟨s, t, rfl, rfl, hz, k _ _ H A R (Step.refl _ _) (.str _) q⟩)
  · rw [r1.ref_inv, r2.ref_inv]
    obtain ⟨vs, h1, h2⟩ := R.hp l _ e1
    obtain ⟨ws, h3, h4⟩ := R.hp m _ e2
    exact .inr (.inr (.inl ⟨l, m, vs, ws, rfl, rfl, h1, h3, by rw [h2.length, h4.length]; exact hz, new_lst R (h2.append h4) q k⟩))
  · obtain ⟨a, vs, rfl, h1, h2⟩ := r1.tup_inv
    obtain ⟨b, ws, rfl, h3, h4⟩ := r2.tup_inv
    refine .inr (.inr (.inr ⟨a, b, vs, ws, rfl, rfl, h1, h3, fun z => hn (h2.nil_iff.mp z), by rw [h2.length, h4.length]; exact hz, fun z => ?_, fun _ => new_tup R (h2.append h4) q k⟩))
    have z' := h4.nil_iff.mp z
    subst z'
    rw [List.append_nil] at q
    exact k _ _ H A R (Step.refl _ _) (.tup h1 h2) q
def subA : R2A := intA noC fun i j => .int (i - j)
theorem lk_sub : Lk2 B X.K (rI0 fun i j => .int (i - j)) subA := lk_int (gv := fun i j => .int (i - j)) (fun i j H Q _ q => ⟨i, j, rfl, rfl, q⟩) fun _ _ _ _ => .int _
/-- one factor is small, or both aren't huge -/
def MulOk (i j : Int) : Prop := CMul i j ∨ CMulW i j
def mulA : R2A := fun x y A Q => intA MulOk (fun i j => .int (i * j)) x y A Q ∨
  (∃ l k xs, x = .ref l ∧ y = .int k ∧ A l = some (.lst xs) ∧ -(2 ^ 63) ≤ k ∧ k < 2 ^ 63 ∧ xs.length * k.toNat ≤ sizeLine ∧ ∀ p, A p = none → Q (.ref p) (ua A p (.lst (List.replicate k.toNat xs).flatten)))
theorem op_mulA : OpR X (binaryOp .Mult) (fun x y H Q => (rI CMul fun i j => .int (i * j)) x y H Q ∨ (rI CMulW fun i j => .int (i * j)) x y H Q ∨ rRep x y H Q) := op_mul.or (op_mulW.or op_rep)
theorem Rps.rep {K : PySem.W.Frag} {H : Hp} {xs : List V} {ds : List D} (h : Rps K H xs ds) : ∀ n : Nat, Rps K H (List.replicate n xs).flatten (List.replicate n ds).flatten
  | 0 => .nil
  | n + 1 => by simp only [List.replicate_succ, List.flatten_cons]; exact h.append (Rps.rep h n)
theorem lk_mul : Lk2 B X.K (fun x y H Q => (rI CMul fun i j => .int (i * j)) x y H Q ∨ (rI CMulW fun i j => .int (i * j)) x y H Q ∨ rRep x y H Q) mulA := by
  intro x y d e H A Q QA R r1 r2 h k
  rcases h with ⟨i, j, rfl, rfl, c, q⟩ | ⟨l, n, xs, rfl, rfl, e1, b1, b2, hz, q⟩
  · rw [r1.int_inv, r2.int_inv]
    rcases c with c | c
    · exact .inl ⟨i, j, rfl, rfl, c, k _ _ H A R (Step.refl _ _) (.int _) q⟩
    · exact .inr (.inl ⟨i, j, rfl, rfl, c, k _ _ H A R (Step.refl _ _) (.int _) q⟩)
  · rw [r1.ref_inv, r2.int_inv]
    obtain ⟨vs, h1, h2⟩ := R.hp l _ e1
    exact .inr (.inr ⟨l, n, vs, rfl, rfl, h1, b1, b2, by rw [h2.length]; exact hz, new_lst R (h2.rep _) q k⟩)
def divA : R2A := intA (fun _ j => 0 < j ∧ j.natAbs.log2 < 9000) fun i j => .int (i / j)
theorem lk_div : Lk2 B X.K (rI CDivW fun i j => .int (i / j)) divA := lk_int (gv := fun i j => .int (i / j)) (fun i j H Q c q => ⟨i, j, rfl, rfl, c, q⟩) fun _ _ _ _ => .int _
def modA : R2A := intA (fun _ j => 0 < j) fun i j => .int (i % j)
theorem lk_mod : Lk2 B X.K (rI (fun _ j => 0 < j) fun i j => .int (i % j)) modA := lk_int (gv := fun i j => .int (i % j)) (fun i j H Q c q => ⟨i, j, rfl, rfl, c, q⟩) fun _ _ _ _ => .int _
def shlA : R2A := intA CPow fun i j => .int (i * 2 ^ j.toNat)
theorem lk_shl : Lk2 B X.K (rI CPow fun i j => .int (i * 2 ^ j.toNat)) shlA := lk_int (gv := fun i j => .int (i * 2 ^ j.toNat)) (fun i j H Q c q => ⟨i, j, rfl, rfl, c, q⟩) fun _ _ _ _ => .int _
def cmpA (p : Int → Int → Bool) : R2A := intA noC fun i j => .bl (p i j)
theorem lk_cmp {p : Int → Int → Bool} : Lk2 B X.K (rI0 fun i j => .bl (p i j)) (cmpA p) := lk_int (gv := fun i j => .bl (p i j)) (fun i j H Q _ q => ⟨i, j, rfl, rfl, q⟩) fun _ _ _ _ => .bl _

/-! ## indices -/
def ixA : R2A := fun x y A Q => ∃ ds i d, (LsA A x ds ∨ x = .tup ds) ∧ y = .int i ∧ atI ds i = some d ∧ Q d A
def ixS : R2A := fun x y A Q => ∃ (z : Str) (i : Int) (c : Nat), x = .str z ∧ y = .int i ∧ z.length ≤ sizeLine ∧ atI z.cps.toList i = some c ∧ Q (.str ⟨#[c]⟩) A
theorem lk_ix : Lk2 B X.K (rIx X.K) (fun x y A Q => ixA x y A Q ∨ ixS x y A Q) := by
  intro x y d e H A Q QA R r1 r2 h k
  rcases h with ⟨ds, i, w, hl | rfl, rfl, ea, q⟩ | ⟨z, i, c, rfl, rfl, hz, ea, q⟩
  · obtain ⟨l, xs, rfl, hs, hp⟩ := hl.sq R.hp r1
    rw [r2.int_inv]
    obtain ⟨v, ev, rv⟩ := ixN_at hp ea
    exact .inl ⟨l, xs, i, v, rfl, rfl, hs, ev, k v w H A R (Step.refl _ _) rv q⟩
  · obtain ⟨a, vs, rfl, h1, h2⟩ := r1.tup_inv
    rw [r2.int_inv]
    obtain ⟨v, ev, rv⟩ := ixN_at h2 ea
    exact .inr (.inl ⟨a, vs, i, v, rfl, rfl, h1, ev, k v w H A R (Step.refl _ _) rv q⟩)
  · rw [r1.str_inv, r2.int_inv]
    exact .inr (.inr ⟨z, i, c, rfl, rfl, hz, ea, k _ _ H A R (Step.refl _ _) (.str _) q⟩)

/-! ## argument lists, displays -/
def xsNil : TAA := fun _ _ A Q => Q [] A
def xsCons (a : TEA) (r : TAA) : TAA := fun E ρ A Q => a E ρ A fun d A1 => r E ρ A1 fun ds A2 => Q (d :: ds) A2
theorem aa_nil : AA B X [] xsNil := fun E _ => PA.wk pa_nil fun σ H Q ⟨ρ, A, QA, R, h, k⟩ => k [] [] H A R (Step.refl _ _) .nil h
theorem aa_cons {e : Expr} {es : List Expr} {a : TEA} {r : TAA} (ha : AE B X e a) (hr : AA B X es r) (hs : starEach (e :: es) X.env = (false, eval e X.env) :: starEach es X.env := by rfl) : AA B X (e :: es) (xsCons a r) :=
  fun E hE => PA.wk (pa_cons (ha E hE) (hr E hE) hs) fun σ H Q ⟨ρ, A, QA, R, h, k⟩ =>
    ⟨ρ, A, _, R, h, fun v d H1 A1 R1 S1 r1 h1 => ⟨ρ, A1, _, R1, h1, fun vs ds H2 A2 R2' S2 r2 h2 => k _ _ H2 A2 R2' (S1.trans S2) (.cons (R1.hr.hp.rp S2 r1) r2) h2⟩⟩
def xTup (r : TAA) : TEA := fun E ρ A Q => r E ρ A fun ds A1 => ds.length ≤ sizeLine ∧ Q (.tup ds) A1
def xLst (r : TAA) : TEA := fun E ρ A Q => r E ρ A fun ds A1 => ds.length ≤ sizeLine ∧ ∀ p, A1 p = none → Q (.ref p) (ua A1 p (.lst ds))
theorem ae_tup {es : List Expr} {x1} {r : TAA} (h : AA B X es r) : AE B X (.Tuple es x1 pos) (xTup r) := fun E hE => PE.wk (pe_tup (h E hE)) fun σ H Q ⟨ρ, A, QA, R, h, k⟩ =>
  ⟨ρ, A, _, R, h, fun vs ds H1 A1 R1 S1 r1 ⟨z, h1⟩ => ⟨by rw [r1.length]; exact z, new_tup R1.hr r1 h1 fun v d H' A' hr s rp q => k v d H' A' (R1.of s hr) (S1.trans s) rp q⟩⟩
theorem ae_lst {es : List Expr} {r : TAA} (h : AA B X es r) : AE B X (.List es pos) (xLst r) := fun E hE => PE.wk (pe_lst (h E hE)) fun σ H Q ⟨ρ, A, QA, R, h, k⟩ =>
  ⟨ρ, A, _, R, h, fun vs ds H1 A1 R1 S1 r1 ⟨z, h1⟩ => ⟨by rw [r1.length]; exact z, new_lst R1.hr r1 h1 fun v d H' A' hr s rp q => k v d H' A' (R1.of s hr) (S1.trans s) rp q⟩⟩

/-! ## truth: and, or, not, if -/
/-- the two ways of a truth -/
def two (b : Bool) (P Q : Prop) : Prop := (b = true → P) ∧ (b = false → Q)
theorem two.ite {b : Bool} {P Q : Prop} (h : two b P Q) : if b = true then P else Q := by
  cases b with
  | true => exact h.1 rfl
  | false => exact h.2 rfl
def xAnd (a b : TTA) : TTA := fun E ρ A Q => a E ρ A fun c A1 => two c (b E ρ A1 Q) (Q false A1)
def xOr (a b : TTA) : TTA := fun E ρ A Q => a E ρ A fun c A1 => two c (Q true A1) (b E ρ A1 Q)
def xNot (a : TTA) : TTA := fun E ρ A Q => a E ρ A fun c A1 => Q (!c) A1
theorem ite_mono {b : Bool} {P Q P' Q' : Prop} (h : two b P Q) (h1 : P → P') (h2 : Q → Q') : if b = true then P' else Q' := by
  cases b with
  | true => exact h1 (h.1 rfl)
  | false => exact h2 (h.2 rfl)
theorem aw_and1 {a : Expr} {t : TTA} (h : AT B X a t) : AW B X (.BoolOp .And [a] pos) t := fun E hE => pw_and1 (h E hE)
theorem aw_or1 {a : Expr} {t : TTA} (h : AT B X a t) : AW B X (.BoolOp .Or [a] pos) t := fun E hE => pw_or1 (h E hE)
theorem aw_and {a b : Expr} {rest : List Expr} {t u : TTA} (h : AT B X a t) (h2 : AW B X (.BoolOp .And (b :: rest) pos) u) : AW B X (.BoolOp .And (a :: b :: rest) pos) (xAnd t u) :=
  fun E hE => PW.wk (pw_and (h E hE) (h2 E hE)) fun σ H Q ⟨ρ, A, QA, R, h, k⟩ => ⟨ρ, A, _, R, h, fun c H1 A1 R1 S1 h1 => ite_mono h1
    (fun z => ⟨ρ, A1, QA, R1, z, fun b H' A' R' s q => k b H' A' R' (S1.trans s) q⟩) (fun z => k false H1 A1 R1 S1 z)⟩
theorem aw_or {a b : Expr} {rest : List Expr} {t u : TTA} (h : AT B X a t) (h2 : AW B X (.BoolOp .Or (b :: rest) pos) u) : AW B X (.BoolOp .Or (a :: b :: rest) pos) (xOr t u) :=
  fun E hE => PW.wk (pw_or (h E hE) (h2 E hE)) fun σ H Q ⟨ρ, A, QA, R, h, k⟩ => ⟨ρ, A, _, R, h, fun c H1 A1 R1 S1 h1 => ite_mono h1
    (fun z => k true H1 A1 R1 S1 z) (fun z => ⟨ρ, A1, QA, R1, z, fun b H' A' R' s q => k b H' A' R' (S1.trans s) q⟩)⟩
theorem AW.at_ {e : Expr} {t : TTA} (h : AW B X e t) : AT B X e t := fun E hE => (h E hE).pt
theorem at_not {a : Expr} {t : TTA} (h : AT B X a t) : AT B X (.UnaryOp .Not a pos) (xNot t) := fun E hE => PT.wk (pt_not (h E hE)) fun σ H Q ⟨ρ, A, QA, R, h, k⟩ =>
  ⟨ρ, A, _, R, h, fun c H1 A1 R1 S1 h1 => k _ H1 A1 R1 S1 h1⟩
/-- as values -/
def xAndV (a b : TEA) : TEA := fun E ρ A Q => a E ρ A fun d A1 => ∃ c, d = .bl c ∧ two c (b E ρ A1 Q) (Q (.bl false) A1)
def xOrV (a b : TEA) : TEA := fun E ρ A Q => a E ρ A fun d A1 => ∃ c, d = .bl c ∧ two c (Q (.bl true) A1) (b E ρ A1 Q)
def xNotV (a : TEA) : TEA := fun E ρ A Q => a E ρ A fun d A1 => ∃ c, d = .bl c ∧ Q (.bl (!c)) A1
theorem ae_one {op} {a : Expr} {t : TEA} (h : AE B X a t) : AE B X (.BoolOp op [a] pos) t := fun E hE => pe_one (h E hE)
theorem ae_and {a b : Expr} {rest : List Expr} {t u : TEA} (h : AE B X a t) (h2 : AE B X (.BoolOp .And (b :: rest) pos) u) : AE B X (.BoolOp .And (a :: b :: rest) pos) (xAndV t u) :=
  fun E hE => PE.wk (pe_and (h E hE) (h2 E hE)) fun σ H Q ⟨ρ, A, QA, R, h, k⟩ => ⟨ρ, A, _, R, h, fun v d H1 A1 R1 S1 r1 ⟨c, e, h1⟩ => ⟨c, (by subst e; exact r1.bl_inv), ite_mono h1
    (fun z => ⟨ρ, A1, QA, R1, z, fun v d H' A' R' s rp q => k v d H' A' R' (S1.trans s) rp q⟩) (fun z => k _ _ H1 A1 R1 S1 (.bl _) z)⟩⟩
theorem ae_or {a b : Expr} {rest : List Expr} {t u : TEA} (h : AE B X a t) (h2 : AE B X (.BoolOp .Or (b :: rest) pos) u) : AE B X (.BoolOp .Or (a :: b :: rest) pos) (xOrV t u) :=
  fun E hE => PE.wk (pe_or (h E hE) (h2 E hE)) fun σ H Q ⟨ρ, A, QA, R, h, k⟩ => ⟨ρ, A, _, R, h, fun v d H1 A1 R1 S1 r1 ⟨c, e, h1⟩ => ⟨c, (by subst e; exact r1.bl_inv), ite_mono h1
    (fun z => k _ _ H1 A1 R1 S1 (.bl _) z) (fun z => ⟨ρ, A1, QA, R1, z, fun v d H' A' R' s rp q => k v d H' A' R' (S1.trans s) rp q⟩)⟩⟩
theorem ae_not {a : Expr} {t : TEA} (h : AE B X a t) : AE B X (.UnaryOp .Not a pos) (xNotV t) := fun E hE => PE.wk (pe_not (h E hE)) fun σ H Q ⟨ρ, A, QA, R, h, k⟩ =>
  ⟨ρ, A, _, R, h, fun v d H1 A1 R1 S1 r1 ⟨c, e, h1⟩ => ⟨c, (by subst e; exact r1.bl_inv), k _ _ H1 A1 R1 S1 (.bl _) h1⟩⟩
def xIf (c : TTA) (a b : TEA) : TEA := fun E ρ A Q => c E ρ A fun z A1 => two z (a E ρ A1 Q) (b E ρ A1 Q)
theorem ae_if {c a b : Expr} {tc : TTA} {ta tb : TEA} (hc : AT B X c tc) (ha : AE B X a ta) (hb : AE B X b tb) : AE B X (.IfExp c a b pos) (xIf tc ta tb) := fun E hE => PE.wk (pe_ifExp (hc E hE) (ha E hE) (hb E hE)) fun σ H Q ⟨ρ, A, QA, R, h, k⟩ =>
  ⟨ρ, A, _, R, h, fun c H1 A1 R1 S1 h1 => ite_mono h1 (fun z => ⟨ρ, A1, QA, R1, z, fun v d H' A' R' s rp q => k v d H' A' R' (S1.trans s) rp q⟩) (fun z => ⟨ρ, A1, QA, R1, z, fun v d H' A' R' s rp q => k v d H' A' R' (S1.trans s) rp q⟩)⟩
def xChain (r r' : R2A) (a b c : TEA) : TEA := fun E ρ A Q => a E ρ A fun d A1 => b E ρ A1 fun e A2 => r d e A2 fun z A3 => ∃ k, z = .bl k ∧ two k (c E ρ A3 fun f A4 => r' e f A4 Q) (Q (.bl false) A3)
theorem chain_wk {E : EA} {r r' : R2} {rA rA' : R2A} (l : Lk2 B X.K r rA) (l' : Lk2 B X.K r' rA') {a b c : TEA} : ∀ σ H Q, eOf B X.K (xChain rA rA' a b c E) σ H Q → tChain r r' (eOf B X.K (a E)) (eOf B X.K (b E)) (eOf B X.K (c E)) σ H Q := fun σ H Q ⟨ρ, A, QA, R, h, k⟩ =>
  ⟨ρ, A, _, R, h, fun v d H1 A1 R1 S1 r1 h1 => ⟨ρ, A1, _, R1, h1, fun v2 d2 H2 A2 R2' S2 r2 h2 => l v v2 d d2 H2 A2 _ _ R2'.hr (R1.hr.hp.rp S2 r1) r2 h2 fun v3 d3 H3 A3 hr3 s3 rp3 ⟨b, e, q⟩ =>
    ⟨b, (by subst e; exact rp3.bl_inv), ite_mono q (fun z => ⟨ρ, A3, _, R2'.of s3 hr3, z, fun v4 d4 H4 A4 R4 S4 r4 h4 => l' v2 v4 d2 d4 H4 A4 Q QA R4.hr (hr3.hp.rp S4 (R2'.hr.hp.rp s3 r2)) r4 h4 fun v' d' H' A' hr s rp q =>
      k v' d' H' A' (R4.of s hr) ((((S1.trans S2).trans s3).trans S4).trans s) rp q⟩) (fun z => k _ _ H3 A3 (R2'.of s3 hr3) ((S1.trans S2).trans s3) (.bl _) z)⟩⟩⟩
theorem ae_chain {op op' : CmpOp} {r r' : R2} {rA rA' : R2A} {a b c : Expr} {ta tb tc : TEA} (ho : OpR X (compareOp op) r) (ho' : OpR X (compareOp op') r') (l : Lk2 B X.K r rA) (l' : Lk2 B X.K r' rA') (ha : AE B X a ta) (hb : AE B X b tb) (hc : AE B X c tc)
    (hm : lastMarks [op, op'] [b, c] = false := by with_unfolding_all rfl) : AE B X (.Compare a [op, op'] [b, c] pos) (xChain rA rA' ta tb tc) :=
  fun E hE => PE.wk (pe_chain ho ho' (ha E hE) (hb E hE) (hc E hE) hm) (chain_wk l l')
theorem at_chain {op op' : CmpOp} {r r' : R2} {rA rA' : R2A} {a b c : Expr} {ta tb tc : TEA} (ho : OpR X (compareOp op) r) (ho' : OpR X (compareOp op') r') (l : Lk2 B X.K r rA) (l' : Lk2 B X.K r' rA') (ha : AE B X a ta) (hb : AE B X b tb) (hc : AE B X c tc)
    (hm : lastMarks [op, op'] [b, c] = false := by with_unfolding_all rfl) : AT B X (.Compare a [op, op'] [b, c] pos) (xTest (xChain rA rA' ta tb tc)) :=
  fun E hE => PT.wk (pt_chain ho ho' (ha E hE) (hb E hE) (hc E hE) hm) (test_wk (t := xChain rA rA' ta tb tc) (chain_wk l l'))
end Mu

namespace Mu
open PySem L2
variable {B : Bs} {X : Cx} {pos : Pos}

/-! ## built-ins by their values -/
abbrev RCA := List D → AHp → AK → Prop
def Lkc (B : Bs) (K : PySem.W.Frag) (r : List V → Hp → VK → Prop) (rA : RCA) : Prop := ∀ (vs : List V) (ds : List D) (H : Hp) (A : AHp) (Q : VK) (QA : AK), HR B K H A → Rps K H vs ds → rA ds A QA →
  (∀ v d' H' A', HR B K H' A' → Step H A H' A' → Rp K H' v d' → QA d' A' → Q v H') → r vs H Q
def xCB (rA : RCA) (a : TAA) : TEA := fun E ρ A Q => a E ρ A fun ds A1 => rA ds A1 Q
theorem ae_cb {r : List V → Hp → VK → Prop} {rA : RCA} {es : List Expr} {e : Expr} {ta : TAA} (hp : ∀ t, PA X es t → PE X e (tCB r t)) (l : Lkc B X.K r rA) (ha : AA B X es ta) : AE B X e (xCB rA ta) :=
  fun E hE => PE.wk (hp _ (ha E hE)) fun σ H Q ⟨ρ, A, QA, R, h, k⟩ => ⟨ρ, A, _, R, h, fun vs ds H1 A1 R1 S1 r1 h1 => l vs ds H1 A1 Q QA R1.hr r1 h1 fun v d' H' A' hr s rp q => k v d' H' A' (R1.of s hr) (S1.trans s) rp q⟩
theorem Rps.one {K : PySem.W.Frag} {H : Hp} {vs : List V} {d : D} (h : Rps K H vs [d]) : ∃ v, vs = [v] ∧ Rp K H v d := by
  cases h with | cons h t => cases t; exact ⟨_, rfl, h⟩
theorem Rps.two {K : PySem.W.Frag} {H : Hp} {vs : List V} {d e : D} (h : Rps K H vs [d, e]) : ∃ v w, vs = [v, w] ∧ Rp K H v d ∧ Rp K H w e := by
  cases h with | cons h t => cases t with | cons h' t => cases t; exact ⟨_, _, rfl, h, h'⟩
def lenA : RCA := fun ds A Q => ∃ (x : D) (n : Nat), ds = [x] ∧ ((∃ es, (LsA A x es ∨ x = .tup es) ∧ n = es.length) ∨ (∃ z : Str, x = .str z ∧ z.length ≤ sizeLine ∧ n = z.length)) ∧ Q (.int n) A
theorem call_lenA : CallR X (.builtin "len") (fun xs H Q => (∃ p ys, xs = [.ref p] ∧ (SqL X.K H p ys ∨ SqT X.K H p ys) ∧ Q (.int ys.length) H) ∨ ∃ z, xs = [.str z] ∧ z.length ≤ sizeLine ∧ Q (.int z.length) H) := call_len_seq.or call_len_str
theorem lk_len : Lkc B X.K (fun xs H Q => (∃ p ys, xs = [.ref p] ∧ (SqL X.K H p ys ∨ SqT X.K H p ys) ∧ Q (.int ys.length) H) ∨ ∃ z, xs = [.str z] ∧ z.length ≤ sizeLine ∧ Q (.int z.length) H) lenA := by
  intro vs ds H A Q QA R r h k
  obtain ⟨x, n, rfl, h, q⟩ := h
  obtain ⟨v, rfl, rv⟩ := r.one
  rcases h with ⟨es, hl | rfl, rfl⟩ | ⟨z, rfl, hz, rfl⟩
  · obtain ⟨l, xs, rfl, hs, hp⟩ := hl.sq R.hp rv
    exact .inl ⟨l, xs, rfl, .inl hs, by rw [hp.length]; exact k _ _ H A R (Step.refl _ _) (.int _) q⟩
  · obtain ⟨l, xs, rfl, hs, hp⟩ := rv.tup_inv
    exact .inl ⟨l, xs, rfl, .inr hs, by rw [hp.length]; exact k _ _ H A R (Step.refl _ _) (.int _) q⟩
  · rw [rv.str_inv]
    exact .inr ⟨z, rfl, hz, k _ _ H A R (Step.refl _ _) (.int _) q⟩
theorem Rps.bls {K : PySem.W.Frag} {H : Hp} : ∀ {bs : List Bool} {vs : List V}, Rps K H vs (bs.map D.bl) → vs = bs.map V.bl
  | [], _, h => by cases h; rfl
  | b :: bs, _, h => by cases h with | cons h t => rw [h.bl_inv, Rps.bls t]; rfl
theorem Rps.ints {K : PySem.W.Frag} {H : Hp} : ∀ {bs : List Int} {vs : List V}, Rps K H vs (bs.map D.int) → vs = bs.map V.int
  | [], _, h => by cases h; rfl
  | b :: bs, _, h => by cases h with | cons h t => rw [h.int_inv, Rps.ints t]; rfl
theorem Rps.of_ints {K : PySem.W.Frag} {H : Hp} : ∀ (bs : List Int), Rps K H (bs.map V.int) (bs.map D.int)
  | [] => .nil
  | b :: bs => .cons (.int b) (Rps.of_ints bs)
theorem Rps.strs {K : PySem.W.Frag} {H : Hp} : ∀ {bs : List Str} {vs : List V}, Rps K H vs (bs.map D.str) → vs = bs.map V.str
  | [], _, h => by cases h; rfl
  | b :: bs, _, h => by cases h with | cons h t => rw [h.str_inv, Rps.strs t]; rfl
theorem Rps.of_strs {K : PySem.W.Frag} {H : Hp} : ∀ (bs : List Str), Rps K H (bs.map V.str) (bs.map D.str)
  | [] => .nil
  | b :: bs => .cons (.str b) (Rps.of_strs bs)
def allA : RCA := fun ds A Q => ∃ (x : D) (bs : List Bool), ds = [x] ∧ LsA A x (bs.map D.bl) ∧ Q (.bl (bs.all id)) A
theorem lk_all : Lkc B X.K (rAll X.K) allA := by
  intro vs ds H A Q QA R r ⟨x, bs, e, hl, q⟩ k
  subst e
  obtain ⟨v, rfl, rv⟩ := r.one
  obtain ⟨l, xs, rfl, hs, hp⟩ := hl.sq R.hp rv
  rw [hp.bls] at hs
  exact ⟨l, bs, rfl, hs, k _ _ H A R (Step.refl _ _) (.bl _) q⟩
def anyA : RCA := fun ds A Q => ∃ (x : D) (bs : List Bool), ds = [x] ∧ LsA A x (bs.map D.bl) ∧ Q (.bl (bs.any id)) A
theorem lk_any : Lkc B X.K (rAny X.K) anyA := by
  intro vs ds H A Q QA R r ⟨x, bs, e, hl, q⟩ k
  subst e
  obtain ⟨v, rfl, rv⟩ := r.one
  obtain ⟨l, xs, rfl, hs, hp⟩ := hl.sq R.hp rv
  rw [hp.bls] at hs
  exact ⟨l, bs, rfl, hs, k _ _ H A R (Step.refl _ _) (.bl _) q⟩
def sumA : RCA := fun ds A Q => ∃ (x : D) (ns : List Int), ds = [x] ∧ LsA A x (ns.map D.int) ∧ Q (.int ns.sum) A
theorem lk_sum : Lkc B X.K (rSum X.K) sumA := by
  intro vs ds H A Q QA R r ⟨x, bs, e, hl, q⟩ k
  subst e
  obtain ⟨v, rfl, rv⟩ := r.one
  obtain ⟨l, xs, rfl, hs, hp⟩ := hl.sq R.hp rv
  rw [hp.ints] at hs
  exact ⟨l, bs, rfl, hs, k _ _ H A R (Step.refl _ _) (.int _) q⟩
def tupA : RCA := fun ds A Q => ∃ x es, ds = [x] ∧ (LsA A x es ∨ x = .tup es) ∧ Q (.tup es) A
theorem lk_tup : Lkc B X.K (fun xs H Q => ∃ p ys, xs = [.ref p] ∧ ((SqL X.K H p ys ∧ ∀ l, H l = none → Q (.ref l) (upd H l (.tup ys))) ∨ (SqT X.K H p ys ∧ Q (.ref p) H))) tupA := by
  intro vs ds H A Q QA R r ⟨x, es, e, hl, q⟩ k
  subst e
  obtain ⟨v, rfl, rv⟩ := r.one
  rcases hl with hl | rfl
  · obtain ⟨l, xs, rfl, hs, hp⟩ := hl.sq R.hp rv
    exact ⟨l, xs, rfl, .inl ⟨hs, new_tup R hp q k⟩⟩
  · obtain ⟨l, xs, rfl, hs, hp⟩ := rv.tup_inv
    exact ⟨l, xs, rfl, .inr ⟨hs, k _ _ H A R (Step.refl _ _) (.tup hs hp) q⟩⟩
def lstA : RCA := fun ds A Q => ∃ x es, ds = [x] ∧ (LsA A x es ∨ x = .tup es) ∧ ∀ p, A p = none → Q (.ref p) (ua A p (.lst es))
theorem lk_lst : Lkc B X.K (fun xs H Q => ∃ p ys, xs = [.ref p] ∧ (SqL X.K H p ys ∨ SqT X.K H p ys) ∧ ∀ l, H l = none → Q (.ref l) (upd H l (.lst ys))) lstA := by
  intro vs ds H A Q QA R r ⟨x, es, e, hl, q⟩ k
  subst e
  obtain ⟨v, rfl, rv⟩ := r.one
  rcases hl with hl | rfl
  · obtain ⟨l, xs, rfl, hs, hp⟩ := hl.sq R.hp rv
    exact ⟨l, xs, rfl, .inl hs, new_lst R hp q k⟩
  · obtain ⟨l, xs, rfl, hs, hp⟩ := rv.tup_inv
    exact ⟨l, xs, rfl, .inr hs, new_lst R hp q k⟩
def int1A (g : Int → Int) : RCA := fun ds A Q => ∃ i, ds = [.int i] ∧ Q (.int (g i)) A
theorem lk_int1 {r : List V → Hp → VK → Prop} {g : Int → Int} (h : ∀ i H Q, Q (.int (g i)) H → r [.int i] H Q) : Lkc B X.K r (int1A g) := by
  intro vs ds H A Q QA R r ⟨i, e, q⟩ k
  subst e
  obtain ⟨v, rfl, rv⟩ := r.one
  rw [rv.int_inv]
  exact h i H Q (k _ _ H A R (Step.refl _ _) (.int _) q)
def int2A (g : Int → Int → Int) : RCA := fun ds A Q => ∃ i j, ds = [.int i, .int j] ∧ Q (.int (g i j)) A
theorem lk_int2 {r : List V → Hp → VK → Prop} {g : Int → Int → Int} (h : ∀ i j H Q, Q (.int (g i j)) H → r [.int i, .int j] H Q) : Lkc B X.K r (int2A g) := by
  intro vs ds H A Q QA R r ⟨i, j, e, q⟩ k
  subst e
  obtain ⟨v, w, rfl, r1, r2⟩ := r.two
  rw [r1.int_inv, r2.int_inv]
  exact h i j H Q (k _ _ H A R (Step.refl _ _) (.int _) q)
def maxI (i j : Int) : Int := if j > i then j else i
def minI (i j : Int) : Int := if j < i then j else i
def absI (i : Int) : Int := if i < 0 then -i else i
theorem lk_abs : Lkc B X.K (fun xs H Q => ∃ i, xs = [.int i] ∧ Q (.int (if i < 0 then -i else i)) H) (int1A absI) := lk_int1 fun i H Q q => ⟨i, rfl, q⟩
theorem lk_intc : Lkc B X.K (fun xs H Q => (∃ i, xs = [.int i] ∧ Q (.int i) H) ∨ ∃ k, xs = [.bl k] ∧ Q (.int (if k then 1 else 0)) H) (int1A fun i => i) := lk_int1 fun i H Q q => .inl ⟨i, rfl, q⟩
theorem lk_max : Lkc B X.K (fun xs H Q => ∃ i j, xs = [.int i, .int j] ∧ Q (.int (if j > i then j else i)) H) (int2A maxI) := lk_int2 fun i j H Q q => ⟨i, j, rfl, q⟩
theorem lk_min : Lkc B X.K (fun xs H Q => ∃ i j, xs = [.int i, .int j] ∧ Q (.int (if j < i then j else i)) H) (int2A minI) := lk_int2 fun i j H Q q => ⟨i, j, rfl, q⟩

/-! ## isinstance -/
def tyA (A : AHp) : D → String
  | .non => "NoneType" | .bl _ => "bool" | .int _ => "int" | .str _ => "str" | .tup _ => "tuple" | .fls _ => "list"
  | .ref a => match A a with | some (.lst _) => "list" | some (.dk _) => "dict" | _ => ""
  | .ty _ => ""
def isB (T n : String) : Bool := T == n || (T == "bool" && n == "int")
theorem kit_isB {T n : String} (hT : T ∈ ["NoneType", "bool", "int", "str", "tuple", "list", "dict"]) (hn : n ∈ ["bool", "int", "str", "tuple", "list"]) : kitB T n = some (isB T n) := by
  have h : (["NoneType", "bool", "int", "str", "tuple", "list", "dict"].all fun T => ["bool", "int", "str", "tuple", "list"].all fun n => decide (kitB T n = some (isB T n))) = true := by decide +kernel
  exact of_decide_eq_true (List.all_eq_true.mp (List.all_eq_true.mp h T hT) n hn)
def isiA : RCA := fun ds A Q => ∃ x n, ds = [x, .ty n] ∧ tyA A x ∈ ["NoneType", "bool", "int", "str", "tuple", "list", "dict"] ∧ n ∈ ["bool", "int", "str", "tuple", "list"] ∧ Q (.bl (isB (tyA A x) n)) A
theorem sqt_ty {K : PySem.W.Frag} {H : Hp} {a : Addr} {xs : List V} (h : SqT K H a xs) : TyX K H (.ref a) (.type "tuple") := by
  rcases h with (h | ⟨o, h⟩) | ⟨o, its, n, h1, h2, _⟩
  · exact .base (.tup h)
  · exact .fTuple h
  · exact .kTuple h1 h2
theorem sql_ty {K : PySem.W.Frag} {H : Hp} {a : Addr} {xs : List V} (h : SqL K H a xs) : TyX K H (.ref a) (.type "list") := by
  rcases h with (h | ⟨o, h⟩) | ⟨o, its, n, h1, h2, _⟩
  · exact .base (.lst h)
  · exact .base (.frz h)
  · exact .kList h1 h2
theorem lk_isi : Lkc B X.K (rIsi X.K) isiA := by
  intro vs ds H A Q QA R r ⟨x, n, e, hT, hn, q⟩ k
  subst e
  obtain ⟨v, w, rfl, r1, r2⟩ := r.two
  rw [r2.ty_inv]
  have q' := k _ _ H A R (Step.refl _ _) (.bl _) q
  have ty : TyX X.K H v (.type (tyA A x)) := by
    cases r1 with
    | non => exact .base .non
    | bl b => exact .base (.bl b)
    | int i => exact .base (.int i)
    | str s => exact .base (.str s)
    | ref a =>
      have hT' : tyA A (.ref a) ∈ ["NoneType", "bool", "int", "str", "tuple", "list", "dict"] := hT
      cases ea : A a with
      | none => exact absurd hT' (by simp only [tyA, ea]; decide)
      | some o =>
        cases o with
        | lst es =>
          obtain ⟨xs, h1, _⟩ := R.hp a _ ea
          have e2 : tyA A (.ref a) = "list" := by simp only [tyA, ea]
          rw [e2]
          exact .base (.lst h1)
        | dk es =>
          obtain ⟨xs, h1, _⟩ := R.hp a _ ea
          have e2 : tyA A (.ref a) = "dict" := by simp only [tyA, ea]
          rw [e2]
          exact .base (.dK h1)
        | ins c fs => exact absurd hT' (by simp only [tyA, ea]; decide)
    | ty n => exact absurd hT (by simp only [tyA]; decide)
    | tup h t => exact sqt_ty h
    | fls h t => exact sql_ty h.sq
  exact ⟨v, .ty n, _, _, _, rfl, .ty n, ty, kit_ty (kit_isB hT hn), q'⟩

/-! ## equality, membership: data at any depth -/
mutual
inductive PyD (A : AHp) : D → PyData → Prop
  | non : PyD A .non .none
  | bl (b : Bool) : PyD A (.bl b) (.bool b)
  | int (i : Int) : PyD A (.int i) (.int i)
  | str (x : Str) : PyD A (.str x) (.str x)
  | tup {ds : List D} {ps : List PyData} : PyDs A ds ps → PyD A (.tup ds) (.tuple ps)
  | lst {l : Addr} {ds : List D} {ps : List PyData} : A l = some (.lst ds) → PyDs A ds ps → PyD A (.ref l) (.list ps)
  | fls {ds : List D} {ps : List PyData} : PyDs A ds ps → PyD A (.fls ds) (.list ps)
inductive PyDs (A : AHp) : List D → List PyData → Prop
  | nil : PyDs A [] []
  | cons {d : D} {ds : List D} {p : PyData} {ps : List PyData} : PyD A d p → PyDs A ds ps → PyDs A (d :: ds) (p :: ps)
end
section
variable {κ : String → Addr} {K : PySem.W.Frag} {H : Hp} {A : AHp}
mutual
theorem PyD.dp (R : RH κ K H A) : ∀ {d : D} {p : PyData} {v : V}, PyD A d p → Rp K H v d → Dp K H v p
  | _, _, _, .non, r => by rw [r.non_inv]; exact .non
  | _, _, _, .bl b, r => by rw [r.bl_inv]; exact .bl b
  | _, _, _, .int b, r => by rw [r.int_inv]; exact .int b
  | _, _, _, .str b, r => by rw [r.str_inv]; exact .str b
  | _, _, _, .tup h, r => by
    obtain ⟨a, xs, rfl, h1, h2⟩ := r.tup_inv
    exact .tup h1 (PyDs.dp R h h2)
  | _, _, _, .lst e h, r => by
    obtain ⟨xs, h1, h2⟩ := R _ _ e
    rw [r.ref_inv]
    exact .lst (SqL.of h1) (PyDs.dp R h h2)
  | _, _, _, .fls h, r => by
    obtain ⟨a, xs, rfl, h1, h2⟩ := r.fls_inv
    exact .lst h1.sq (PyDs.dp R h h2)
theorem PyDs.dp (R : RH κ K H A) : ∀ {ds : List D} {ps : List PyData} {vs : List V}, PyDs A ds ps → Rps K H vs ds → DpAll K H vs ps
  | _, _, _, .nil, r => by cases r; exact .nil
  | _, _, _, .cons h t, r => by
    cases r with
    | cons r rt => exact .cons (PyD.dp R h r) (PyDs.dp R t rt)
end
end
def eqA (f : Bool → Bool) : R2A := fun x y A Q => ∃ p q, PyD A x p ∧ PyD A y q ∧ SeqAt.shaped p = true ∧ SeqAt.shaped q = true ∧ Q (.bl (f (PyData.eqv p q))) A
theorem lk_eq : Lk2 B X.K (rEqD X.K) (eqA id) := by
  intro x y d e H A Q QA R r1 r2 ⟨p, q, h1, h2, s1, s2, h⟩ k
  exact ⟨p, q, h1.dp R.hp r1, h2.dp R.hp r2, s1, s2, k _ _ H A R (Step.refl _ _) (.bl _) h⟩
theorem lk_ne : Lk2 B X.K (rNeD X.K) (eqA not) := by
  intro x y d e H A Q QA R r1 r2 ⟨p, q, h1, h2, s1, s2, h⟩ k
  exact ⟨p, q, h1.dp R.hp r1, h2.dp R.hp r2, s1, s2, k _ _ H A R (Step.refl _ _) (.bl _) h⟩
def rInT (K : PySem.W.Frag) (f : Bool → Bool) : R2 := fun x y H Q => ∃ d ds, Dp K H x d ∧ (Dp K H y (.list ds) ∨ Dp K H y (.tuple ds)) ∧ SeqAt.shaped d = true ∧ PyData.canLayAll0 ds = true ∧ Q (.bl (f (ds.any fun z => PyData.eqv z d))) H
theorem op_inA (hu : X.A.units + 66 < cLine) : OpR X (compareOp .In) (rInT X.K id) := by
  intro pins s σ H x y v u Q I rx ry ⟨d, ds, hd, he, sd, se, q⟩
  obtain ⟨as, r1⟩ := Dp.reads I d x v hd rx
  have room : X.A.units + 1 + min (PyData.depthAll ds) d.depth < cLine := by
    have z := of_decide_eq_true (Bool.and_eq_true_iff.mp sd).2
    have z2 : min (PyData.depthAll ds) d.depth ≤ d.depth := Nat.min_le_right _ _
    omega
  rcases he with he | he
  · obtain ⟨bs, r2⟩ := Dp.reads I (.list ds) y u he ry
    exact SeqAt.in_list_reads r2 r1 se (SeqAt.canLay_of_shaped sd) room ⟨.bl _, H, I, rfl, q⟩
  · obtain ⟨bs, r2⟩ := Dp.reads I (.tuple ds) y u he ry
    exact SeqAt.in_tuple_reads r2 r1 se (SeqAt.canLay_of_shaped sd) room ⟨.bl _, H, I, rfl, q⟩
theorem op_ninA (hu : X.A.units + 66 < cLine) : OpR X (compareOp .NotIn) (rInT X.K not) := by
  intro pins s σ H x y v u Q I rx ry ⟨d, ds, hd, he, sd, se, q⟩
  obtain ⟨as, r1⟩ := Dp.reads I d x v hd rx
  have room : X.A.units + 1 + min (PyData.depthAll ds) d.depth < cLine := by
    have z := of_decide_eq_true (Bool.and_eq_true_iff.mp sd).2
    have z2 : min (PyData.depthAll ds) d.depth ≤ d.depth := Nat.min_le_right _ _
    omega
  rcases he with he | he
  · obtain ⟨bs, r2⟩ := Dp.reads I (.list ds) y u he ry
    exact SeqAt.notIn_list_reads r2 r1 se (SeqAt.canLay_of_shaped sd) room ⟨.bl _, H, I, rfl, q⟩
  · obtain ⟨bs, r2⟩ := Dp.reads I (.tuple ds) y u he ry
    exact SeqAt.notIn_tuple_reads r2 r1 se (SeqAt.canLay_of_shaped sd) room ⟨.bl _, H, I, rfl, q⟩
def inA (f : Bool → Bool) : R2A := fun x y A Q => ∃ es p ps, (LsA A y es ∨ y = .tup es) ∧ PyD A x p ∧ PyDs A es ps ∧ SeqAt.shaped p = true ∧ PyData.canLayAll0 ps = true ∧ Q (.bl (f (ps.any fun z => PyData.eqv z p))) A
theorem lk_in {f : Bool → Bool} : Lk2 B X.K (rInT X.K f) (inA f) := by
  intro x y d e H A Q QA R r1 r2 ⟨es, p, ps, hl, h1, h2, s1, s2, h⟩ k
  refine ⟨p, ps, h1.dp R.hp r1, ?_, s1, s2, k _ _ H A R (Step.refl _ _) (.bl _) h⟩
  rcases hl with hl | rfl
  · obtain ⟨l, xs, rfl, hs, hp⟩ := hl.sq R.hp r2
    exact .inl (.lst hs (h2.dp R.hp hp))
  · obtain ⟨a, xs, rfl, hs, hp⟩ := r2.tup_inv
    exact .inr (.tup hs (h2.dp R.hp hp))
/-- is, is not, of None and of truths -/
def isA (f : Bool → Bool) : R2A := fun x y A Q => (∃ a b, x = .bl a ∧ y = .bl b ∧ Q (.bl (f (decide (a = b)))) A) ∨ (y = .non ∧ ∃ b, (b = true ↔ x = .non) ∧ Q (.bl (f b)) A)

/-! ## sorted, of tuples of ints -/
def tI (ns : List Int) : D := .tup (ns.map D.int)
theorem perm_rps {K : PySem.W.Frag} {H : Hp} {α : Type} {f : α → D} : ∀ {ys xs : List V}, ys.Perm xs → ∀ {nss : List α}, Rps K H xs (nss.map f) → ∃ nss' : List α, nss'.Perm nss ∧ Rps K H ys (nss'.map f) := by
  intro ys xs p
  induction p with
  | nil => intro nss r; exact ⟨nss, .refl _, r⟩
  | cons x _ ih =>
    intro nss r
    cases nss with
    | nil => cases r
    | cons n ns =>
      cases r with
      | cons h t =>
        obtain ⟨ns', p', r'⟩ := ih t
        exact ⟨n :: ns', .cons _ p', .cons h r'⟩
  | swap x y l =>
    intro nss r
    cases nss with
    | nil => cases r
    | cons n ns =>
      cases ns with
      | nil => cases r with | cons h t => cases t
      | cons m ms =>
        cases r with
        | cons h t =>
          cases t with
          | cons h' t => exact ⟨m :: n :: ms, .swap _ _ _, .cons h' (.cons h t)⟩
  | trans _ _ ih1 ih2 =>
    intro nss r
    obtain ⟨n2, p2, r2⟩ := ih2 r
    obtain ⟨n3, p3, r3⟩ := ih1 r2
    exact ⟨n3, p3.trans p2, r3⟩
def srtA (d : Nat) (C : Int) : RCA := fun ds A Q => ∃ (x : D) (nss : List (List Int)), ds = [x] ∧ LsA A x (nss.map tI) ∧ nss.length < 64 ∧ (∀ ns ∈ nss, ns.length = d ∧ TS.Bd C ns) ∧
  ∀ nss' : List (List Int), nss'.Perm nss → nss'.Pairwise (fun n m => TS.code C n ≤ TS.code C m) → ∀ p, A p = none → Q (.ref p) (ua A p (.lst (nss'.map tI)))
theorem tI_inv {K : PySem.W.Frag} {H : Hp} {v : V} {ns : List Int} (h : Rp K H v (tI ns)) : TupI K H v ns := by
  obtain ⟨a, xs, rfl, h1, h2⟩ := h.tup_inv
  rw [h2.ints] at h1
  exact ⟨a, rfl, h1⟩
theorem pair_rps {K : PySem.W.Frag} {H : Hp} {C : Int} : ∀ {ys : List V} {nss : List (List Int)}, Rps K H ys (nss.map tI) → ys.Pairwise (fun x y => ∀ n m, TupI K H x n → TupI K H y m → TS.code C n ≤ TS.code C m) → nss.Pairwise (fun n m => TS.code C n ≤ TS.code C m)
  | [], [], _, _ => .nil
  | [], _ :: _, r, _ => by cases r
  | _ :: _, [], r, _ => by cases r
  | y :: ys, n :: ns, r, p => by
    cases r with
    | cons h t =>
      cases p with
      | cons p1 p2 =>
        refine .cons (fun m hm => ?_) (pair_rps t p2)
        obtain ⟨i, hi, e⟩ := List.getElem_of_mem hm
        have e2 : (ns.map tI)[i]? = some (tI m) := by rw [List.getElem?_map, List.getElem?_eq_getElem hi, e]; rfl
        obtain ⟨v, h1, h2⟩ := t.get e2
        exact p1 v (List.mem_of_getElem? h1) n m (tI_inv h) (tI_inv h2)
theorem lk_srt {d : Nat} {C : Int} : Lkc B X.K (rSortU X.K d C) (srtA d C) := by
  intro vs ds H A Q QA R r ⟨x, nss, e, hl, hz, hb, q⟩ k
  subst e
  obtain ⟨v, rfl, rv⟩ := r.one
  obtain ⟨l, xs, rfl, hs, hp⟩ := hl.sq R.hp rv
  have hlen : xs.length = nss.length := by rw [hp.length, List.length_map]
  refine ⟨l, xs, rfl, hs, by omega, fun x hx => ?_, fun ys p hperm hpw hn => ?_⟩
  · obtain ⟨i, hi, e⟩ := List.getElem_of_mem hx
    have hi2 : i < nss.length := by omega
    have e2 : (nss.map tI)[i]? = some (tI nss[i]) := by rw [List.getElem?_map, List.getElem?_eq_getElem hi2]; rfl
    obtain ⟨w, h1, h2⟩ := hp.get e2
    have e3 : x = w := by rw [List.getElem?_eq_getElem hi, e] at h1; exact Option.some.inj h1
    subst e3
    exact ⟨nss[i], tI_inv h2, (hb _ (List.getElem_mem hi2)).1, (hb _ (List.getElem_mem hi2)).2⟩
  · obtain ⟨n2, p2, r2⟩ := perm_rps hperm hp
    exact new_lst R r2 (q n2 p2 (pair_rps r2 hpw)) k p hn
end Mu

namespace Mu
open PySem L2
variable {B : Bs} {X : Cx} {pos : Pos}

theorem op_isA : OpR X (compareOp .Is) (fun x y H Q => (∃ a b, x = .bl a ∧ y = .bl b ∧ Q (.bl (decide (a = b))) H) ∨ (y = .non ∧ Q (.bl (decide (x = .non))) H)) := op_is_bl.or op_isN
theorem op_isnA : OpR X (compareOp .IsNot) (fun x y H Q => (∃ a b, x = .bl a ∧ y = .bl b ∧ Q (.bl (!decide (a = b))) H) ∨ (y = .non ∧ Q (.bl (!decide (x = .non))) H)) := op_isnot_bl.or op_notN
theorem Rp.non_iff {K : PySem.W.Frag} {H : Hp} {v : V} {d : D} (h : Rp K H v d) : v = .non ↔ d = .non := by
  cases h <;> simp
theorem lk_is : Lk2 B X.K (fun x y H Q => (∃ a b, x = .bl a ∧ y = .bl b ∧ Q (.bl (decide (a = b))) H) ∨ (y = .non ∧ Q (.bl (decide (x = .non))) H)) (isA id) := by
  intro x y d e H A Q QA R r1 r2 h k
  rcases h with ⟨a, b, rfl, rfl, q⟩ | ⟨rfl, b, hb, q⟩
  · rw [r1.bl_inv, r2.bl_inv]
    exact .inl ⟨a, b, rfl, rfl, k _ _ H A R (Step.refl _ _) (.bl _) q⟩
  · refine .inr ⟨r2.non_inv, ?_⟩
    have e : decide (x = .non) = b := by
      cases b with
      | true => exact decide_eq_true (r1.non_iff.mpr (hb.mp rfl))
      | false => exact decide_eq_false fun z => Bool.noConfusion (hb.mpr (r1.non_iff.mp z))
    rw [e]
    exact k _ _ H A R (Step.refl _ _) (.bl _) q
theorem lk_isn : Lk2 B X.K (fun x y H Q => (∃ a b, x = .bl a ∧ y = .bl b ∧ Q (.bl (!decide (a = b))) H) ∨ (y = .non ∧ Q (.bl (!decide (x = .non))) H)) (isA not) := by
  intro x y d e H A Q QA R r1 r2 h k
  rcases h with ⟨a, b, rfl, rfl, q⟩ | ⟨rfl, b, hb, q⟩
  · rw [r1.bl_inv, r2.bl_inv]
    exact .inl ⟨a, b, rfl, rfl, k _ _ H A R (Step.refl _ _) (.bl _) q⟩
  · refine .inr ⟨r2.non_inv, ?_⟩
    have e : decide (x = .non) = b := by
      cases b with
      | true => exact decide_eq_true (r1.non_iff.mpr (hb.mp rfl))
      | false => exact decide_eq_false fun z => Bool.noConfusion (hb.mpr (r1.non_iff.mp z))
    rw [e]
    exact k _ _ H A R (Step.refl _ _) (.bl _) q

/-! ## statements -/
def sNil : TSA := fun _ D ρ A => D.nx ρ A
def sSeq (t u : TSA) : TSA := fun E D ρ A => t E { D with nx := u E D } ρ A
theorem ass_nil : ASs B X [] sNil := fun E _ => PSs.wk pss_nil fun Dn σ H ⟨ρ, A, DA, R, h, k1, _⟩ => k1 σ H ρ A R (Step.refl _ _) h
theorem seq_wk {E : EA} {t u : TSA} : ∀ Dn σ H, sOf B X.K (sSeq t u E) Dn σ H → tSeq (sOf B X.K (t E)) (sOf B X.K (u E)) Dn σ H := fun Dn σ H ⟨ρ, A, DA, R, h, k1, k2, k3, k4⟩ =>
  ⟨ρ, A, _, R, h, fun σ' H' ρ' A' R' S' h' => ⟨ρ', A', DA, R', h', fun a b c d r s q => k1 a b c d r (S'.trans s) q, fun a b c d r s q => k2 a b c d r (S'.trans s) q, fun a b c d r s q => k3 a b c d r (S'.trans s) q, fun a b c d r s q => k4 a b c d r (S'.trans s) q⟩, k2, k3, k4⟩
theorem ass_cons {st : Stmt} {rest : List Stmt} {t u : TSA} (h1 : AS B X st t) (h2 : ASs B X rest u) : ASs B X (st :: rest) (sSeq t u) := fun E hE => PSs.wk (pss_cons (h1 E hE) (h2 E hE)) seq_wk
theorem ass_one {st : Stmt} {t : TSA} (h1 : AS B X st t) : ASs B X [st] t := fun E hE => pss_one (h1 E hE)
theorem as_pass : AS B X (.Pass pos) sNil := fun E _ => PS.wk ps_pass fun Dn σ H ⟨ρ, A, DA, R, h, k1, _⟩ => k1 σ H ρ A R (Step.refl _ _) h
def sBreak : TSA := fun _ D ρ A => D.bk ρ A
theorem as_break : AS B X (.Break pos) sBreak := fun E _ => PS.wk ps_break fun Dn σ H ⟨ρ, A, DA, R, h, _, _, k3, _⟩ => k3 σ H ρ A R (Step.refl _ _) h
theorem as_doc {x j pos'} : AS B X (.Expr (.Constant (.str x) j pos) pos') sNil := fun E _ => PS.wk ps_doc fun Dn σ H ⟨ρ, A, DA, R, h, k1, _⟩ => k1 σ H ρ A R (Step.refl _ _) h
def sDrop (t : TEA) : TSA := fun E D ρ A => t E ρ A fun _ A1 => D.nx ρ A1
theorem as_expr {e : Expr} {t : TEA} (h : AE B X e t) (hs : swapsWith e none pos.line X.env = pure false := by rfl) : AS B X (.Expr e pos) (sDrop t) := fun E hE => PS.wk (ps_expr (h E hE) hs) fun Dn σ H ⟨ρ, A, DA, R, h, k1, _⟩ =>
  ⟨ρ, A, _, R, h, fun v d H1 A1 R1 S1 r1 h1 => k1 σ H1 ρ A1 R1 S1 h1⟩
def sRet (t : TEA) : TSA := fun E D ρ A => t E ρ A D.rt
theorem as_ret {e : Expr} {t : TEA} (h : AE B X e t) : AS B X (.Return (some e) pos) (sRet t) := fun E hE => PS.wk (ps_ret (h E hE)) fun Dn σ H ⟨ρ, A, DA, R, h, _, k2, _⟩ =>
  ⟨ρ, A, _, R, h, fun v d H1 A1 R1 S1 r1 h1 => k2 v d H1 A1 R1.hr S1 r1 h1⟩
def sRetN : TSA := fun _ D _ A => D.rt .non A
theorem as_retN : AS B X (.Return none pos) sRetN := fun E _ => PS.wk ps_retN fun Dn σ H ⟨ρ, A, DA, R, h, _, k2, _⟩ => k2 .non .non H A R.hr (Step.refl _ _) .non h
def sIf (c : TTA) (t u : TSA) : TSA := fun E D ρ A => c E ρ A fun b A1 => two b (t E D ρ A1) (u E D ρ A1)
theorem as_if {c : Expr} {a b : List Stmt} {tc : TTA} {t u : TSA} (hc : AT B X c tc) (ha : ASs B X a t) (hb : ASs B X b u) : AS B X (.If c a b pos) (sIf tc t u) := fun E hE => PS.wk (ps_if (hc E hE) (ha E hE) (hb E hE)) fun Dn σ H ⟨ρ, A, DA, R, h, k1, k2, k3, k4⟩ =>
  ⟨ρ, A, _, R, h, fun c H1 A1 R1 S1 h1 => ite_mono h1
    (fun z => ⟨ρ, A1, DA, R1, z, fun a b c d r s q => k1 a b c d r (S1.trans s) q, fun a b c d r s q => k2 a b c d r (S1.trans s) q, fun a b c d r s q => k3 a b c d r (S1.trans s) q, fun a b c d r s q => k4 a b c d r (S1.trans s) q⟩)
    (fun z => ⟨ρ, A1, DA, R1, z, fun a b c d r s q => k1 a b c d r (S1.trans s) q, fun a b c d r s q => k2 a b c d r (S1.trans s) q, fun a b c d r s q => k3 a b c d r (S1.trans s) q, fun a b c d r s q => k4 a b c d r (S1.trans s) q⟩)⟩
/-- truth of a list, a number, a truth -/
def truA (x : D) (A : AHp) (Q : Bool → AHp → Prop) : Prop := (∃ b, x = .bl b ∧ Q b A) ∨ (∃ ds, LsA A x ds ∧ Q (!ds.isEmpty) A)
def xTru (t : TEA) : TTA := fun E ρ A Q => t E ρ A fun d A1 => truA d A1 Q
theorem at_tru {e : Expr} {t : TEA} (h : AE B X e t) (he : ∀ whole, isTrue e X.env whole = (do let v ← whole; standAt e.pos; holding [v] (truthy v)) := by intro _; rfl) : AT B X e (xTru t) :=
  fun E hE => PT.wk (pt_truth (h E hE) he) fun σ H Q ⟨ρ, A, QA, R, h, k⟩ => ⟨ρ, A, _, R, h, fun v d H1 A1 R1 S1 r1 h1 => by
    rcases h1 with ⟨b, rfl, q⟩ | ⟨ds, hl, q⟩
    · rw [r1.bl_inv]
      exact ⟨b, rfl, k b H1 A1 R1 S1 q⟩
    · obtain ⟨l, xs, rfl, hs, hp⟩ := hl.sq R1.hr.hp r1
      have e : xs.isEmpty = ds.isEmpty := by cases hp <;> rfl
      exact ⟨!ds.isEmpty, .inl ⟨xs, hs, by rw [e]⟩, k _ H1 A1 R1 S1 q⟩⟩
/-- stores -/
def gName (i : Nat) : TGA := fun _ d ρ A Q => Q (ρ.set i (some d)) A
def sAsg (t : TEA) (g : TGA) : TSA := fun E D ρ A => t E ρ A fun d A1 => g E d ρ A1 D.nx
abbrev sSet (i : Nat) (t : TEA) : TSA := sAsg t (gName i)
theorem ag_name {i : Nat} {x : Str} (hN : X.N.Nodup) (hi : X.N[i]? = some x) (hx : Loc X.env.scope x) (hf : X.fn x = true ∨ X.env.scope.names.lookup x = some .local := by first | exact .inl rfl | exact .inr rfl | assumption) : AG B X (.Name x pos) (gName i) :=
  fun E _ => PG.wk (pg_name hN hi hx hf) fun v σ H Q ⟨ρ, A, d, QA, R, r, h, k⟩ => k _ H _ A ⟨R.hr, R.en.set r⟩ (Step.refl _ _) h
theorem asg_wk {E : EA} {t : TEA} {g : TGA} {te : TE} {tg : TG} (w : ∀ σ H Q, eOf B X.K (t E) σ H Q → te σ H Q) (wg : ∀ v σ H Q, gOf B X.K (g E) v σ H Q → tg v σ H Q) : ∀ Dn σ H, sOf B X.K (sAsg t g E) Dn σ H → tAsg te tg Dn σ H :=
  fun Dn σ H ⟨ρ, A, DA, R, h, k1, _⟩ => w σ H _ ⟨ρ, A, _, R, h, fun v d H1 A1 R1 S1 r1 h1 => wg v σ H1 _ ⟨ρ, A1, d, _, R1, r1, h1, fun σ' H' ρ' A' R' s q => k1 σ' H' ρ' A' R' (S1.trans s) q⟩⟩
theorem as_set {i : Nat} {x : Str} {e : Expr} {t : TEA} {pos' : Pos} (hN : X.N.Nodup) (hi : X.N[i]? = some x) (hx : Loc X.env.scope x) (h : AE B X e t) (hs : swapsWith e (some (.Name x pos')) pos.line X.env = pure false := by rfl)
    (hf : X.fn x = true ∨ X.env.scope.names.lookup x = some .local := by first | exact .inl rfl | exact .inr rfl | assumption) : AS B X (.Assign [.Name x pos'] e pos) (sSet i t) :=
  fun E hE => PS.wk (ps_set hN hi hx (h E hE) hs hf) (asg_wk (t := t) (g := gName i) (fun _ _ _ q => q) fun v σ H Q ⟨ρ, A, d, QA, R, r, h, k⟩ => k _ H _ A ⟨R.hr, R.en.set r⟩ (Step.refl _ _) h)
theorem as_asg {tg e : Expr} {t : TEA} {g : TGA} (h : AE B X e t) (hg : AG B X tg g) (hs : swapsWithSole [tg] e pos.line X.env = pure false := by rfl) (hw : swappedStores [tg] e X.env = pure none := by rfl)
    (h1 : (assignEach [tg] X.env).map (·.2) = [assign tg X.env] := by rfl) : AS B X (.Assign [tg] e pos) (sAsg t g) :=
  fun E hE => PS.wk (ps_asg (h E hE) (hg E hE) hs hw h1) (asg_wk (t := t) (g := g) (fun _ _ _ q => q) fun _ _ _ _ q => q)
def gsNil : EA → List D → AEnv → AHp → (AEnv → AHp → Prop) → Prop := fun _ ds ρ A Q => ds = [] ∧ Q ρ A
def gsCons (g : TGA) (u : EA → List D → AEnv → AHp → (AEnv → AHp → Prop) → Prop) : EA → List D → AEnv → AHp → (AEnv → AHp → Prop) → Prop := fun E ds ρ A Q => ∃ d r, ds = d :: r ∧ g E d ρ A fun ρ1 A1 => u E r ρ1 A1 Q
theorem ags_nil : AGs B X [] gsNil := fun E _ => PGs.wk pgs_nil fun vs σ H Q ⟨ρ, A, ds, QA, R, r, ⟨e, h⟩, k⟩ => by
  subst e
  cases r
  exact ⟨rfl, k σ H ρ A R (Step.refl _ _) h⟩
theorem ags_cons {e : Expr} {es : List Expr} {g : TGA} {u : EA → List D → AEnv → AHp → (AEnv → AHp → Prop) → Prop} (h1 : AG B X e g) (h2 : AGs B X es u)
    (hs : (assignEach (e :: es) X.env).map (·.2) = assign e X.env :: (assignEach es X.env).map (·.2) := by rfl) : AGs B X (e :: es) (gsCons g u) :=
  fun E hE => PGs.wk (pgs_cons (h1 E hE) (h2 E hE) hs) fun vs σ H Q ⟨ρ, A, ds, QA, R, r, ⟨d, ds', e, h⟩, k⟩ => by
    subst e
    cases r with
    | cons r rt => exact ⟨_, _, rfl, ρ, A, d, _, R, r, h, fun σ' H' ρ' A' R' S' q => ⟨ρ', A', ds', QA, R', R.hr.hp.rps S' rt, q, fun a b c d r s q => k a b c d r (S'.trans s) q⟩⟩
def gTup (n : Nat) (u : EA → List D → AEnv → AHp → (AEnv → AHp → Prop) → Prop) : TGA := fun E d ρ A Q => ∃ ds, d = .tup ds ∧ ds.length = n ∧ u E ds ρ A Q
theorem ag_tup {es : List Expr} {k : Nat} {u : EA → List D → AEnv → AHp → (AEnv → AHp → Prop) → Prop} {n : Nat} (hc : X.calm = true) (h : AGs B X es u)
    (hn : (assignEach es X.env).length = n := by rfl) (hst : (assignEach es X.env).findIdx? (·.1) = none := by rfl) : AG B X (.Tuple es k pos) (gTup n u) :=
  fun E hE => PG.wk (pg_tup hc (h E hE) hn hst) fun v σ H Q ⟨ρ, A, d, QA, R, r, ⟨ds, e, hl, q⟩, k⟩ => by
    subst e
    obtain ⟨a, xs, rfl, h1, h2⟩ := r.tup_inv
    exact ⟨a, xs, rfl, h1, by rw [h2.length]; exact hl, ρ, A, ds, QA, R, h2, q, k⟩
/-- o[i] = v of a list -/
def gSubK (x y d : D) (A2 : AHp) (Q : AHp → Prop) : Prop := ∃ l ds k j, x = .ref l ∧ y = .int k ∧ A2 l = some (.lst ds) ∧ ixN ds.length k = some j ∧ Q (ua A2 l (.lst (ds.set j d)))
def gSubL (o i : TEA) : TGA := fun E d ρ A Q => o E ρ A fun x A1 => i E ρ A1 fun y A2 => gSubK x y d A2 (Q ρ)
theorem HR.wr {K : PySem.W.Frag} {H : Hp} {A : AHp} (R : HR B K H A) {l : Addr} {u : HO} {o o' : AO} (e : A l = some o) (h : RO B.κ K (upd H l u) l o') : HR B K (upd H l u) (ua A l o') := R.step (Step.set e) (R.hp.set e h)
theorem ag_subL {o i : Expr} {to ti : TEA} (ho : AE B X o to) (hi : AE B X i ti) (ha : ∀ v, assign (.Subscript o i pos) X.env v = (do
      let ov ← holding [v] (eval o X.env)
      let iv ← holding [v, ov] (eval i X.env)
      standAt pos
      holding [v, ov, iv] (setItem ov iv v)
      release [v, ov, iv] []) := by intro _; rfl) : AG B X (.Subscript o i pos) (gSubL to ti) :=
  fun E hE => PG.wk (pg_sub (ho E hE) (hi E hE) set_list ha) fun v σ H Q ⟨ρ, A, d, QA, R, r, h, k⟩ =>
    ⟨ρ, A, _, R, h, fun vo x H1 A1 R1 S1 r1 h1 => ⟨ρ, A1, _, R1, h1, fun vi y H2 A2 R2' S2 r2 ⟨l, ds, j0, j, e1, e2, e3, e4, q⟩ => by
      subst e1 e2
      have r1' := R1.hr.hp.rp S2 r1
      obtain ⟨xs, g1, g2⟩ := R2'.hr.hp l _ e3
      have st : Step H2 A2 (upd H2 l (.lst (xs.set j v))) (ua A2 l (.lst (ds.set j d))) := Step.set e3
      have hr : HR B X.K (upd H2 l (.lst (xs.set j v))) (ua A2 l (.lst (ds.set j d))) := R2'.hr.wr e3 ⟨_, upd_same, (R2'.hr.hp.rps st (g2.set (R1.hr.hp.rp S2 (R.hr.hp.rp S1 r)) j))⟩
      exact ⟨l, xs, j0, j, r1'.ref_inv, r2.int_inv, g1, by rw [g2.length]; exact e4, k σ _ ρ _ (R2'.of st hr) ((S1.trans S2).trans st) q⟩⟩⟩
/-- x += n -/
def sAug (i : Nat) (t : TEA) : TSA := fun E D ρ A => ∃ n, ρ[i]? = some (some (.int n)) ∧ t E ρ A fun d A1 => ∃ m, d = .int m ∧ D.nx (ρ.set i (some (.int (n + m)))) A1
theorem as_aug {i : Nat} {x : Str} {e : Expr} {t : TEA} {pos' : Pos} (hN : X.N.Nodup) (hi : X.N[i]? = some x) (hx : Loc X.env.scope x) (h : AE B X e t) (hf : X.fn x = true ∨ X.env.scope.names.lookup x = some .local := by first | exact .inl rfl | exact .inr rfl | assumption) :
    AS B X (.AugAssign (.Name x pos') .Add e pos) (sAug i t) :=
  fun E hE => PS.wk (ps_aug hN hi hx (h E hE) ip_add hf) fun Dn σ H ⟨ρ, A, DA, R, ⟨n, e1, h⟩, k1, _⟩ => by
    obtain ⟨v, g1, g2⟩ := R.en.at_ i _ e1
    exact ⟨v, g1, ρ, A, _, R, h, fun w d H1 A1 R1 S1 r1 ⟨m, e2, q⟩ => by
      subst e2
      exact ⟨n, m, g2.int_inv, r1.int_inv, k1 _ H1 _ A1 ⟨R1.hr, R1.en.set (.int _)⟩ S1 q⟩⟩

/-! ## what is walked -/
structure Lis (K : PySem.W.Frag) (J : It) (items : List D) (H : Hp) : Prop where
  go : ∀ i, i < items.length → J.go i H
  yld : ∀ i x H' d, J.yld i H x H' → items[i]? = some d → H' = H ∧ Rp K H x d
  stop : ∀ i, items.length ≤ i → J.stop i H
abbrev TIA := EA → AEnv → AHp → (List D → (AHp → Prop) → AHp → Prop) → Prop
def iOf (B : Bs) (K : PySem.W.Frag) (T : AEnv → AHp → (List D → (AHp → Prop) → AHp → Prop) → Prop) : TI := fun σ H R => ∃ ρ A QA, Rel B K σ H ρ A ∧ T ρ A QA ∧
  ∀ J items still H1 A1, Rel B K σ H1 ρ A1 → Step H A H1 A1 → (∀ H2 A2, HR B K H2 A2 → Step H1 A1 H2 A2 → still A2 → Lis K J items H2) → QA items still A1 → R J H1
def AI (B : Bs) (X : Cx) (tg iter : Expr) (T : TIA) : Prop := ∀ E, Lnk B X E → PI X tg iter (iOf B X.K (T E))
theorem PI.wk {tg iter : Expr} {t t' : TI} (h : PI X tg iter t) (w : ∀ σ H Q, t' σ H Q → t σ H Q) : PI X tg iter t' := ⟨fun pins s σ H Q I q => h.run pins s σ H Q I (w _ _ _ q)⟩
/-- a list -/
def iLK (x : D) (A1 : AHp) (Q : List D → (AHp → Prop) → AHp → Prop) : Prop := ∃ ds, (∃ l, x = .ref l ∧ A1 l = some (.lst ds) ∧ Q ds (fun A2 => A2 l = some (.lst ds)) A1) ∨ (x = .fls ds ∧ Q ds (fun _ => True) A1)
def iL (t : TEA) : TIA := fun E ρ A Q => t E ρ A fun x A1 => iLK x A1 Q
theorem Rps.at_ {K : PySem.W.Frag} {H : Hp} {xs : List V} {ds : List D} (r : Rps K H xs ds) {i : Nat} {x : V} {d : D} (h1 : xs[i]? = some x) (h2 : ds[i]? = some d) : Rp K H x d := by
  obtain ⟨v, e, q⟩ := r.get h2
  rw [h1] at e; cases e; exact q
theorem lis_list {K : PySem.W.Frag} {H : Hp} {a : Addr} {xs : List V} {ds : List D} (h : SqL K H a xs) (r : Rps K H xs ds) : Lis K (Itl K a) ds H where
  go := fun i hi => by
    have hx : i < xs.length := by rw [r.length]; exact hi
    exact ⟨xs, xs[i], h, List.getElem?_eq_getElem hx⟩
  yld := fun i x H' d ⟨e, y⟩ hd => ⟨e, r.at_ (y xs h) hd⟩
  stop := fun i hi => ⟨xs, h, by rw [r.length]; exact hi⟩
theorem ai_list {tg l : Expr} {t : TEA} (h : AE B X l t) : AI B X tg l (iL t) := fun E hE => PI.wk (pi_list (h E hE)) fun σ H R ⟨ρ, A, QA, R0, h, k⟩ => ⟨ρ, A, _, R0, h, fun v d H1 A1 R1 S1 r1 ⟨ds, h1⟩ => by
  rcases h1 with ⟨l, rfl, e, q⟩ | ⟨rfl, q⟩
  · obtain ⟨xs, g1, g2⟩ := R1.hr.hp l _ e
    refine ⟨l, r1.ref_inv, ⟨xs, SqL.of g1⟩, k _ ds _ H1 A1 R1 S1 (fun H2 A2 hr s st => ?_) q⟩
    obtain ⟨ys, f1, f2⟩ := hr.hp l _ st
    exact lis_list (SqL.of f1) f2
  · obtain ⟨a, xs, rfl, g1, g2⟩ := r1.fls_inv
    refine ⟨a, rfl, ⟨xs, g1.sq⟩, k _ ds _ H1 A1 R1 S1 (fun H2 A2 hr s st => ?_) q⟩
    exact lis_list ((R1.hr.hp.stays s).frl g1).sq (R1.hr.hp.rps s g2)⟩
/-- a tuple -/
def iTK (x : D) (A1 : AHp) (Q : List D → (AHp → Prop) → AHp → Prop) : Prop := ∃ ds, x = .tup ds ∧ Q ds (fun _ => True) A1
def iT (t : TEA) : TIA := fun E ρ A Q => t E ρ A fun x A1 => iTK x A1 Q
theorem ai_tup {tg l : Expr} {t : TEA} (h : AE B X l t) : AI B X tg l (iT t) := fun E hE => PI.wk (pi_tup (h E hE)) fun σ H R ⟨ρ, A, QA, R0, h, k⟩ => ⟨ρ, A, _, R0, h, fun v d H1 A1 R1 S1 r1 ⟨ds, e, q⟩ => by
  subst e
  obtain ⟨a, xs, rfl, g1, g2⟩ := r1.tup_inv
  refine ⟨a, rfl, ⟨xs, g1⟩, k _ ds _ H1 A1 R1 S1 (fun H2 A2 hr s st => ?_) q⟩
  have g1' := (R1.hr.hp.stays s).sqt g1
  have g2' := R1.hr.hp.rps s g2
  exact ⟨fun i hi => ⟨xs, xs[i]'(by rw [g2.length]; exact hi), g1', List.getElem?_eq_getElem (by rw [g2.length]; exact hi)⟩, fun i x H' d ⟨e, y⟩ hd => ⟨e, g2'.at_ (y xs g1') hd⟩, fun i hi => ⟨xs, g1', by rw [g2.length]; exact hi⟩⟩⟩
/-- lo, lo + c, .. -/
def rngD (lo c : Int) (n : Nat) : List D := (List.range n).map fun i => D.int (lo + (i : Nat) * c)
theorem rngD_at {lo c : Int} {n i : Nat} {d : D} (h : (rngD lo c n)[i]? = some d) : d = .int (lo + (i : Nat) * c) := by
  unfold rngD at h
  rw [List.getElem?_map] at h
  cases e : (List.range n)[i]? with
  | none => rw [e] at h; cases h
  | some j =>
    rw [e] at h
    have := List.getElem?_range (n := n) (i := i) (by
      have := (List.getElem?_eq_some_iff.mp e).1
      simpa using this)
    rw [this] at e; cases e
    exact (Option.some.inj h).symm
theorem rngD_len {lo c : Int} {n : Nat} : (rngD lo c n).length = n := by simp [rngD]
def iR1K (ds : List D) (A1 : AHp) (Q : List D → (AHp → Prop) → AHp → Prop) : Prop := ∃ j : Int, ds = [.int j] ∧ -(2 ^ 62) ≤ j ∧ j < 2 ^ 62 ∧ Q (rngD 0 1 j.toNat) (fun _ => True) A1
def iR1 (a : TAA) : TIA := fun E ρ A Q => a E ρ A fun ds A1 => iR1K ds A1 Q
def iR2K (ds : List D) (A1 : AHp) (Q : List D → (AHp → Prop) → AHp → Prop) : Prop := ∃ i j : Int, ds = [.int i, .int j] ∧ (-(2 ^ 62) ≤ i ∧ i < 2 ^ 62 ∧ -(2 ^ 62) ≤ j ∧ j < 2 ^ 62) ∧ Q (rngD i 1 (j - i).toNat) (fun _ => True) A1
def iR2 (a : TAA) : TIA := fun E ρ A Q => a E ρ A fun ds A1 => iR2K ds A1 Q
def iR3K (ds : List D) (A1 : AHp) (Q : List D → (AHp → Prop) → AHp → Prop) : Prop := ∃ (i j s : Int) (n : Nat), ds = [.int i, .int j, .int s] ∧ RgC i j s n ∧ Q (rngD i s n) (fun _ => True) A1
def iR3 (a : TAA) : TIA := fun E ρ A Q => a E ρ A fun ds A1 => iR3K ds A1 Q
theorem lis_rng {K : PySem.W.Frag} {H : Hp} {lo : Int} {n : Nat} : Lis K (Itr lo n) (rngD lo 1 n) H where
  go := fun i hi => by rw [rngD_len] at hi; exact hi
  yld := fun i x H' d ⟨e, y⟩ hd => ⟨e, by rw [rngD_at hd, y, Int.mul_one]; exact .int _⟩
  stop := fun i hi => by rw [rngD_len] at hi; exact hi
theorem lis_rngC {K : PySem.W.Frag} {H : Hp} {lo c : Int} {n : Nat} : Lis K (Itc lo c n) (rngD lo c n) H where
  go := fun i hi => by rw [rngD_len] at hi; exact hi
  yld := fun i x H' d ⟨e, y⟩ hd => ⟨e, by rw [rngD_at hd, y]; exact .int _⟩
  stop := fun i hi => by rw [rngD_len] at hi; exact hi
theorem Rps.three {K : PySem.W.Frag} {H : Hp} {vs : List V} {d e f : D} (h : Rps K H vs [d, e, f]) : ∃ v w u, vs = [v, w, u] ∧ Rp K H v d ∧ Rp K H w e ∧ Rp K H u f := by
  cases h with | cons h t => obtain ⟨v, w, rfl, h1, h2⟩ := t.two; exact ⟨_, _, _, rfl, h, h1, h2⟩
theorem ai_range1 {tg a : Expr} {t : TAA} {p : Pos} (hg : Gl X "range") (hm : X.mg "range" = none) (h : AA B X [a] t) (hs : starEach [a] X.env = [(false, eval a X.env)] := by rfl) : AI B X tg (.Call (.Name "range" p) [a] [] pos) (iR1 t) :=
  fun E hE => PI.wk (pi_range1 hg hm (h E hE) hs) fun σ H R ⟨ρ, A, QA, R0, h, k⟩ => ⟨ρ, A, _, R0, h, fun vs ds H1 A1 R1 S1 r1 ⟨j, e, b1, b2, q⟩ => by
    subst e
    obtain ⟨v, rfl, rv⟩ := r1.one
    exact ⟨j, by rw [rv.int_inv], b1, b2, k _ _ _ H1 A1 R1 S1 (fun _ _ _ _ _ => lis_rng) q⟩⟩
theorem ai_range2 {tg a b : Expr} {t : TAA} {p : Pos} (hg : Gl X "range") (hm : X.mg "range" = none) (h : AA B X [a, b] t) (hs : starEach [a, b] X.env = [(false, eval a X.env), (false, eval b X.env)] := by rfl)
    (hs2 : starEach [b] X.env = [(false, eval b X.env)] := by rfl) : AI B X tg (.Call (.Name "range" p) [a, b] [] pos) (iR2 t) :=
  fun E hE => PI.wk (pi_range2 hg hm (h E hE) hs hs2) fun σ H R ⟨ρ, A, QA, R0, h, k⟩ => ⟨ρ, A, _, R0, h, fun vs ds H1 A1 R1 S1 r1 ⟨i, j, e, b1, q⟩ => by
    subst e
    obtain ⟨v, w, rfl, rv, rw'⟩ := r1.two
    exact ⟨i, j, by rw [rv.int_inv, rw'.int_inv], b1, k _ _ _ H1 A1 R1 S1 (fun _ _ _ _ _ => lis_rng) q⟩⟩
theorem ai_range3 {tg a b c : Expr} {t : TAA} {p : Pos} (hg : Gl X "range") (hm : X.mg "range" = none) (h : AA B X [a, b, c] t)
    (hp : ∀ ta, PA X [a, b, c] ta → PI X tg (.Call (.Name "range" p) [a, b, c] [] pos) (iRng3 ta)) : AI B X tg (.Call (.Name "range" p) [a, b, c] [] pos) (iR3 t) :=
  fun E hE => PI.wk (hp _ (h E hE)) fun σ H R ⟨ρ, A, QA, R0, h, k⟩ => ⟨ρ, A, _, R0, h, fun vs ds H1 A1 R1 S1 r1 ⟨i, j, s, n, e, b1, q⟩ => by
    subst e
    obtain ⟨v, w, u, rfl, rv, rw', ru⟩ := r1.three
    exact ⟨i, j, s, n, by rw [rv.int_inv, rw'.int_inv, ru.int_inv], b1, k _ _ _ H1 A1 R1 S1 (fun _ _ _ _ _ => lis_rngC) q⟩⟩

/-! ## loops -/
def forW (g : D → AEnv → AHp → (AEnv → AHp → Prop) → Prop) (body : EndsA → AEnv → AHp → Prop) (still : AHp → Prop) (N : EndsA) : List D → AEnv → AHp → Prop
  | [], ρ, A => still A ∧ N.nx ρ A
  | d :: ds, ρ, A => still A ∧ g d ρ A fun ρ1 A1 => body { N with nx := forW g body still N ds, ct := forW g body still N ds, bk := N.nx } ρ1 A1
def sFor (it : TIA) (g : TGA) (b : TSA) : TSA := fun E D ρ A => it E ρ A fun items still A1 => forW (g E) (b E) still D items ρ A1
theorem drop_get {α : Type} {l : List α} {i : Nat} {d : α} {r : List α} (h : l.drop i = d :: r) : l[i]? = some d ∧ l.drop (i + 1) = r ∧ i < l.length := by
  have h1 : (l.drop i)[0]? = some d := by rw [h]; rfl
  rw [List.getElem?_drop] at h1
  refine ⟨by simpa using h1, ?_, ?_⟩
  · have : (l.drop i).drop 1 = r := by rw [h]; rfl
    rw [List.drop_drop] at this
    exact this
  · have := (List.getElem?_eq_some_iff.mp h1).1
    simpa using this
theorem as_for {tg iter : Expr} {body : List Stmt} {it : TIA} {g : TGA} {tb : TSA} (hp : PassesOwn (model X.prog X.w) X.A X.env X.xe) (hc : X.calm = true) (hi : AI B X tg iter it) (hg : AG B X tg g) (hb : ASs B X body tb)
    (hs : ∀ x, foldedSetIterable iter X.env x = pure x := by intro _; rfl) : AS B X (.For tg iter body [] pos) (sFor it g tb) :=
  fun E hE => PS.wk (ps_for hp hc (hi E hE) (hg E hE) (hb E hE) hs) fun Dn σ H ⟨ρ, A, DA, R0, h, k1, k2, k3, k4⟩ =>
    ⟨ρ, A, _, R0, h, fun J items still H1 A1 R1 S1 lis q => by
      refine ⟨fun i m σ2 H2 => ∃ ρ2 A2, Rel B X.K σ2 H2 ρ2 A2 ∧ Step H1 A1 H2 A2 ∧ m = items.length - i ∧ i ≤ items.length ∧ forW (g E) (tb E) still DA (items.drop i) ρ2 A2, ⟨_, ρ, A1, R1, Step.refl _ _, rfl, Nat.zero_le _, q⟩, ?_⟩
      rintro i m σ2 H2 ⟨ρ2, A2, R2', S2, rfl, hi, w⟩
      cases e : items.drop i with
      | nil =>
        rw [e] at w
        obtain ⟨st, w⟩ := w
        have hl : items.length ≤ i := by
          have : (items.drop i).length = 0 := by rw [e]; rfl
          rw [List.length_drop] at this; omega
        exact .inl ⟨(lis H2 A2 R2'.hr S2 st).stop i hl, k1 σ2 H2 ρ2 A2 R2' (S1.trans S2) w⟩
      | cons d ds =>
        rw [e] at w
        obtain ⟨st, w⟩ := w
        obtain ⟨e1, e2, e3⟩ := drop_get e
        have L := lis H2 A2 R2'.hr S2 st
        refine .inr ⟨L.go i e3, fun σ' H' => ∃ ρ' A', Rel B X.K σ' H' ρ' A' ∧ Step H1 A1 H' A' ∧ forW (g E) (tb E) still DA ds ρ' A', fun σ' H' ⟨ρ', A', R', S', w'⟩ => ⟨items.length - (i + 1), by omega, ρ', A', R', S', rfl, e3, by rw [e2]; exact w'⟩, fun x H' y => ?_⟩
        obtain ⟨rfl, rx⟩ := L.yld i x H' d y e1
        refine ⟨ρ2, A2, d, _, R2', rx, w, fun σ3 H3 ρ3 A3 R3 S3 w3 => ⟨ρ3, A3, _, R3, w3, fun a b c d' r s q => ⟨c, d', r, (S2.trans S3).trans s, q⟩, fun a b c d' r s q => k2 a b c d' r (((S1.trans S2).trans S3).trans s) q, fun a b c d' r s q => k1 a b c d' r (((S1.trans S2).trans S3).trans s) q, fun a b c d' r s q => ⟨c, d', r, (S2.trans S3).trans s, q⟩⟩⟩⟩
def whN (c : TTA) (b : TSA) (E : EA) (D : EndsA) : Nat → AEnv → AHp → Prop
  | 0, _, _ => False
  | n + 1, ρ, A => c E ρ A fun t A1 => two t (b E { D with nx := whN c b E D n, ct := whN c b E D n, bk := D.nx } ρ A1) (D.nx ρ A1)
def sWhile (c : TTA) (b : TSA) : TSA := fun E D ρ A => ∃ n, whN c b E D n ρ A
theorem as_while {c : Expr} {body : List Stmt} {tc : TTA} {tb : TSA} (hp : PassesOwn (model X.prog X.w) X.A X.env X.xe) (hc : AT B X c tc) (hb : ASs B X body tb) : AS B X (.While c body [] pos) (sWhile tc tb) :=
  fun E hE => PS.wk (ps_while hp (hc E hE) (hb E hE)) fun Dn σ H ⟨ρ, A, DA, R0, ⟨n, h⟩, k1, k2, k3, k4⟩ => by
    refine ⟨fun m σ2 H2 => ∃ ρ2 A2, Rel B X.K σ2 H2 ρ2 A2 ∧ Step H A H2 A2 ∧ whN tc tb E DA m ρ2 A2, ⟨n, ρ, A, R0, Step.refl _ _, h⟩, ?_⟩
    rintro m σ2 H2 ⟨ρ2, A2, R2', S2, w⟩
    cases m with
    | zero => exact w.elim
    | succ m =>
      refine ⟨ρ2, A2, _, R2', w, fun b H3 A3 R3 S3 w3 => ite_mono w3 (fun z => ?_) (fun z => k1 _ _ _ _ R3 (S2.trans S3) z)⟩
      refine ⟨fun σ' H' => ∃ ρ' A', Rel B X.K σ' H' ρ' A' ∧ Step H A H' A' ∧ whN tc tb E DA m ρ' A', fun σ' H' q => ⟨m, Nat.lt_succ_self _, q⟩, ?_⟩
      exact ⟨ρ2, A3, _, R3, z, fun a b c d' r s q => ⟨c, d', r, (S2.trans S3).trans s, q⟩, fun a b c d' r s q => k2 a b c d' r ((S2.trans S3).trans s) q, fun a b c d' r s q => k1 a b c d' r ((S2.trans S3).trans s) q, fun a b c d' r s q => ⟨c, d', r, (S2.trans S3).trans s, q⟩⟩
end Mu

namespace Mu
open PySem L2
variable {B : Bs} {X : Cx} {pos : Pos}

/-! ## slices -/
abbrev TOA := EA → AEnv → AHp → (Option Int → AHp → Prop) → Prop
def oOf (B : Bs) (K : PySem.W.Frag) (T : AEnv → AHp → (Option Int → AHp → Prop) → Prop) : TO := fun σ H Q => ∃ ρ A QA, Rel B K σ H ρ A ∧ T ρ A QA ∧ ∀ o H' A', Rel B K σ H' ρ A' → Step H A H' A' → QA o A' → Q o H'
def AO_ (B : Bs) (X : Cx) (e : Option Expr) (T : TOA) : Prop := ∀ E, Lnk B X E → PO X e (oOf B X.K (T E))
theorem PO.wk {e : Option Expr} {t t' : TO} (h : PO X e t) (w : ∀ σ H Q, t' σ H Q → t σ H Q) : PO X e t' := ⟨fun pins s σ H Q I q => h.run pins s σ H Q I (w _ _ _ q)⟩
def oNone : TOA := fun _ _ A Q => Q none A
def oSome (t : TEA) : TOA := fun E ρ A Q => t E ρ A fun d A1 => ∃ i, d = .int i ∧ Q (some i) A1
theorem ao_none : AO_ B X none oNone := fun E _ => PO.wk po_none fun σ H Q ⟨ρ, A, QA, R, h, k⟩ => k none H A R (Step.refl _ _) h
theorem ao_some {e : Expr} {t : TEA} (h : AE B X e t) : AO_ B X (some e) (oSome t) := fun E hE => PO.wk (po_some (h E hE)) fun σ H Q ⟨ρ, A, QA, R, h, k⟩ =>
  ⟨ρ, A, _, R, h, fun v d H1 A1 R1 S1 r1 ⟨i, e, q⟩ => ⟨i, (by subst e; exact r1.int_inv), k _ H1 A1 R1 S1 q⟩⟩
def cutD (ds : List D) (lo hi : Option Int) : List D := (ds.drop (HT.sIx ds.length 0 lo)).take (HT.sIx ds.length ds.length hi - HT.sIx ds.length 0 lo)
theorem Rps.cut {K : PySem.W.Frag} {H : Hp} {xs : List V} {ds : List D} (r : Rps K H xs ds) (lo hi : Option Int) : Rps K H (cutV xs lo hi) (cutD ds lo hi) := by
  unfold cutV cutD
  rw [r.length]
  exact (r.drop _).take _
def slA (x : D) (lo hi : Option Int) (A : AHp) (Q : AK) : Prop := (∃ ds, LsA A x ds ∧ ∀ p, A p = none → Q (.ref p) (ua A p (.lst (cutD ds lo hi)))) ∨
  (∃ ds, x = .tup ds ∧ ¬ (HT.sIx ds.length 0 lo = 0 ∧ HT.sIx ds.length ds.length hi = ds.length) ∧ Q (.tup (cutD ds lo hi)) A)
def xSl (t : TEA) (lo hi : TOA) : TEA := fun E ρ A Q => t E ρ A fun x A1 => lo E ρ A1 fun l A2 => hi E ρ A2 fun h A3 => slA x l h A3 Q
theorem ae_sl {e : Expr} {lo hi : Option Expr} {t : TEA} {tl th : TOA} {p2 : Pos} (he : AE B X e t) (hl : AO_ B X lo tl) (hh : AO_ B X hi th) : AE B X (.Subscript e (.Slice lo hi none p2) pos) (xSl t tl th) :=
  fun E hE => PE.wk (pe_slice (sl_list.or sl_tup) (he E hE) (hl E hE) (hh E hE)) fun σ H Q ⟨ρ, A, QA, R, h, k⟩ =>
    ⟨ρ, A, _, R, h, fun v d H1 A1 R1 S1 r1 h1 => ⟨ρ, A1, _, R1, h1, fun l H2 A2 R2' S2 h2 => ⟨ρ, A2, _, R2', h2, fun u H3 A3 R3 S3 h3 => by
      have r3 := R2'.hr.hp.rp S3 (R1.hr.hp.rp S2 r1)
      have k' : ∀ v d' H' A', HR B X.K H' A' → Step H3 A3 H' A' → Rp X.K H' v d' → QA d' A' → Q v H' := fun v d' H' A' hr s rp q => k v d' H' A' (R3.of s hr) (((S1.trans S2).trans S3).trans s) rp q
      rcases h3 with ⟨ds, hl, q⟩ | ⟨ds, rfl, n, q⟩
      · obtain ⟨a, xs, rfl, hs, hp⟩ := hl.sq R3.hr.hp r3
        exact .inl ⟨a, xs, rfl, hs, new_lst R3.hr (hp.cut l u) q k'⟩
      · obtain ⟨a, xs, rfl, hs, hp⟩ := r3.tup_inv
        exact .inr ⟨a, xs, rfl, hs, by rw [hp.length]; exact n, new_tup R3.hr (hp.cut l u) q k'⟩⟩⟩⟩

/-! ## methods of lists -/
abbrev RMA := D → List D → AHp → AK → Prop
def Lkm (B : Bs) (K : PySem.W.Frag) (r : V → List V → Hp → VK → Prop) (rA : RMA) : Prop := ∀ (v : V) (x : D) (vs : List V) (ds : List D) (H : Hp) (A : AHp) (Q : VK) (QA : AK), HR B K H A → Rp K H v x → Rps K H vs ds → rA x ds A QA →
  (∀ v d' H' A', HR B K H' A' → Step H A H' A' → Rp K H' v d' → QA d' A' → Q v H') → r v vs H Q
def xLM (rA : RMA) (o : TEA) (a : TAA) : TEA := fun E ρ A Q => o E ρ A fun x A1 => (∃ ds, LsA A1 x ds) ∧ a E ρ A1 fun ds A2 => rA x ds A2 Q
theorem ae_lm {r : V → List V → Hp → VK → Prop} {rA : RMA} {o e : Expr} {es : List Expr} {to : TEA} {ta : TAA} (hp : ∀ t u, PE X o t → PA X es u → PE X e (tBM X.K "list" r t u)) (l : Lkm B X.K r rA) (ho : AE B X o to) (ha : AA B X es ta) : AE B X e (xLM rA to ta) :=
  fun E hE => PE.wk (hp _ _ (ho E hE) (ha E hE)) fun σ H Q ⟨ρ, A, QA, R, h, k⟩ => ⟨ρ, A, _, R, h, fun v d H1 A1 R1 S1 r1 ⟨⟨ds, hl⟩, h1⟩ => by
    have ty : tyV X.K "list" v H1 := by
      obtain ⟨a, xs, rfl, hs, _⟩ := hl.sq R1.hr.hp r1
      exact .inl ⟨rfl, xs, hs⟩
    exact ⟨ty, ρ, A1, _, R1, h1, fun vs ds H2 A2 R2' S2 r2 h2 => l v d vs ds H2 A2 Q QA R2'.hr (R1.hr.hp.rp S2 r1) r2 h2 fun v d' H' A' hr s rp q => k v d' H' A' (R2'.of s hr) ((S1.trans S2).trans s) rp q⟩⟩
theorem lk_wr {K : PySem.W.Frag} {H : Hp} {A : AHp} {Q : VK} {QA : AK} (R : HR B K H A) {l : Addr} {xs xs' : List V} {ds ds' : List D} (e : A l = some (.lst ds)) (h : H l = some (.lst xs)) (r : Rps K H xs' ds') (q : QA .non (ua A l (.lst ds')))
    (k : ∀ v d' H' A', HR B K H' A' → Step H A H' A' → Rp K H' v d' → QA d' A' → Q v H') : Q .non (upd H l (.lst xs')) := by
  have st : Step H A (upd H l (.lst xs')) (ua A l (.lst ds')) := Step.set e
  exact k _ _ _ _ (R.wr (o' := .lst ds') e ⟨xs', upd_same, R.hp.rps st r⟩) st .non q
def appA : RMA := fun x ds A Q => ∃ l xs y, x = .ref l ∧ ds = [y] ∧ A l = some (.lst xs) ∧ xs.length < sizeLine ∧ Q .non (ua A l (.lst (xs ++ [y])))
theorem lk_app : Lkm B X.K rAppend appA := by
  intro v x vs ds H A Q QA R r rs ⟨l, xs, y, e1, e2, e3, hz, q⟩ k
  subst e1 e2
  obtain ⟨w, rfl, rw'⟩ := rs.one
  obtain ⟨ys, h1, h2⟩ := R.hp l _ e3
  exact ⟨l, ys, w, r.ref_inv, rfl, h1, by rw [h2.length]; exact hz, lk_wr R e3 h1 (h2.append (.cons rw' .nil)) q k⟩
def extA : RMA := fun x ds A Q => ∃ l b xs zs, x = .ref l ∧ ds = [.ref b] ∧ A l = some (.lst xs) ∧ A b = some (.lst zs) ∧ xs.length + zs.length ≤ sizeLine ∧ Q .non (ua A l (.lst (xs ++ zs)))
theorem lk_ext : Lkm B X.K rExtend extA := by
  intro v x vs ds H A Q QA R r rs ⟨l, b, xs, zs, e1, e2, e3, e4, hz, q⟩ k
  subst e1 e2
  obtain ⟨w, rfl, rw'⟩ := rs.one
  obtain ⟨ys, h1, h2⟩ := R.hp l _ e3
  obtain ⟨us, h3, h4⟩ := R.hp b _ e4
  exact ⟨l, b, ys, us, r.ref_inv, by rw [rw'.ref_inv], h1, h3, by rw [h2.length, h4.length]; exact hz, lk_wr R e3 h1 (h2.append h4) q k⟩

/-! ## calls of defs -/
/-- a promise over data -/
abbrev ASp := List D → AHp → AK → (String → D → AHp → Prop) → Prop
def aSp (κ : String → Addr) (K : PySem.W.Frag) (sp : ASp) : Sp := fun vs H Q E => ∃ ds A QA EX, Rps K H vs ds ∧ RH κ K H A ∧ sp ds A QA EX ∧ (∀ v d H' A', Step H A H' A' → RH κ K H' A' → Rp K H' v d → QA d A' → Q v H') ∧
  (∀ c pl da v H' A', Step H A H' A' → RH κ K H' A' → EX c pl A' → H' da = some (.xd [(fld c, v)]) → A' da = none → Rp K H' v pl → E (.ref (κ c)) (some da) H')
def xCall (sp : ASp) (a : TAA) : TEA := fun E ρ A Q => a E ρ A fun ds A1 => sp ds A1 Q fun c pl A2 => E ρ c pl A2
theorem call_wk {E : EA} {W : WX} {sp : ASp} (hW : ∀ (σ : L2.St) (H : Hp) (ρ : AEnv) (A : AHp) (c : String) (pl : D) (da : Addr) (v : V), Rel B X.K σ H ρ A → E ρ c pl A → H da = some (.xd [(fld c, v)]) → A da = none → Rp X.K H v pl → W (.ref (B.κ c)) (some da) σ H)
    {σ : L2.St} {H : Hp} {ρ : AEnv} {A : AHp} {vs : List V} {ds : List D} {Q : VK} {QA : AK} (R : Rel B X.K σ H ρ A) (r : Rps X.K H vs ds) (h : sp ds A QA fun c pl A2 => E ρ c pl A2)
    (k : ∀ v d H' A', Rel B X.K σ H' ρ A' → Step H A H' A' → Rp X.K H' v d → QA d A' → Q v H') : aSp B.κ X.K sp vs H Q (WE W σ) :=
  ⟨ds, A, QA, _, r, R.hr.hp, h, fun v d H' A' s rh rp q => k v d H' A' (R.step s rh) s rp q, fun c pl da v H' A' s rh ex e1 e2 rp => hW σ H' ρ A' c pl da v (R.step s rh) ex e1 e2 rp⟩
theorem ae_call {k : Nat} {f : Addr} {fd : FuncData} {ps : List Str} {sp : ASp} {x : Str} {p : Pos} {e : Expr} {es : List Expr} {ta : TAA} (F : FnOk X.prog X.w X.K X.mg X.base (L2.CX X.prog X.w) k f fd ps (aSp B.κ X.K sp)) (hr : Room k X.A) (hg : Gl X x) (hm : X.mg x = some (.ref f))
    (hk : PySem.W.keepIn X.K (.ref f) = true) (hb : Binds X.K fd ps []) (ha : AA B X (e :: es) ta) (hdb : (x == ("__debug__" : Str)) = false := by decide) (he : starEach (e :: es) X.env = (false, eval e X.env) :: starEach es X.env := by rfl)
    (hpl : (backTo pos (starEach es X.env)).any (·.1) = false := by rfl) : AE B X (.Call (.Name x p) (e :: es) [] pos) (xCall sp ta) := fun E hE => by
  obtain ⟨W, tk, hW⟩ := hE.ex
  refine PE.wk (pe_callSD F hr hg hm hk hb .nil (fun σ => passAt tk σ) (ha E hE) hdb he hpl) ?_
  rintro σ H Q ⟨ρ, A, QA, R, h, k⟩
  refine ⟨ρ, A, _, R, h, fun vs ds H1 A1 R1 S1 r1 h1 => ?_⟩
  show aSp B.κ X.K sp (vs ++ []) H1 Q (WE W σ)
  rw [List.append_nil]
  exact call_wk hW R1 r1 h1 fun v d H' A' R' s rp q => k v d H' A' R' (S1.trans s) rp q

/-! ## comprehensions over one name -/
def E0A : EA := fun _ _ _ _ => False
theorem lnk0 {X : Cx} : Lnk B X E0A := ⟨⟨_, takes0, fun _ _ _ _ _ _ _ _ _ h => h.elim⟩⟩
def lcW (i : Nat) (tt : TTA) (te : TEA) (ρ : AEnv) (still : AHp → Prop) : List D → List D → AHp → (List D → AHp → Prop) → Prop
  | [], acc, A, Q => still A ∧ Q acc A
  | d :: ds, acc, A, Q => still A ∧ tt E0A (ρ.set i (some d)) A fun b A3 => two b (te E0A (ρ.set i (some d)) A3 fun y A4 => acc.length < sizeLine ∧ lcW i tt te ρ still ds (acc ++ [y]) A4 Q) (lcW i tt te ρ still ds acc A3 Q)
def xLc (i : Nat) (it : TIA) (tt : TTA) (te : TEA) : TEA := fun E ρ A Q => it E ρ A fun items still A1 => lcW i tt te ρ still items [] A1 fun acc A2 => ∀ p, A2 p = none → Q (.ref p) (ua A2 p (.lst acc))
def xYes : TTA := fun _ _ A Q => Q true A
theorem set_set_n {α : Type} (l : List (Option α)) (i : Nat) (x y : Option α) : (l.set i x).set i y = l.set i y := by simp
theorem lc_wk {E : EA} {i : Nat} {it : TIA} {tt : TTA} {te : TEA} {t' : TT} (wt : ∀ σ H Q, tstOf B X.K (tt E0A) σ H Q → t' σ H Q) : ∀ σ H Q, eOf B X.K (xLc i it tt te E) σ H Q → tLc (iOf B X.K (it E)) (L2.gName i) t' (eOf B X.K (te E0A)) [i] σ H Q := by
  rintro σ H Q ⟨ρ, A, QA, R, h, k⟩
  refine ⟨ρ, A, _, R, h, fun J items still H1 A1 R1 S1 lis w p np => ?_⟩
  have npA : A1 p = none := R1.hr.hp.free np
  -- the state of the block: the new list stands at p, told by nobody
  let St_ : Hp → AHp → List D → Prop := fun H2 A2 acc => RH B.κ X.K H2 A2 ∧ Step H1 A1 H2 A2 ∧ A2 p = none ∧ ∃ xs, H2 p = some (.lst xs) ∧ Rps X.K H2 xs acc
  have rel : ∀ {H2 : Hp} {A2 : AHp} {acc : List D}, St_ H2 A2 acc → HR B X.K H2 A2 := fun s => R1.hr.step s.2.1 s.1
  have st0 : Step H1 A1 (upd H1 p (.lst [])) A1 := Step.more np A1
  refine ⟨fun j m H2 => ∃ A2 acc, St_ H2 A2 acc ∧ m = items.length - j ∧ j ≤ items.length ∧ lcW i tt te ρ still (items.drop j) acc A2 fun acc A2 => ∀ p, A2 p = none → QA (.ref p) (ua A2 p (.lst acc)),
    ⟨items.length, A1, [], ⟨R1.hr.hp.more np, st0, npA, [], upd_same, .nil⟩, by simp, Nat.zero_le _, w⟩, ?_⟩
  rintro j m H2 ⟨A2, acc, S2, rfl, hj, w⟩
  have hr2 := rel S2
  cases e : items.drop j with
  | nil =>
    rw [e] at w
    obtain ⟨stl, w⟩ := w
    have hl : items.length ≤ j := by
      have : (items.drop j).length = 0 := by rw [e]; rfl
      rw [List.length_drop] at this; omega
    obtain ⟨rh, s12, n2, xs, hx, rx⟩ := S2
    refine .inl ⟨(lis H2 A2 hr2 s12 stl).stop j hl, ?_⟩
    have s13 : Step H1 A1 H2 (ua A2 p (.lst acc)) := fun a o h1 h2 => by
      have ne : a ≠ p := ne_of_none h1 np
      exact ⟨(s12 a o h1 h2).1, by rw [ua_ne ne]; exact (s12 a o h1 h2).2⟩
    have rh3 : RH B.κ X.K H2 (ua A2 p (.lst acc)) := fun a o ea => by
      by_cases q : a = p
      · subst q; rw [ua_same] at ea; cases ea; exact ⟨xs, hx, rx⟩
      · rw [ua_ne q] at ea; exact rh a o ea
    exact k _ _ _ _ (R1.step s13 rh3) (S1.trans s13) (.ref p) (w p n2)
  | cons d ds =>
    rw [e] at w
    obtain ⟨stl, w⟩ := w
    obtain ⟨e1, e2, e3⟩ := drop_get e
    have L := lis H2 A2 hr2 S2.2.1 stl
    refine .inr ⟨L.go j e3, fun H' => ∃ A' acc', St_ H' A' acc' ∧ lcW i tt te ρ still ds acc' A' fun acc A2 => ∀ p, A2 p = none → QA (.ref p) (ua A2 p (.lst acc)),
      fun H' ⟨A', acc', S', w'⟩ => ⟨items.length - (j + 1), by omega, A', acc', S', rfl, e3, by rw [e2]; exact w'⟩, fun x H' y => ?_⟩
    obtain ⟨rfl, rx⟩ := L.yld j x H' d y e1
    show wipe ((wipe σ [i]).set i (some x)) [i] = wipe σ [i] ∧ _
    refine ⟨by show (((σ.set i none).set i (some x)).set i none) = σ.set i none; rw [set_set_n, set_set_n], ?_⟩
    have hσ : (wipe σ [i]).set i (some x) = σ.set i (some x) := by show (σ.set i none).set i (some x) = _; rw [set_set_n]
    rw [hσ]
    have en2 : RE X.K H' (σ.set i (some x)) (ρ.set i (some d)) := ((R1.en.step R1.hr.hp S2.2.1).set rx)
    refine wt _ _ _ ⟨ρ.set i (some d), A2, _, ⟨hr2, en2⟩, w, fun b H3 A3 R3 S3 w3 => ?_⟩
    have S3' : St_ H3 A3 acc := by
      obtain ⟨rh, s12, n2, xs, hx, rx⟩ := S2
      obtain ⟨q1, q2⟩ := S3 p _ hx n2
      exact ⟨R3.hr.hp, s12.trans S3, q2, xs, q1, rh.rps S3 rx⟩
    refine ite_mono w3 (fun z => ⟨ρ.set i (some d), A3, _, R3, z, fun yv yd H4 A4 R4 S4 r4 ⟨hz, w4⟩ => ?_⟩) (fun z => ⟨A3, acc, S3', z⟩)
    obtain ⟨rh, s13, n3, xs, hx, rx⟩ := S3'
    obtain ⟨q1, q2⟩ := S4 p _ hx n3
    have rx4 := rh.rps S4 rx
    have stays : Stays H4 (upd H4 p (.lst (xs ++ [yv]))) := Stays.wr q1
    refine ⟨xs, q1, by rw [rx.length]; exact hz, A4, acc ++ [yd], ⟨fun a o ea => ?_, fun a o h1 h2 => ?_, q2, xs ++ [yv], upd_same, stays.rps (rx4.append (.cons r4 .nil))⟩, w4⟩
    · have ne : a ≠ p := fun z => by rw [z, q2] at ea; cases ea
      exact stays.ro (R4.hr.hp a o ea) (upd_ne ne)
    · have ne : a ≠ p := ne_of_none h1 np
      have := (s13.trans S4) a o h1 h2
      exact ⟨by rw [upd_ne ne]; exact this.1, this.2⟩
section
variable {elt tg iter : Expr} {scope : Scope} {x : Str} {i : Nat} {it : TIA} {te : TEA} {tt : TTA} {px : Pos}
theorem ae_lc (hc : X.calm = true) (hN : X.N.Nodup) (hi : AI B X (.Name x px) iter it) (ok : BlkOk X.N X.env.scope scope [(x, i)])
    (hg : ∀ (s : Shared) (H : Hp) (C : Addr) (cl : List (Str × Addr)) (fp : List Addr), PG (X.blk s H scope (compEnvC scope cl C X.env) fp) (.Name x px) (L2.gName i))
    (he : ∀ (s : Shared) (H : Hp) (C : Addr) (cl : List (Str × Addr)) (fp : List Addr), AE B (X.blk s H scope (compEnvC scope cl C X.env) fp) elt te) (hs : ∀ x, foldedSetIterable iter X.env x = pure x := by intro _; rfl) :
    AE B X (.ListComp elt [⟨.Name x px, iter, [], 0⟩] scope pos) (xLc i it xYes te) :=
  fun E hE => PE.wk (pe_lc (own := [(x, i)]) (tt := tYes) hc hN (hi E hE) ok hg (fun _ _ _ _ _ => pts_nil) (fun s H C cl fp => he s H C cl fp E0A lnk0) hs) (lc_wk (X := X) fun σ H Q ⟨ρ, A, QA, R, h, k⟩ => k true H A R (Step.refl _ _) h)
theorem ae_lcif {c : Expr} (hc : X.calm = true) (hN : X.N.Nodup) (hi : AI B X (.Name x px) iter it) (ok : BlkOk X.N X.env.scope scope [(x, i)])
    (hg : ∀ (s : Shared) (H : Hp) (C : Addr) (cl : List (Str × Addr)) (fp : List Addr), PG (X.blk s H scope (compEnvC scope cl C X.env) fp) (.Name x px) (L2.gName i))
    (ht : ∀ (s : Shared) (H : Hp) (C : Addr) (cl : List (Str × Addr)) (fp : List Addr), AT B (X.blk s H scope (compEnvC scope cl C X.env) fp) c tt)
    (he : ∀ (s : Shared) (H : Hp) (C : Addr) (cl : List (Str × Addr)) (fp : List Addr), AE B (X.blk s H scope (compEnvC scope cl C X.env) fp) elt te) (hs : ∀ x, foldedSetIterable iter X.env x = pure x := by intro _; rfl) :
    AE B X (.ListComp elt [⟨.Name x px, iter, [c], 0⟩] scope pos) (xLc i it tt te) :=
  fun E hE => PE.wk (pe_lc (own := [(x, i)]) hc hN (hi E hE) ok hg (fun s H C cl fp => pts_one (ht s H C cl fp E0A lnk0)) (fun s H C cl fp => he s H C cl fp E0A lnk0) hs) (lc_wk (X := X) fun _ _ _ q => q)
/-- y = [..] -/
theorem as_lc {j : Nat} {y : Str} {py spos : Pos} (hc : X.calm = true) (hN : X.N.Nodup) (hy : X.N[j]? = some y) (hyl : X.env.scope.names.lookup y = some .local)
    (hsw : swapsWith (.ListComp elt [⟨.Name x px, iter, [], 0⟩] scope pos) (some (.Name y py)) spos.line X.env = pure true) (hi : AI B X (.Name x px) iter it) (ok : BlkOk X.N X.env.scope scope [(x, i)])
    (hg : ∀ (s : Shared) (H : Hp) (C : Addr) (cl : List (Str × Addr)) (fp : List Addr), PG (X.blk s H scope (compEnvC scope cl C X.env) fp) (.Name x px) (L2.gName i))
    (he : ∀ (s : Shared) (H : Hp) (C : Addr) (cl : List (Str × Addr)) (fp : List Addr), AE B (X.blk s H scope (compEnvC scope cl C X.env) fp) elt te) (hs : ∀ x, foldedSetIterable iter X.env x = pure x := by intro _; rfl) :
    AS B X (.Assign [.Name y py] (.ListComp elt [⟨.Name x px, iter, [], 0⟩] scope pos) spos) (sSet j (xLc i it xYes te)) :=
  fun E hE => PS.wk (ps_setLc (own := [(x, i)]) (tt := tYes) hc hN hy hyl hsw (hi E hE) ok hg (fun _ _ _ _ _ => pts_nil) (fun s H C cl fp => he s H C cl fp E0A lnk0) hs)
    (asg_wk (t := xLc i it xYes te) (g := gName j) (lc_wk (X := X) fun σ H Q ⟨ρ, A, QA, R, h, k⟩ => k true H A R (Step.refl _ _) h) fun v σ H Q ⟨ρ, A, d, QA, R, r, h, k⟩ => k _ H _ A ⟨R.hr, R.en.set r⟩ (Step.refl _ _) h)
theorem as_lcif {c : Expr} {j : Nat} {y : Str} {py spos : Pos} (hc : X.calm = true) (hN : X.N.Nodup) (hy : X.N[j]? = some y) (hyl : X.env.scope.names.lookup y = some .local)
    (hsw : swapsWith (.ListComp elt [⟨.Name x px, iter, [c], 0⟩] scope pos) (some (.Name y py)) spos.line X.env = pure true) (hi : AI B X (.Name x px) iter it) (ok : BlkOk X.N X.env.scope scope [(x, i)])
    (hg : ∀ (s : Shared) (H : Hp) (C : Addr) (cl : List (Str × Addr)) (fp : List Addr), PG (X.blk s H scope (compEnvC scope cl C X.env) fp) (.Name x px) (L2.gName i))
    (ht : ∀ (s : Shared) (H : Hp) (C : Addr) (cl : List (Str × Addr)) (fp : List Addr), AT B (X.blk s H scope (compEnvC scope cl C X.env) fp) c tt)
    (he : ∀ (s : Shared) (H : Hp) (C : Addr) (cl : List (Str × Addr)) (fp : List Addr), AE B (X.blk s H scope (compEnvC scope cl C X.env) fp) elt te) (hs : ∀ x, foldedSetIterable iter X.env x = pure x := by intro _; rfl) :
    AS B X (.Assign [.Name y py] (.ListComp elt [⟨.Name x px, iter, [c], 0⟩] scope pos) spos) (sSet j (xLc i it tt te)) :=
  fun E hE => PS.wk (ps_setLc (own := [(x, i)]) hc hN hy hyl hsw (hi E hE) ok hg (fun s H C cl fp => pts_one (ht s H C cl fp E0A lnk0)) (fun s H C cl fp => he s H C cl fp E0A lnk0) hs)
    (asg_wk (t := xLc i it tt te) (g := gName j) (lc_wk (X := X) fun _ _ _ q => q) fun v σ H Q ⟨ρ, A, d, QA, R, r, h, k⟩ => k _ H _ A ⟨R.hr, R.en.set r⟩ (Step.refl _ _) h)
end

/-! ## a def -/
def envA (n : Nat) (ds : List D) : AEnv := ds.map some ++ List.replicate (n - ds.length) none
theorem envA_re {K : PySem.W.Frag} {H : Hp} {N : List Str} {vs : List V} {ds : List D} (r : Rps K H vs ds) : RE K H (L2.start N vs) (envA N.length ds) := by
  refine ⟨by unfold L2.start envA; simp [r.length], fun i d h => ?_⟩
  unfold envA at h
  unfold L2.start
  by_cases hi : i < ds.length
  · rw [List.getElem?_append_left (by simpa using hi), List.getElem?_map] at h
    cases e : ds[i]? with
    | none => rw [e] at h; cases h
    | some d' =>
      rw [e] at h
      have h' : some d' = some d := Option.some.inj h
      cases h'
      obtain ⟨v, h1, h2⟩ := r.get e
      exact ⟨v, by rw [List.getElem?_append_left (by rw [List.length_map, r.length]; exact hi), List.getElem?_map, h1]; rfl, h2⟩
  · rw [List.getElem?_append_right (by simp; omega)] at h
    have := List.mem_of_getElem? h
    rw [List.mem_replicate] at this
    exact absurd this.2 (by simp)
section
variable {P : Program} {w : World} {K : PySem.W.Frag} {mg : Str → Option Value} {base : Heap} {κ : String → Addr}
/-- a def keeps its promise: its body's words T, and the promise over T -/
theorem okA {x qual : Str} {st : Stmt} {f : Addr} {fd : FuncData} {N ps : List Str} {k : Nat} {sp : ASp} {T : TSA} (F : Fun K x qual st f fd) (S : FnScope N ps (defScope st)) (hl : ∀ ds A Q E, sp ds A Q E → ds.length = ps.length)
    (hb : ∀ (B : Bs) (cdv : Value) (A : Around) (outer : List Env) (s : Shared) (H : Hp) (E : XK), B.κ = κ → Room k (A.deeper (PyProof.Rows.envOfC qual (defScope st) s.heap.objs.size f cdv)) → ASs B (cxOf (L2.CX P w) P w K mg base N qual (defScope st) f cdv A outer s H E) (defBody st) T)
    (hs : ∀ ds A Q E, sp ds A Q E → T (fun _ c pl A' => E c pl A') ⟨fun _ A' => Q .non A', Q, fun _ _ => False, fun _ _ => False⟩ (envA N.length ds) A) : FnOk P w K mg base (L2.CX P w) (k + 1) f fd ps (aSp κ K sp) := by
  refine F.okX S (fun vs H Q E ⟨ds, A, QA, EX, r, _, h, _⟩ => by rw [r.length]; exact hl _ _ _ _ h) fun cdv A outer s H vs Q E hr ⟨ds, A0, QA, EX, r, rh, h, k1, k2⟩ => ?_
  have lnk : Lnk ⟨κ, H, A0⟩ (cxOf (L2.CX P w) P w K mg base N qual (defScope st) f cdv A outer s H E) (fun _ c pl A' => EX c pl A') :=
    ⟨⟨fun cls d _ H => E cls d H, takes_of rfl rfl rfl rfl, fun σ H' ρ A' c pl da v R ex e1 e2 rp => k2 c pl da v H' A' R.hr.st R.hr.hp ex e1 e2 rp⟩⟩
  refine ⟨_, hb ⟨κ, H, A0⟩ cdv A outer s H E rfl hr _ lnk, envA N.length ds, A0, _, ⟨⟨rh, Step.refl _ _⟩, envA_re r⟩, hs ds A0 QA EX h, ?_, ?_, ?_, ?_⟩
  · intro σ' H' ρ' A' R' S' q
    exact k1 .non .non H' A' R'.hr.st R'.hr.hp .non q
  · intro v d H' A' R' S' rp q
    exact k1 v d H' A' R'.st R'.hp rp q
  · exact fun _ _ _ _ _ _ z => z.elim
  · exact fun _ _ _ _ _ _ z => z.elim
end
end Mu

namespace Mu
open PySem L2

abbrev ixB : R2A := fun x y A Q => ixA x y A Q ∨ ixS x y A Q
abbrev ltA : R2A := cmpA fun i j => decide (i < j)
abbrev leA : R2A := cmpA fun i j => decide (i ≤ j)
abbrev gtA : R2A := cmpA fun i j => decide (j < i)
abbrev geA : R2A := cmpA fun i j => decide (j ≤ i)
theorem hu66 {A : Around} {k : Nat} (hr : Room k A) : A.units + 66 < cLine := by have := hr.un; omega

/-! ## steps of a walk over words -/
section
variable {E : EA} {ρ : AEnv} {A : AHp} {Q : AK} {QT : Bool → AHp → Prop} {QL : List D → AHp → Prop} {N : EndsA} {a b c : TEA} {t u : TTA} {l l' : TAA} {s s' : TSA}
theorem i_var {i : Nat} {d : D} (h : ρ[i]? = some (some d)) (k : Q d A) : xVar i E ρ A Q := ⟨d, h, k⟩
theorem i_c {d : D} (k : Q d A) : xC d E ρ A Q := k
theorem i_bin {r : R2A} (k : a E ρ A fun d A1 => b E ρ A1 fun e A2 => r d e A2 Q) : xBin r a b E ρ A Q := k
theorem i_test (k : a E ρ A fun d A1 => ∃ b, d = .bl b ∧ QT b A1) : xTest a E ρ A QT := k
theorem i_bl {b : Bool} {P : Bool → Prop} (k : P b) : ∃ b', D.bl b = .bl b' ∧ P b' := ⟨b, rfl, k⟩
theorem i_blv {d : D} {b : Bool} {P : Bool → Prop} (h : d = .bl b) (k : P b) : ∃ b', d = .bl b' ∧ P b' := ⟨b, h, k⟩
theorem i_nil (k : QL [] A) : xsNil E ρ A QL := k
theorem i_cons (k : a E ρ A fun d A1 => l E ρ A1 fun ds A2 => QL (d :: ds) A2) : xsCons a l E ρ A QL := k
theorem i_tup (k : l E ρ A fun ds A1 => ds.length ≤ sizeLine ∧ Q (.tup ds) A1) : xTup l E ρ A Q := k
theorem i_lst (k : l E ρ A fun ds A1 => ds.length ≤ sizeLine ∧ ∀ p, A1 p = none → Q (.ref p) (ua A1 p (.lst ds))) : xLst l E ρ A Q := k
theorem i_and (k : t E ρ A fun c A1 => two c (u E ρ A1 QT) (QT false A1)) : xAnd t u E ρ A QT := k
theorem i_or (k : t E ρ A fun c A1 => two c (QT true A1) (u E ρ A1 QT)) : xOr t u E ρ A QT := k
theorem i_not (k : t E ρ A fun c A1 => QT (!c) A1) : xNot t E ρ A QT := k
theorem i_andV (k : a E ρ A fun d A1 => ∃ c, d = .bl c ∧ two c (b E ρ A1 Q) (Q (.bl false) A1)) : xAndV a b E ρ A Q := k
theorem i_orV (k : a E ρ A fun d A1 => ∃ c, d = .bl c ∧ two c (Q (.bl true) A1) (b E ρ A1 Q)) : xOrV a b E ρ A Q := k
theorem i_notV (k : a E ρ A fun d A1 => ∃ c, d = .bl c ∧ Q (.bl (!c)) A1) : xNotV a E ρ A Q := k
theorem i_if (k : t E ρ A fun z A1 => two z (a E ρ A1 Q) (b E ρ A1 Q)) : xIf t a b E ρ A Q := k
theorem i_chain {r r' : R2A} (k : a E ρ A fun d A1 => b E ρ A1 fun e A2 => r d e A2 fun z A3 => ∃ k, z = .bl k ∧ two k (c E ρ A3 fun f A4 => r' e f A4 Q) (Q (.bl false) A3)) : xChain r r' a b c E ρ A Q := k
theorem i_cb {r : RCA} (k : l E ρ A fun ds A1 => r ds A1 Q) : xCB r l E ρ A Q := k
theorem i_tru (k : a E ρ A fun d A1 => truA d A1 QT) : xTru a E ρ A QT := k
theorem i_yes (k : QT true A) : xYes E ρ A QT := k
theorem i_call {sp : ASp} (k : l E ρ A fun ds A1 => sp ds A1 Q fun c pl A2 => E ρ c pl A2) : xCall sp l E ρ A Q := k
theorem i_lm {r : RMA} (k : a E ρ A fun x A1 => (∃ ds, LsA A1 x ds) ∧ l E ρ A1 fun ds A2 => r x ds A2 Q) : xLM r a l E ρ A Q := k
theorem i_sl {lo hi : TOA} (k : a E ρ A fun x A1 => lo E ρ A1 fun l A2 => hi E ρ A2 fun h A3 => slA x l h A3 Q) : xSl a lo hi E ρ A Q := k
theorem i_ono {QO : Option Int → AHp → Prop} (k : QO none A) : oNone E ρ A QO := k
theorem i_oso {QO : Option Int → AHp → Prop} (k : a E ρ A fun d A1 => ∃ i, d = .int i ∧ QO (some i) A1) : oSome a E ρ A QO := k
theorem i_ex_int {i : Int} {P : Int → Prop} (k : P i) : ∃ j, D.int i = .int j ∧ P j := ⟨i, rfl, k⟩
/-! statements -/
theorem i_snil (k : N.nx ρ A) : sNil E N ρ A := k
theorem i_seq (k : s E { N with nx := s' E N } ρ A) : sSeq s s' E N ρ A := k
theorem i_drop (k : a E ρ A fun _ A1 => N.nx ρ A1) : sDrop a E N ρ A := k
theorem i_ret (k : a E ρ A N.rt) : sRet a E N ρ A := k
theorem i_retN (k : N.rt .non A) : sRetN E N ρ A := k
theorem i_sif (k : t E ρ A fun b A1 => two b (s E N ρ A1) (s' E N ρ A1)) : sIf t s s' E N ρ A := k
theorem i_asg {g : TGA} (k : a E ρ A fun d A1 => g E d ρ A1 N.nx) : sAsg a g E N ρ A := k
theorem i_gname {i : Nat} {d : D} {QS : AEnv → AHp → Prop} (k : QS (ρ.set i (some d)) A) : gName i E d ρ A QS := k
theorem i_break (k : N.bk ρ A) : sBreak E N ρ A := k
theorem i_aug {i : Nat} {n : Int} (h : ρ[i]? = some (some (.int n))) (k : a E ρ A fun d A1 => ∃ m, d = .int m ∧ N.nx (ρ.set i (some (.int (n + m)))) A1) : sAug i a E N ρ A := ⟨n, h, k⟩
theorem i_gtup {n : Nat} {ds : List D} {u : EA → List D → AEnv → AHp → (AEnv → AHp → Prop) → Prop} {QS : AEnv → AHp → Prop} (h : ds.length = n) (k : u E ds ρ A QS) : gTup n u E (.tup ds) ρ A QS := ⟨ds, rfl, h, k⟩
theorem i_gscons {g : TGA} {d : D} {ds : List D} {u : EA → List D → AEnv → AHp → (AEnv → AHp → Prop) → Prop} {QS : AEnv → AHp → Prop} (k : g E d ρ A fun ρ1 A1 => u E ds ρ1 A1 QS) : gsCons g u E (d :: ds) ρ A QS := ⟨d, ds, rfl, k⟩
theorem i_gsub {d : D} {QS : AEnv → AHp → Prop} (k : a E ρ A fun x A1 => b E ρ A1 fun y A2 => gSubK x y d A2 (QS ρ)) : gSubL a b E d ρ A QS := k
theorem i_gsubK {p : Addr} {ds : List D} {i : Int} {j : Nat} {d : D} {QH : AHp → Prop} (h : A p = some (.lst ds)) (hj : ixN ds.length i = some j) (k : QH (ua A p (.lst (ds.set j d)))) : gSubK (.ref p) (.int i) d A QH := ⟨p, ds, i, j, rfl, rfl, h, hj, k⟩
theorem i_gsnil {QS : AEnv → AHp → Prop} (k : QS ρ A) : gsNil E [] ρ A QS := ⟨rfl, k⟩
theorem i_for {it : TIA} {g : TGA} (k : it E ρ A fun items still A1 => forW (g E) (s E) still N items ρ A1) : sFor it g s E N ρ A := k
theorem i_lc {i : Nat} {it : TIA} (k : it E ρ A fun items still A1 => lcW i t a ρ still items [] A1 fun acc A2 => ∀ p, A2 p = none → Q (.ref p) (ua A2 p (.lst acc))) : xLc i it t a E ρ A Q := k
variable {QI : List D → (AHp → Prop) → AHp → Prop}
theorem i_iT (k : a E ρ A fun x A1 => iTK x A1 QI) : iT a E ρ A QI := k
theorem i_iTK {x : D} {ds : List D} (h : x = .tup ds) (k : QI ds (fun _ => True) A) : iTK x A QI := ⟨ds, h, k⟩
theorem i_iL (k : a E ρ A fun x A1 => iLK x A1 QI) : iL a E ρ A QI := k
theorem i_iL_l {p : Addr} {ds : List D} (h : A p = some (.lst ds)) (k : QI ds (fun A2 => A2 p = some (.lst ds)) A) : iLK (.ref p) A QI := ⟨ds, .inl ⟨p, rfl, h, k⟩⟩
theorem i_iL_f {ds : List D} (k : QI ds (fun _ => True) A) : iLK (.fls ds) A QI := ⟨ds, .inr ⟨rfl, k⟩⟩
theorem i_iR1 (k : l E ρ A fun ds A1 => iR1K ds A1 QI) : iR1 l E ρ A QI := k
theorem i_iR1K {j : Int} (h1 : -(2 ^ 62) ≤ j) (h2 : j < 2 ^ 62) (k : QI (rngD 0 1 j.toNat) (fun _ => True) A) : iR1K [.int j] A QI := ⟨j, rfl, h1, h2, k⟩
theorem i_iR2 (k : l E ρ A fun ds A1 => iR2K ds A1 QI) : iR2 l E ρ A QI := k
theorem i_iR2K {i j : Int} (h : -(2 ^ 62) ≤ i ∧ i < 2 ^ 62 ∧ -(2 ^ 62) ≤ j ∧ j < 2 ^ 62) (k : QI (rngD i 1 (j - i).toNat) (fun _ => True) A) : iR2K [.int i, .int j] A QI := ⟨i, j, rfl, h, k⟩
theorem i_iR3 (k : l E ρ A fun ds A1 => iR3K ds A1 QI) : iR3 l E ρ A QI := k
theorem i_iR3K {i j s : Int} {n : Nat} (h : RgC i j s n) (k : QI (rngD i s n) (fun _ => True) A) : iR3K [.int i, .int j, .int s] A QI := ⟨i, j, s, n, rfl, h, k⟩
/-! by values -/
theorem i_int {C : Int → Int → Prop} {g : Int → Int → D} {i j : Int} (h : C i j) (k : Q (g i j) A) : intA C g (.int i) (.int j) A Q := ⟨i, j, rfl, rfl, h, k⟩
theorem i_add {i j : Int} (k : Q (.int (i + j)) A) : addA (.int i) (.int j) A Q := .inl ⟨i, j, rfl, rfl, trivial, k⟩
theorem i_sub {i j : Int} (k : Q (.int (i - j)) A) : subA (.int i) (.int j) A Q := ⟨i, j, rfl, rfl, trivial, k⟩
theorem i_mul {i j : Int} (h : MulOk i j) (k : Q (.int (i * j)) A) : mulA (.int i) (.int j) A Q := .inl ⟨i, j, rfl, rfl, h, k⟩
theorem i_div {i j : Int} (h : 0 < j) (h2 : j.natAbs.log2 < 9000) (k : Q (.int (i / j)) A) : divA (.int i) (.int j) A Q := ⟨i, j, rfl, rfl, ⟨h, h2⟩, k⟩
theorem i_mod {i j : Int} (h : 0 < j) (k : Q (.int (i % j)) A) : modA (.int i) (.int j) A Q := ⟨i, j, rfl, rfl, h, k⟩
theorem i_cmp {p : Int → Int → Bool} {i j : Int} (k : Q (.bl (p i j)) A) : cmpA p (.int i) (.int j) A Q := ⟨i, j, rfl, rfl, trivial, k⟩
theorem i_ixt {x : D} {ds : List D} {i : Int} {d : D} (hx : x = .tup ds) (h : atI ds i = some d) (k : Q d A) : ixB x (.int i) A Q := .inl ⟨ds, i, d, .inr hx, rfl, h, k⟩
theorem i_ixl {p : Addr} {ds : List D} {i : Int} {d : D} (hx : A p = some (.lst ds)) (h : atI ds i = some d) (k : Q d A) : ixB (.ref p) (.int i) A Q := .inl ⟨ds, i, d, .inl (.inl ⟨p, rfl, hx⟩), rfl, h, k⟩
theorem i_lenl {p : Addr} {ds : List D} (hx : A p = some (.lst ds)) (k : Q (.int ds.length) A) : lenA [.ref p] A Q := ⟨_, _, rfl, .inl ⟨ds, .inl (.inl ⟨p, rfl, hx⟩), rfl⟩, k⟩
theorem i_lent {x : D} {ds : List D} (hx : x = .tup ds) (k : Q (.int ds.length) A) : lenA [x] A Q := ⟨_, _, rfl, .inl ⟨ds, .inr hx, rfl⟩, k⟩
theorem i_tupl {p : Addr} {ds : List D} (hx : A p = some (.lst ds)) (k : Q (.tup ds) A) : tupA [.ref p] A Q := ⟨_, ds, rfl, .inl (.inl ⟨p, rfl, hx⟩), k⟩
theorem i_alll {p : Addr} {bs : List Bool} (hx : A p = some (.lst (bs.map D.bl))) (k : Q (.bl (bs.all id)) A) : allA [.ref p] A Q := ⟨_, bs, rfl, .inl ⟨p, rfl, hx⟩, k⟩
theorem i_int1 {g : Int → Int} {i : Int} (k : Q (.int (g i)) A) : int1A g [.int i] A Q := ⟨i, rfl, k⟩
theorem i_int2 {g : Int → Int → Int} {i j : Int} (k : Q (.int (g i j)) A) : int2A g [.int i, .int j] A Q := ⟨i, j, rfl, k⟩
theorem i_trub {b : Bool} (k : QT b A) : truA (.bl b) A QT := .inl ⟨b, rfl, k⟩
theorem i_trul {p : Addr} {ds : List D} (hx : A p = some (.lst ds)) (k : QT (!ds.isEmpty) A) : truA (.ref p) A QT := .inr ⟨ds, .inl ⟨p, rfl, hx⟩, k⟩
theorem i_app {p : Addr} {xs : List D} {y : D} (hx : A p = some (.lst xs)) (hz : xs.length < sizeLine) (k : Q .non (ua A p (.lst (xs ++ [y])))) : appA (.ref p) [y] A Q := ⟨p, xs, y, rfl, rfl, hx, hz, k⟩
theorem i_lsr {p : Addr} {xs : List D} {P : Prop} (hx : A p = some (.lst xs)) (k : P) : (∃ ds, LsA A (.ref p) ds) ∧ P := ⟨⟨xs, .inl ⟨p, rfl, hx⟩⟩, k⟩
theorem i_isb {f : Bool → Bool} {x y : Bool} (k : Q (.bl (f (decide (x = y)))) A) : isA f (.bl x) (.bl y) A Q := .inl ⟨x, y, rfl, rfl, k⟩
theorem i_eqi {f : Bool → Bool} {i j : Int} (k : Q (.bl (f (i == j))) A) : eqA f (.int i) (.int j) A Q := ⟨_, _, .int i, .int j, rfl, rfl, k⟩
theorem i_eqb {f : Bool → Bool} {x y : Bool} (k : Q (.bl (f (x == y))) A) : eqA f (.bl x) (.bl y) A Q := ⟨_, _, .bl x, .bl y, rfl, rfl, k⟩
theorem i_isi {x : D} {n : String} (hT : tyA A x ∈ ["NoneType", "bool", "int", "str", "tuple", "list", "dict"]) (hn : n ∈ ["bool", "int", "str", "tuple", "list"]) (k : Q (.bl (isB (tyA A x) n)) A) : isiA [x, .ty n] A Q := ⟨x, n, rfl, hT, hn, k⟩
theorem at_0 {d : D} {ds : List D} : atI (d :: ds) 0 = some d := atI_nat (j := 0) rfl
theorem at_1 {d e : D} {ds : List D} : atI (d :: e :: ds) 1 = some e := atI_nat (j := 1) rfl
theorem at_2 {d e f : D} {ds : List D} : atI (d :: e :: f :: ds) 2 = some f := atI_nat (j := 2) rfl
theorem ixN_nat {n j : Nat} (h : j < n) : ixN n (j : Int) = some j := by
  unfold ixN
  rw [if_pos (by omega), if_pos (by omega), Int.toNat_natCast]
theorem i_two {b : Bool} {P R : Prop} (h1 : b = true → P) (h2 : b = false → R) : two b P R := ⟨h1, h2⟩
theorem i_twoT {b : Bool} {P R : Prop} (h : b = true) (k : P) : two b P R := ⟨fun _ => k, fun z => by rw [h] at z; cases z⟩
theorem i_twoF {b : Bool} {P R : Prop} (h : b = false) (k : R) : two b P R := ⟨(fun z => by rw [h] at z; cases z), fun _ => k⟩
theorem i_f0 {g : D → AEnv → AHp → (AEnv → AHp → Prop) → Prop} {body : EndsA → AEnv → AHp → Prop} {still : AHp → Prop} (h : still A) (k : N.nx ρ A) : forW g body still N [] ρ A := ⟨h, k⟩
theorem i_f1 {g : D → AEnv → AHp → (AEnv → AHp → Prop) → Prop} {body : EndsA → AEnv → AHp → Prop} {still : AHp → Prop} {d : D} {ds : List D} (h : still A)
    (k : g d ρ A fun ρ1 A1 => body { N with nx := forW g body still N ds, ct := forW g body still N ds, bk := N.nx } ρ1 A1) : forW g body still N (d :: ds) ρ A := ⟨h, k⟩
theorem i_l0 {i : Nat} {still : AHp → Prop} {acc : List D} {QC : List D → AHp → Prop} (h : still A) (k : QC acc A) : lcW i t a ρ still [] acc A QC := ⟨h, k⟩
theorem i_l1 {i : Nat} {still : AHp → Prop} {acc ds : List D} {d : D} {QC : List D → AHp → Prop} (h : still A)
    (k : t E0A (ρ.set i (some d)) A fun b A3 => two b (a E0A (ρ.set i (some d)) A3 fun y A4 => acc.length < sizeLine ∧ lcW i t a ρ still ds (acc ++ [y]) A4 QC) (lcW i t a ρ still ds acc A3 QC)) : lcW i t a ρ still (d :: ds) acc A QC := ⟨h, k⟩
end
end Mu

namespace Mu
open PySem L2

/-! ## heaps that grow -/
def Ext (A A' : AHp) : Prop := ∀ a o, A a = some o → A' a = some o
theorem Ext.refl (A : AHp) : Ext A A := fun _ _ h => h
theorem Ext.trans {A A1 A2 : AHp} (h : Ext A A1) (k : Ext A1 A2) : Ext A A2 := fun a o e => k a o (h a o e)
theorem Ext.new {A : AHp} {p : Addr} {o : AO} (n : A p = none) : Ext A (ua A p o) := fun a u e => by
  have ne : a ≠ p := by intro z; rw [z, n] at e; cases e
  rw [ua_ne ne]; exact e
theorem Ext.more {A A' : AHp} {p : Addr} {o : AO} (h : Ext A A') (n : A' p = none) : Ext A (ua A' p o) := h.trans (Ext.new n)
theorem Ext.free {A A' : AHp} (h : Ext A A') {p : Addr} (n : A' p = none) : A p = none := by
  cases e : A p with
  | none => rfl
  | some o => rw [h p o e] at n; cases n
theorem ne_free {A : AHp} {a p : Addr} {o : AO} (h : A a = some o) (n : A p = none) : a ≠ p := by
  intro z; rw [z, n] at h; cases h
/-- all but r as it was -/
def ExtR (r : Addr) (A A' : AHp) : Prop := ∀ a o, a ≠ r → A a = some o → A' a = some o
theorem ExtR.refl (r : Addr) (A : AHp) : ExtR r A A := fun _ _ _ h => h
theorem ExtR.trans {r : Addr} {A A1 A2 : AHp} (h : ExtR r A A1) (k : ExtR r A1 A2) : ExtR r A A2 := fun a o n e => k a o n (h a o n e)
theorem Ext.r {r : Addr} {A A' : AHp} (h : Ext A A') : ExtR r A A' := fun a o _ e => h a o e
theorem ExtR.set {r : Addr} {A : AHp} {o : AO} : ExtR r A (ua A r o) := fun a u n e => by rw [ua_ne n]; exact e

/-! ## rules of loops -/
theorem for_rule {α : Type} {f : α → D} {g : D → AEnv → AHp → (AEnv → AHp → Prop) → Prop} {body : EndsA → AEnv → AHp → Prop} {still : AHp → Prop} {N : EndsA} (I : List α → AEnv → AHp → Prop) (xs : List α)
    (hs : ∀ pre ρ A, I pre ρ A → still A)
    (step : ∀ pre x post, xs = pre ++ x :: post → ∀ ρ A, I pre ρ A → ∀ NX : AEnv → AHp → Prop, (∀ ρ' A', I (pre ++ [x]) ρ' A' → NX ρ' A') → g (f x) ρ A fun ρ1 A1 => body { N with nx := NX, ct := NX, bk := N.nx } ρ1 A1)
    (fin : ∀ ρ A, I xs ρ A → N.nx ρ A) : ∀ {ρ A}, I [] ρ A → forW g body still N (xs.map f) ρ A := by
  have go : ∀ post pre, xs = pre ++ post → ∀ ρ A, I pre ρ A → forW g body still N (post.map f) ρ A := by
    intro post
    induction post with
    | nil =>
      intro pre e ρ A h
      have e' : xs = pre := by simpa using e
      subst e'
      exact ⟨hs _ _ _ h, fin ρ A h⟩
    | cons x post ih =>
      intro pre e ρ A h
      exact ⟨hs _ _ _ h, step pre x post e ρ A h _ fun ρ' A' h' => ih (pre ++ [x]) (by simpa using e) ρ' A' h'⟩
  intro ρ A h
  exact go xs [] rfl ρ A h
theorem lc_rule {α : Type} {i : Nat} {tt : TTA} {te : TEA} {ρ : AEnv} {still : AHp → Prop} {Q : List D → AHp → Prop} (f r : α → D) (p : α → Bool) (I : List α → AHp → Prop) (xs : List α) (hz : xs.length ≤ 16000000)
    (hs : ∀ pre A, I pre A → still A)
    (step : ∀ pre x post, xs = pre ++ x :: post → ∀ A, I pre A → ∀ (K1 : D → AHp → Prop) (K2 : AHp → Prop), (p x = true → ∀ A', I (pre ++ [x]) A' → K1 (r x) A') → (p x = false → ∀ A', I (pre ++ [x]) A' → K2 A') →
      tt E0A (ρ.set i (some (f x))) A fun b A3 => two b (te E0A (ρ.set i (some (f x))) A3 K1) (K2 A3))
    (fin : ∀ A, I xs A → Q ((xs.filter p).map r) A) : ∀ {A}, I [] A → lcW i tt te ρ still (xs.map f) [] A Q := by
  have go : ∀ post pre, xs = pre ++ post → ∀ A, I pre A → lcW i tt te ρ still (post.map f) ((pre.filter p).map r) A Q := by
    intro post
    induction post with
    | nil =>
      intro pre e A h
      have e' : xs = pre := by simpa using e
      subst e'
      exact ⟨hs _ _ h, fin A h⟩
    | cons x post ih =>
      intro pre e A h
      refine ⟨hs _ _ h, step pre x post e A h _ _ (fun hp A' h' => ⟨?_, ?_⟩) (fun hp A' h' => ?_)⟩
      · have h1 : ((pre.filter p).map r).length ≤ pre.length := by rw [List.length_map]; exact List.length_filter_le _ _
        have h2 : pre.length ≤ xs.length := by rw [e, List.length_append]; omega
        rw [sizeLine_eq]; omega
      · have := ih (pre ++ [x]) (by simpa using e) A' h'
        rw [List.filter_append, List.map_append] at this
        simpa [hp] using this
      · have := ih (pre ++ [x]) (by simpa using e) A' h'
        rw [List.filter_append, List.map_append] at this
        simpa [hp] using this
  intro A h
  exact go xs [] rfl A h
/-- no test -/
theorem lc_map {α : Type} {i : Nat} {te : TEA} {ρ : AEnv} {still : AHp → Prop} {Q : List D → AHp → Prop} (f r : α → D) (I : List α → AHp → Prop) (xs : List α) (hz : xs.length ≤ 16000000)
    (hs : ∀ pre A, I pre A → still A)
    (step : ∀ pre x post, xs = pre ++ x :: post → ∀ A, I pre A → ∀ K1 : D → AHp → Prop, (∀ A', I (pre ++ [x]) A' → K1 (r x) A') → te E0A (ρ.set i (some (f x))) A K1)
    (fin : ∀ A, I xs A → Q (xs.map r) A) : ∀ {A}, I [] A → lcW i xYes te ρ still (xs.map f) [] A Q := fun {A} h =>
  lc_rule f r (fun _ => true) I xs hz hs (fun pre x post e A h K1 K2 k1 _ => i_yes ⟨fun _ => step pre x post e A h K1 fun A' h' => k1 rfl A' h', fun z => by cases z⟩)
    (fun A h => by
      have e : xs.filter (fun _ => true) = xs := List.filter_eq_self.mpr fun _ _ => rfl
      rw [e]; exact fin A h) h

theorem lc_mapD {i : Nat} {te : TEA} {ρ : AEnv} {still : AHp → Prop} {Q : List D → AHp → Prop} (r : D → D) (I : List D → AHp → Prop) (xs : List D) (hz : xs.length ≤ 16000000)
    (hs : ∀ pre A, I pre A → still A)
    (step : ∀ pre x post, xs = pre ++ x :: post → ∀ A, I pre A → ∀ K1 : D → AHp → Prop, (∀ A', I (pre ++ [x]) A' → K1 (r x) A') → te E0A (ρ.set i (some x)) A K1)
    (fin : ∀ A, I xs A → Q (xs.map r) A) {A : AHp} (h : I [] A) : lcW i xYes te ρ still xs [] A Q := by
  have := lc_map (i := i) (te := te) (ρ := ρ) (still := still) (Q := Q) (id : D → D) r I xs hz hs step fin h
  rwa [List.map_id] at this

/-- a comprehension whose items are not functions of what is walked -/
theorem lc_rel {α : Type} {i : Nat} {tt : TTA} {te : TEA} {ρ : AEnv} {still : AHp → Prop} {Q : List D → AHp → Prop} (f : α → D) (I : List α → List D → AHp → Prop) (xs : List α) (hz : xs.length ≤ 16000000)
    (hs : ∀ pre acc A, I pre acc A → still A) (len : ∀ pre acc A, I pre acc A → acc.length ≤ pre.length)
    (step : ∀ pre x post, xs = pre ++ x :: post → ∀ acc A, I pre acc A → ∀ (K1 : D → AHp → Prop) (K2 : AHp → Prop), (∀ y A', I (pre ++ [x]) (acc ++ [y]) A' → K1 y A') → (∀ A', I (pre ++ [x]) acc A' → K2 A') →
      tt E0A (ρ.set i (some (f x))) A fun b A3 => two b (te E0A (ρ.set i (some (f x))) A3 K1) (K2 A3))
    (fin : ∀ acc A, I xs acc A → Q acc A) : ∀ {A}, I [] [] A → lcW i tt te ρ still (xs.map f) [] A Q := by
  have go : ∀ post pre, xs = pre ++ post → ∀ acc A, I pre acc A → lcW i tt te ρ still (post.map f) acc A Q := by
    intro post
    induction post with
    | nil =>
      intro pre e acc A h
      have e' : xs = pre := by simpa using e
      subst e'
      exact ⟨hs _ _ _ h, fin acc A h⟩
    | cons x post ih =>
      intro pre e acc A h
      refine ⟨hs _ _ _ h, step pre x post e acc A h _ _ (fun y A' h' => ⟨?_, ?_⟩) (fun A' h' => ?_)⟩
      · have h1 := len pre acc A h
        have h2 : pre.length ≤ xs.length := by rw [e, List.length_append]; omega
        rw [sizeLine_eq]; omega
      · exact ih (pre ++ [x]) (by simpa using e) (acc ++ [y]) A' h'
      · exact ih (pre ++ [x]) (by simpa using e) acc A' h'
  intro A h
  exact go xs [] rfl [] A h

/-! ## data that is compared -/
mutual
def py : D → PyData
  | .non => .none
  | .bl b => .bool b
  | .int i => .int i
  | .str x => .str x
  | .tup ds => .tuple (pys ds)
  | _ => .none
def pys : List D → List PyData
  | [] => []
  | d :: ds => py d :: pys ds
end
/-! None, numbers, texts, tuples of such; no truths -/
mutual
def pln : D → Bool
  | .non => true
  | .int _ => true
  | .str x => PyData.strOk x
  | .tup ds => plns ds
  | _ => false
def plns : List D → Bool
  | [] => true
  | d :: ds => pln d && plns ds
end
mutual
def dep : D → Nat
  | .tup ds => deps ds + 1
  | _ => 0
def deps : List D → Nat
  | [] => 0
  | d :: ds => max (dep d) (deps ds)
end
mutual
theorem pyD_of (A : AHp) : ∀ d : D, pln d = true → PyD A d (py d)
  | .non, _ => by simp only [py]; exact .non
  | .int i, _ => by simp only [py]; exact .int i
  | .str x, _ => by simp only [py]; exact .str x
  | .tup ds, h => by simp only [py]; simp only [pln] at h; exact .tup (pyDs_of A ds h)
  | .bl b, h => by simp [pln] at h
  | .ref b, h => by simp [pln] at h
  | .fls b, h => by simp [pln] at h
  | .ty b, h => by simp [pln] at h
theorem pyDs_of (A : AHp) : ∀ ds : List D, plns ds = true → PyDs A ds (pys ds)
  | [], _ => by simp only [pys]; exact .nil
  | d :: ds, h => by
    simp only [plns, Bool.and_eq_true] at h
    simp only [pys]
    exact .cons (pyD_of A d h.1) (pyDs_of A ds h.2)
end
mutual
theorem py_lay : ∀ d : D, pln d = true → (py d).canLay0 = true
  | .non, _ => by simp [py, PyData.canLay0]
  | .int i, _ => by simp [py, PyData.canLay0]
  | .str x, h => by simpa [py, PyData.canLay0, pln] using h
  | .tup ds, h => by simp only [py, PyData.canLay0]; simp only [pln] at h; exact pys_lay ds h
  | .bl b, h => by simp [pln] at h
  | .ref b, h => by simp [pln] at h
  | .fls b, h => by simp [pln] at h
  | .ty b, h => by simp [pln] at h
theorem pys_lay : ∀ ds : List D, plns ds = true → PyData.canLayAll0 (pys ds) = true
  | [], _ => by simp [pys, PyData.canLayAll0]
  | d :: ds, h => by
    simp only [plns, Bool.and_eq_true] at h
    simp [pys, PyData.canLayAll0, py_lay d h.1, pys_lay ds h.2]
end
mutual
theorem py_dep : ∀ d : D, (py d).depth = dep d
  | .non => by simp [py, PyData.depth, dep]
  | .int i => by simp [py, PyData.depth, dep]
  | .str x => by simp [py, PyData.depth, dep]
  | .tup ds => by simp only [py, PyData.depth, dep]; rw [pys_dep ds]
  | .bl b => by simp [py, PyData.depth, dep]
  | .ref b => by simp [py, PyData.depth, dep]
  | .fls b => by simp [py, PyData.depth, dep]
  | .ty b => by simp [py, PyData.depth, dep]
theorem pys_dep : ∀ ds : List D, PyData.depthAll (pys ds) = deps ds
  | [] => by simp [pys, PyData.depthAll, deps]
  | d :: ds => by simp only [pys, PyData.depthAll, deps]; rw [py_dep d, pys_dep ds]
end
theorem py_shaped {d : D} (h : pln d = true) (h2 : dep d ≤ 64) : SeqAt.shaped (py d) = true := by
  unfold SeqAt.shaped
  rw [py_lay d h, py_dep d]
  simpa using h2
mutual
theorem py_eqv : ∀ d e : D, pln d = true → pln e = true → (PyData.eqv (py d) (py e) = true ↔ d = e)
  | .non, .non, _, _ => by simp [py, PyData.eqv]
  | .non, .int i, _, _ => by simp [py, PyData.eqv]
  | .non, .str i, _, _ => by simp [py, PyData.eqv]
  | .non, .tup i, _, _ => by simp [py, PyData.eqv]
  | .int i, .non, _, _ => by simp [py, PyData.eqv]
  | .int i, .int j, _, _ => by simp [py, PyData.eqv]
  | .int i, .str j, _, _ => by simp [py, PyData.eqv]
  | .int i, .tup j, _, _ => by simp [py, PyData.eqv]
  | .str i, .non, _, _ => by simp [py, PyData.eqv]
  | .str i, .int j, _, _ => by simp [py, PyData.eqv]
  | .str i, .str j, _, _ => by simp [py, PyData.eqv]
  | .str i, .tup j, _, _ => by simp [py, PyData.eqv]
  | .tup i, .non, _, _ => by simp [py, PyData.eqv]
  | .tup i, .int j, _, _ => by simp [py, PyData.eqv]
  | .tup i, .str j, _, _ => by simp [py, PyData.eqv]
  | .tup i, .tup j, h, h' => by
    simp only [pln] at h h'
    simp only [py, PyData.eqv, D.tup.injEq]
    exact pys_eqv i j h h'
  | .bl b, _, h, _ => by simp [pln] at h
  | .ref b, _, h, _ => by simp [pln] at h
  | .fls b, _, h, _ => by simp [pln] at h
  | .ty b, _, h, _ => by simp [pln] at h
  | _, .bl b, _, h => by simp [pln] at h
  | _, .ref b, _, h => by simp [pln] at h
  | _, .fls b, _, h => by simp [pln] at h
  | _, .ty b, _, h => by simp [pln] at h
theorem pys_eqv : ∀ ds es : List D, plns ds = true → plns es = true → (PyData.eqvAll (pys ds) (pys es) = true ↔ ds = es)
  | [], [], _, _ => by simp [pys, PyData.eqvAll]
  | [], _ :: _, _, _ => by simp [pys, PyData.eqvAll]
  | _ :: _, [], _, _ => by simp [pys, PyData.eqvAll]
  | d :: ds, e :: es, h, h' => by
    simp only [plns, Bool.and_eq_true] at h h'
    simp only [pys, PyData.eqvAll, Bool.and_eq_true, List.cons.injEq]
    rw [py_eqv d e h.1 h'.1, pys_eqv ds es h.2 h'.2]
end
/-- fit to be compared -/
def Cmp (d : D) : Prop := pln d = true ∧ dep d ≤ 60
theorem i_eq {f : Bool → Bool} {x y : D} {A : AHp} {Q : AK} (hx : Cmp x) (hy : Cmp y) (k : ∀ b : Bool, (b = true ↔ x = y) → Q (.bl (f b)) A) : eqA f x y A Q :=
  ⟨_, _, pyD_of A x hx.1, pyD_of A y hy.1, py_shaped hx.1 (Nat.le_trans hx.2 (by decide)), py_shaped hy.1 (Nat.le_trans hy.2 (by decide)), k _ (py_eqv x y hx.1 hy.1)⟩
theorem deps_le {n : Nat} : ∀ {ds : List D}, (∀ d ∈ ds, dep d ≤ n) → deps ds ≤ n
  | [], _ => Nat.zero_le _
  | d :: ds, h => by
    simp only [deps]
    exact Nat.max_le.mpr ⟨h d List.mem_cons_self, deps_le fun e he => h e (List.mem_cons_of_mem _ he)⟩
theorem plns_of : ∀ {ds : List D}, (∀ d ∈ ds, pln d = true) → plns ds = true
  | [], _ => rfl
  | d :: ds, h => by
    simp only [plns, Bool.and_eq_true]
    exact ⟨h d List.mem_cons_self, plns_of fun e he => h e (List.mem_cons_of_mem _ he)⟩
theorem plns_mem : ∀ {ds : List D}, plns ds = true → ∀ d ∈ ds, pln d = true
  | d :: ds, h, e, he => by
    simp only [plns, Bool.and_eq_true] at h
    rcases List.mem_cons.mp he with rfl | he
    · exact h.1
    · exact plns_mem h.2 e he
theorem deps_mem : ∀ {ds : List D}, ∀ d ∈ ds, dep d ≤ deps ds
  | d :: ds, e, he => by
    simp only [deps]
    rcases List.mem_cons.mp he with rfl | he
    · exact Nat.le_max_left _ _
    · exact Nat.le_trans (deps_mem e he) (Nat.le_max_right _ _)
/-- lists of such that are compared -/
theorem i_eql {f : Bool → Bool} {a b : Addr} {xs ys : List D} {A : AHp} {Q : AK} (h1 : A a = some (.lst xs)) (h2 : A b = some (.lst ys)) (hx : Cmp (.tup xs)) (hy : Cmp (.tup ys)) (k : ∀ t : Bool, (t = true ↔ xs = ys) → Q (.bl (f t)) A) : eqA f (.ref a) (.ref b) A Q := by
  have sh : ∀ zs : List D, Cmp (.tup zs) → SeqAt.shaped (.list (pys zs)) = true := fun zs hz => by
    have h := py_shaped hz.1 (Nat.le_trans hz.2 (by decide))
    simp only [py, SeqAt.shaped, PyData.canLay0, PyData.depth] at h ⊢
    exact h
  refine ⟨.list (pys xs), .list (pys ys), .lst h1 (pyDs_of A xs (by simpa [Cmp, pln] using hx.1)), .lst h2 (pyDs_of A ys (by simpa [Cmp, pln] using hy.1)), sh _ hx, sh _ hy, ?_⟩
  exact k _ (by simp only [PyData.eqv]; exact pys_eqv xs ys (by simpa [Cmp, pln] using hx.1) (by simpa [Cmp, pln] using hy.1))
theorem any_eqv {x : D} (hx : pln x = true) : ∀ {ys : List D}, plns ys = true → ((pys ys).any (fun z => PyData.eqv z (py x)) = true ↔ x ∈ ys)
  | [], _ => by simp [pys]
  | y :: ys, h => by
    simp only [plns, Bool.and_eq_true] at h
    simp only [pys, List.any_cons, Bool.or_eq_true, List.mem_cons]
    rw [py_eqv y x h.1 hx, any_eqv hx h.2]
    exact ⟨fun z => z.imp Eq.symm id, fun z => z.imp Eq.symm id⟩
theorem i_in {f : Bool → Bool} {x y : D} {ys : List D} {A : AHp} {Q : AK} (hl : LsA A y ys ∨ y = .tup ys) (hx : Cmp x) (hy : plns ys = true) (k : ∀ b : Bool, (b = true ↔ x ∈ ys) → Q (.bl (f b)) A) : inA f x y A Q :=
  ⟨ys, _, _, hl, pyD_of A x hx.1, pyDs_of A ys hy, py_shaped hx.1 (Nat.le_trans hx.2 (by decide)), pys_lay ys hy, k _ (any_eqv hx.1 hy)⟩
theorem cmp_int (i : Int) : Cmp (.int i) := ⟨by simp [pln], by simp [dep]⟩
theorem cmp_non : Cmp .non := ⟨by simp [pln], by simp [dep]⟩
theorem tI_plns (ns : List Int) : plns (ns.map D.int) = true := plns_of fun d h => by
  obtain ⟨i, _, rfl⟩ := List.mem_map.mp h
  simp [pln]
theorem tI_deps (ns : List Int) : deps (ns.map D.int) = 0 := Nat.le_zero.mp (deps_le fun d h => by
  obtain ⟨i, _, rfl⟩ := List.mem_map.mp h
  simp [dep])
theorem tI_pln (ns : List Int) : pln (tI ns) = true := by unfold tI; simp only [pln]; exact tI_plns ns
theorem tI_dep (ns : List Int) : dep (tI ns) = 1 := by unfold tI; simp only [dep]; rw [tI_deps]
theorem cmp_tI (ns : List Int) : Cmp (tI ns) := ⟨tI_pln ns, by rw [tI_dep]; decide⟩
theorem int_map_inj {ns ms : List Int} (h : ns.map D.int = ms.map D.int) : ns = ms := by
  have := congrArg (List.map fun d => match d with | .int i => i | _ => 0) h
  simpa [List.map_map, Function.comp_def] using this
theorem tI_inj {ns ms : List Int} (h : tI ns = tI ms) : ns = ms := int_map_inj (D.tup.inj h)
theorem tIs_inj : ∀ {xs ys : List (List Int)}, xs.map tI = ys.map tI → xs = ys
  | [], [], _ => rfl
  | [], _ :: _, h => by simp at h
  | _ :: _, [], h => by simp at h
  | x :: xs, y :: ys, h => by
    simp only [List.map_cons, List.cons.injEq] at h
    rw [tI_inj h.1, tIs_inj h.2]
theorem tIs_plns (xs : List (List Int)) : plns (xs.map tI) = true := plns_of fun d h => by
  obtain ⟨ns, _, rfl⟩ := List.mem_map.mp h
  exact tI_pln ns
theorem tIs_deps (xs : List (List Int)) : deps (xs.map tI) ≤ 1 := deps_le fun d h => by
  obtain ⟨ns, _, rfl⟩ := List.mem_map.mp h
  rw [tI_dep]; exact Nat.le_refl _
theorem tI_mem {x : List Int} {xs : List (List Int)} : tI x ∈ xs.map tI ↔ x ∈ xs :=
  ⟨fun h => by obtain ⟨y, hy, e⟩ := List.mem_map.mp h; rw [← tI_inj e]; exact hy, fun h => List.mem_map_of_mem h⟩
end Mu

namespace Mu
open PySem PySem.Spec PyProof.Rows L2

/-! ## methods and new objects, what is raised wished for at the caller's slots -/
section
variable {X : Cx} {CX : CXT} {k : Nat} {f C : Addr} {fd : FuncData} {ps : List Str} {sp : Sp} {E : L2.St → XK} {x m : Str} {p pos apos : Pos} {e o : Expr} {es : List Expr} {ta : TE} {t : TA}
def tMethM (C : Addr) (m : Str) (sp : Sp) (E : L2.St → XK) (ta : TE) (t : TA) : TE := fun σ H Q => ta σ H fun x H1 => ∃ a dx fs, x = .ref a ∧ H1 a = some (.ins C dx fs) ∧ fs.lookup m = none ∧ t σ H1 fun vs H2 => sp (.ref a :: vs) H2 Q (E σ)
theorem run_fnM {pins : List (Addr × Obj)} {σ : L2.St} {H : Hp} {s : Shared} {Q : VK} {us : List Value} {vs : List V} (F : FnOk X.prog X.w X.K X.mg X.base CX k f fd ps sp) (hr : Room k X.A) (hb : Binds X.K fd ps []) (hx : PassesAt CX X σ (E σ))
    (I : Inv X pins σ H s) (r : Vals vs us) (h : sp vs H Q (E σ)) : wpAny (model X.prog X.w) X.A (call (.ref f) us) (EP X pins σ Q) X.xe s :=
  run_fnSD F hr hb .nil hx I r (by rw [List.append_nil]; exact h)
theorem pe_methM {pl : Sem Bool} (he : PE X o ta) (c : Cls X.K C) (hm : Meth X.K C m f) (F : FnOk X.prog X.w X.K X.mg X.base CX k f fd ps sp) (hr : Room k X.A) (hb : Binds X.K fd ps []) (hx : ∀ σ, PassesAt CX X σ (E σ)) (ha : PA X (e :: es) t)
    (hst : starEach (e :: es) X.env = (false, eval e X.env) :: starEach es X.env := by rfl) (hpl : (backTo pos (starEach es X.env)).any (·.1) = false := by rfl)
    (ht : eval (.Call (.Attribute o m apos) (e :: es) [] pos) X.env = (do
      let ov ← eval o X.env
      standAt apos.atName
      let (f, first) ← holding [ov] (getMethod ov m pl)
      callWith pos f first (backTo pos (starEach (e :: es) X.env)) (backToKw pos (keywordEach [] X.env))) := by rfl) :
    PE X (.Call (.Attribute o m apos) (e :: es) [] pos) (tMethM C m sp E ta t) := by
  refine ⟨fun pins s σ H Q I h => ?_⟩
  refine PySem.W.methodCall_KW (pl := pl) (thn (he.run pins s σ H _ I h) fun u s1 ⟨x, H1, I1, rx, a, dx, fs, ex, ea, l, q⟩ => ?_) ht
  subst ex
  obtain rfl : u = Value.ref a := rx
  refine getmeth_ok I1 ea c hm l ?_
  refine PySem.W.callWith_K (first := [.ref a]) (h₀ := X.base) I.ok.mod.kin hm.kp (thn (ha.run pos pins s1 σ H1 _ I1 q) fun us s2 ⟨vs, H2, I2, r, q2⟩ => ⟨I2.kIn, ?_⟩) hst hpl
  exact run_fnM (us := .ref a :: us) (vs := .ref a :: vs) F hr hb (hx σ) I2 (.cons rfl r) q2
theorem pe_methM0 {pl : Sem Bool} (he : PE X o ta) (c : Cls X.K C) (hm : Meth X.K C m f) (F : FnOk X.prog X.w X.K X.mg X.base CX k f fd ps sp) (hr : Room k X.A) (hb : Binds X.K fd ps []) (hx : ∀ σ, PassesAt CX X σ (E σ))
    (ht : eval (.Call (.Attribute o m apos) [] [] pos) X.env = (do
      let ov ← eval o X.env
      standAt apos.atName
      let (f, first) ← holding [ov] (getMethod ov m pl)
      callWith pos f first (backTo pos (starEach [] X.env)) (backToKw pos (keywordEach [] X.env))) := by rfl) :
    PE X (.Call (.Attribute o m apos) [] [] pos) (tMethM C m sp E ta tNil) := by
  refine ⟨fun pins s σ H Q I h => ?_⟩
  refine PySem.W.methodCall_KW (pl := pl) (thn (he.run pins s σ H _ I h) fun u s1 ⟨x, H1, I1, rx, a, dx, fs, ex, ea, l, q⟩ => ?_) ht
  subst ex
  obtain rfl : u = Value.ref a := rx
  refine getmeth_ok I1 ea c hm l ?_
  exact PySem.W.callWith_K0 (first := [.ref a]) I1.kIn hm.kp (run_fnM (us := [.ref a]) (vs := [.ref a]) F hr hb (hx σ) I1 (.cons rfl .nil) q)
theorem run_makeM {pins : List (Addr × Obj)} {σ : L2.St} {H : Hp} {s : Shared} {Q : VK} {us : List Value} {vs : List V} (M : Mk X.K C f) (F : FnOk X.prog X.w X.K X.mg X.base CX k f fd ps sp) (hr : Room (k + 1) X.A) (hb : Binds X.K fd ps [])
    (hx : PassesAt CX X σ (E σ)) (I : Inv X pins σ H s) (r : Vals vs us)
    (h : ∀ x dx, H x = none → H dx = none → dx ≠ x → sp (.ref x :: vs) (upd (upd H dx (.own x)) x (.ins C dx [])) (fun v H2 => v = .non ∧ Q (.ref x) H2) (E σ)) :
    wpAny (model X.prog X.w) X.A (call (.ref C) us) (EP X pins σ Q) X.xe s := by
  have hq := h (s.heap.objs.size + 1) s.heap.objs.size (I.hok.fresh (Nat.le_succ _)) (I.hok.fresh (Nat.le_refl _)) (Nat.ne_of_lt (Nat.lt_succ_self _))
  have I2 := Inv.made (C := C) I
  have r2 : Vals (V.ref (s.heap.objs.size + 1) :: vs) (Value.ref (s.heap.objs.size + 1) :: us) := .cons rfl r
  have hl : (Value.ref (s.heap.objs.size + 1) :: us).length = ps.length := by
    have e := r2.length
    rw [F.len _ _ _ _ hq] at e
    exact e.symm
  have hb' := hb _ (Value.ref (s.heap.objs.size + 1) :: us) I2.kIn (by rw [List.append_nil]; exact hl)
  rw [List.append_nil] at hb'
  refine wpAny_call (make_map (f := f) I.kIn M.makes M.init (beq_iff_eq.mp M.fn) (codeAny_mono (F.run _ X.stack _ _ ⟨Value.ref (s.heap.objs.size + 1) :: us, []⟩ (Value.ref (s.heap.objs.size + 1) :: us) _ _ (E σ) (hr.make C us [])
    (I2.env0.make C us []) hb' r2 hq) fun r s' hq' => ?_))
  cases r with
  | error e => exact hx pins _ _ e s' I2 hq'
  | ok fl =>
    cases fl with
    | ret u =>
      obtain ⟨v, H', I3, rv, ev, q3⟩ := I2.after hq'
      subst ev
      exact ⟨rv, ⟨V.ref (s.heap.objs.size + 1), H', I3, rfl, q3⟩⟩
    | next => exact False.elim hq'
    | brk => exact False.elim hq'
    | cont => exact False.elim hq'
def tMakeM (C : Addr) (sp : Sp) (E : L2.St → XK) (t : TA) : TE := fun σ H Q => t σ H fun vs H1 => ∀ x dx, H1 x = none → H1 dx = none → dx ≠ x → sp (.ref x :: vs) (upd (upd H1 dx (.own x)) x (.ins C dx [])) (fun v H2 => v = .non ∧ Q (.ref x) H2) (E σ)
theorem pe_makeM (M : Mk X.K C f) (F : FnOk X.prog X.w X.K X.mg X.base CX k f fd ps sp) (hr : Room (k + 1) X.A) (hg : Gl X x) (hm : X.mg x = some (.ref C)) (hb : Binds X.K fd ps []) (hx : ∀ σ, PassesAt CX X σ (E σ))
    (ha : PA X (e :: es) t) (hdb : (x == ("__debug__" : Str)) = false := by decide) (he : starEach (e :: es) X.env = (false, eval e X.env) :: starEach es X.env := by rfl) (hpl : (backTo pos (starEach es X.env)).any (·.1) = false := by rfl) :
    PE X (.Call (.Name x p) (e :: es) [] pos) (tMakeM C sp E t) := by
  refine ⟨fun pins s σ H Q I h => ?_⟩
  refine wpAny_Call_Name_kw (ld_glob I hg hm ?_ hdb)
  refine PySem.W.callWith_K (h₀ := X.base) I.ok.mod.kin M.kp (thn (ha.run pos pins s σ H _ I h) fun us s1 ⟨vs, H1, I1, r, q⟩ => ⟨I1.kIn, ?_⟩) he hpl
  exact run_makeM M F hr hb (hx σ) I1 r q
theorem pe_makeM0 (M : Mk X.K C f) (F : FnOk X.prog X.w X.K X.mg X.base CX k f fd ps sp) (hr : Room (k + 1) X.A) (hg : Gl X x) (hm : X.mg x = some (.ref C)) (hb : Binds X.K fd ps []) (hx : ∀ σ, PassesAt CX X σ (E σ))
    (hdb : (x == ("__debug__" : Str)) = false := by decide) : PE X (.Call (.Name x p) [] [] pos) (tMakeM C sp E tNil) := by
  refine ⟨fun pins s σ H Q I h => ?_⟩
  refine wpAny_Call_Name_kw (ld_glob I hg hm ?_ hdb)
  exact PySem.W.callWith_K0 I.kIn M.kp (run_makeM (us := []) M F hr hb (hx σ) I .nil h)
end

variable {B : Bs} {X : Cx} {pos : Pos}
/-! ## the words of objects -/
def putD (f : Str) (y : D) : List (Str × D) → List (Str × D)
  | [] => [(f, y)]
  | (g, x) :: r => if g = f then (g, y) :: r else (g, x) :: putD f y r
theorem Rfs.get {K : PySem.W.Frag} {H : Hp} {f : Str} {d : D} : ∀ {ws : List (Str × V)} {fs : List (Str × D)}, Rfs K H ws fs → fs.lookup f = some d → ∃ v, ws.lookup f = some v ∧ Rp K H v d
  | _, _, .nil, h => by cases h
  | (g, v) :: ws, (g', d') :: fs, .cons ⟨e, r⟩ t, h => by
    cases e
    simp only [List.lookup_cons] at h ⊢
    cases q : (f == g) with
    | true => rw [q] at h; cases h; exact ⟨v, rfl, r⟩
    | false => rw [q] at h; exact Rfs.get t h
theorem Rfs.not {K : PySem.W.Frag} {H : Hp} {f : Str} : ∀ {ws : List (Str × V)} {fs : List (Str × D)}, Rfs K H ws fs → fs.lookup f = none → ws.lookup f = none
  | _, _, .nil, h => rfl
  | (g, v) :: ws, (g', d') :: fs, .cons ⟨e, r⟩ t, h => by
    cases e
    simp only [List.lookup_cons] at h ⊢
    cases q : (f == g) with
    | true => rw [q] at h; cases h
    | false => rw [q] at h; exact Rfs.not t h
theorem Rfs.put {K : PySem.W.Frag} {H : Hp} {f : Str} {v : V} {d : D} (r : Rp K H v d) : ∀ {ws : List (Str × V)} {fs : List (Str × D)}, Rfs K H ws fs → Rfs K H (putF f v ws) (putD f d fs)
  | _, _, .nil => .cons ⟨rfl, r⟩ .nil
  | (g, w) :: ws, (g', d') :: fs, .cons ⟨e, rw'⟩ t => by
    cases e
    unfold putF putD
    by_cases q : g = f
    · rw [if_pos q, if_pos q]; exact .cons ⟨rfl, r⟩ t
    · rw [if_neg q, if_neg q]; exact .cons ⟨rfl, rw'⟩ (Rfs.put r t)
def xFld (c : String) (o : TEA) (f : Str) : TEA := fun E ρ A Q => o E ρ A fun x A1 => ∃ a fs d, x = .ref a ∧ A1 a = some (.ins c fs) ∧ fs.lookup f = some d ∧ Q d A1
theorem ae_fld {c : String} {C : Addr} {f : Str} {e : Expr} {t : TEA} (hc : B.κ c = C) (cl : Cls X.K C) (na : NoAttr X.K C f) (he : AE B X e t) (hb : attributeBase e f X.env (eval e X.env) = eval e X.env := by rfl) : AE B X (.Attribute e f pos) (xFld c t f) :=
  fun E hE => PE.wk (pe_fld (he E hE) hb) fun σ H Q ⟨ρ, A, QA, R, h, k⟩ => ⟨ρ, A, _, R, h, fun v d H1 A1 R1 S1 r1 ⟨a, fs, d', e1, e2, e3, q⟩ => by
    subst e1
    obtain ⟨dx, ws, h1, h2⟩ := R1.hr.hp a _ e2
    obtain ⟨w, h3, h4⟩ := Rfs.get h2 e3
    exact ⟨a, C, dx, ws, w, r1.ref_inv, hc ▸ h1, cl, na, h3, k _ _ _ _ R1 S1 h4 q⟩⟩
def sFld (c : String) (o tv : TEA) (f : Str) : TSA := fun E N ρ A => tv E ρ A fun y A1 => o E ρ A1 fun x A2 => ∃ a fs, x = .ref a ∧ A2 a = some (.ins c fs) ∧ fs.length < 1000 ∧ N.nx ρ (ua A2 a (.ins c (putD f y fs)))
theorem as_fld {c : String} {C : Addr} {f : Str} {o e : Expr} {to te : TEA} {p' : Pos} (hc : B.κ c = C) (cl : Cls X.K C) (na : NoAttr X.K C f) (ho : AE B X o to) (he : AE B X e te)
    (hs : swapsWith e (some (.Attribute o f p')) pos.line X.env = pure false := by rfl) : AS B X (.Assign [.Attribute o f p'] e pos) (sFld c to te f) :=
  fun E hE => PS.wk (ps_fld (ho E hE) (he E hE) hs) fun Dn σ H ⟨ρ, A, DA, R, h, k1, k2, k3, k4⟩ => ⟨ρ, A, _, R, h, fun y d H1 A1 R1 S1 r1 h1 => ⟨ρ, A1, _, R1, h1, fun x d2 H2 A2 R2' S2 r2 ⟨a, fs, e1, e2, hz, q⟩ => by
    subst e1
    have r1' := R1.hr.hp.rp S2 r1
    obtain ⟨dx, ws, h3, h4⟩ := R2'.hr.hp a _ e2
    refine ⟨a, C, dx, ws, r2.ref_inv, hc ▸ h3, cl, na, by rw [Paired.length h4]; exact hz, ?_⟩
    have st : Step H2 A2 (upd H2 a (.ins C dx (putF f y ws))) (ua A2 a (.ins c (putD f d fs))) := Step.set e2
    exact k1 _ _ _ _ (R2'.step st (R2'.hr.hp.set e2 ⟨dx, putF f y ws, by rw [upd_same, hc], Rfs.put (R2'.hr.hp.rp st r1') (R2'.hr.hp.rfs st h4)⟩)) ((S1.trans S2).trans st) q⟩⟩
def xMeth (c : String) (m : Str) (sp : ASp) (o : TEA) (a : TAA) : TEA := fun E ρ A Q => o E ρ A fun x A1 => ∃ p fs, x = .ref p ∧ A1 p = some (.ins c fs) ∧ fs.lookup m = none ∧ a E ρ A1 fun ds A2 => sp (.ref p :: ds) A2 Q fun c pl A3 => E ρ c pl A3
section
variable {k : Nat} {f C : Addr} {fd : FuncData} {ps : List Str} {sp : ASp} {x m : Str} {p apos : Pos} {o e : Expr} {es : List Expr} {to : TEA} {ta : TAA} {c : String}
theorem meth_wk {E : EA} {W : WX} (hc : B.κ c = C) (hW : ∀ (σ : L2.St) (H : Hp) (ρ : AEnv) (A : AHp) (c : String) (pl : D) (da : Addr) (v : V), Rel B X.K σ H ρ A → E ρ c pl A → H da = some (.xd [(fld c, v)]) → A da = none → Rp X.K H v pl → W (.ref (B.κ c)) (some da) σ H)
    {t : TA} (ht : ∀ σ H Q, aOf B X.K (ta E) σ H Q → t σ H Q) : ∀ σ H Q, eOf B X.K (xMeth c m sp to ta E) σ H Q → tMethM C m (aSp B.κ X.K sp) (WE W) (eOf B X.K (to E)) t σ H Q := by
  rintro σ H Q ⟨ρ, A, QA, R, h, k⟩
  refine ⟨ρ, A, _, R, h, fun v d H1 A1 R1 S1 r1 ⟨p, fs, e1, e2, e3, h1⟩ => ?_⟩
  subst e1
  obtain ⟨dx, ws, h3, h4⟩ := R1.hr.hp p _ e2
  refine ⟨p, dx, ws, r1.ref_inv, hc ▸ h3, Rfs.not h4 e3, ht _ _ _ ⟨ρ, A1, _, R1, h1, fun vs ds H2 A2 R2' S2 r2 h2 => ?_⟩⟩
  exact call_wk hW R2' (.cons (.ref p) r2) h2 fun v d H' A' R' s rp q => k v d H' A' R' ((S1.trans S2).trans s) rp q
theorem ae_meth {pl : Sem Bool} (hc : B.κ c = C) (cl : Cls X.K C) (hm : Meth X.K C m f) (F : FnOk X.prog X.w X.K X.mg X.base (L2.CX X.prog X.w) k f fd ps (aSp B.κ X.K sp)) (hr : Room k X.A) (hb : Binds X.K fd ps []) (ho : AE B X o to) (ha : AA B X (e :: es) ta)
    (hst : starEach (e :: es) X.env = (false, eval e X.env) :: starEach es X.env := by rfl) (hpl : (backTo pos (starEach es X.env)).any (·.1) = false := by rfl)
    (ht : eval (.Call (.Attribute o m apos) (e :: es) [] pos) X.env = (do
      let ov ← eval o X.env
      standAt apos.atName
      let (f, first) ← holding [ov] (getMethod ov m pl)
      callWith pos f first (backTo pos (starEach (e :: es) X.env)) (backToKw pos (keywordEach [] X.env))) := by rfl) :
    AE B X (.Call (.Attribute o m apos) (e :: es) [] pos) (xMeth c m sp to ta) := fun E hE => by
  obtain ⟨W, tk, hW⟩ := hE.ex
  exact PE.wk (pe_methM (ho E hE) cl hm F hr hb (fun σ => passAt tk σ) (ha E hE) hst hpl ht) (meth_wk hc hW fun _ _ _ h => h)
theorem ae_meth0 {pl : Sem Bool} (hc : B.κ c = C) (cl : Cls X.K C) (hm : Meth X.K C m f) (F : FnOk X.prog X.w X.K X.mg X.base (L2.CX X.prog X.w) k f fd ps (aSp B.κ X.K sp)) (hr : Room k X.A) (hb : Binds X.K fd ps []) (ho : AE B X o to)
    (ht : eval (.Call (.Attribute o m apos) [] [] pos) X.env = (do
      let ov ← eval o X.env
      standAt apos.atName
      let (f, first) ← holding [ov] (getMethod ov m pl)
      callWith pos f first (backTo pos (starEach [] X.env)) (backToKw pos (keywordEach [] X.env))) := by rfl) :
    AE B X (.Call (.Attribute o m apos) [] [] pos) (xMeth c m sp to xsNil) := fun E hE => by
  obtain ⟨W, tk, hW⟩ := hE.ex
  exact PE.wk (pe_methM0 (ho E hE) cl hm F hr hb (fun σ => passAt tk σ) ht) (meth_wk hc hW fun σ H Q ⟨ρ, A, QA, R, h, k⟩ => k [] [] H A R (Step.refl _ _) .nil h)
def xNew (c : String) (sp : ASp) (a : TAA) : TEA := fun E ρ A Q => a E ρ A fun ds A1 => ∀ p, A1 p = none → sp (.ref p :: ds) (ua A1 p (.ins c [])) (fun d A2 => d = .non ∧ Q (.ref p) A2) fun c pl A3 => E ρ c pl A3
theorem new_wk {E : EA} {W : WX} (hc : B.κ c = C) (hW : ∀ (σ : L2.St) (H : Hp) (ρ : AEnv) (A : AHp) (c : String) (pl : D) (da : Addr) (v : V), Rel B X.K σ H ρ A → E ρ c pl A → H da = some (.xd [(fld c, v)]) → A da = none → Rp X.K H v pl → W (.ref (B.κ c)) (some da) σ H)
    {t : TA} (ht : ∀ σ H Q, aOf B X.K (ta E) σ H Q → t σ H Q) : ∀ σ H Q, eOf B X.K (xNew c sp ta E) σ H Q → tMakeM C (aSp B.κ X.K sp) (WE W) t σ H Q := by
  rintro σ H Q ⟨ρ, A, QA, R, h, k⟩
  refine ht _ _ _ ⟨ρ, A, _, R, h, fun vs ds H1 A1 R1 S1 r1 h1 p dx np nd ne => ?_⟩
  have npA := R1.hr.hp.free np
  have np2 : (upd H1 dx (.own p)) p = none := by rw [upd_ne (Ne.symm ne)]; exact np
  have s1 : Step H1 A1 (upd H1 dx (.own p)) A1 := Step.more nd A1
  have hp1 := R1.hr.hp.more (u := .own p) nd
  have s2 : Step (upd H1 dx (.own p)) A1 (upd (upd H1 dx (.own p)) p (.ins C dx [])) (ua A1 p (.ins c [])) := Step.new np2 A1
  have hp2 : RH B.κ X.K (upd (upd H1 dx (.own p)) p (.ins C dx [])) (ua A1 p (.ins c [])) := hp1.new np2 ⟨dx, [], by rw [upd_same, hc], .nil⟩
  have s12 := s1.trans s2
  have R2' : Rel B X.K σ (upd (upd H1 dx (.own p)) p (.ins C dx [])) ρ (ua A1 p (.ins c [])) := R1.step s12 hp2
  refine call_wk hW R2' (.cons (.ref p) (R1.hr.hp.rps s12 r1)) (h1 p npA) fun v d H' A' R' s rp ⟨ed, q⟩ => ?_
  subst ed
  exact ⟨rp.non_inv, k _ _ H' A' R' ((S1.trans s12).trans s) (.ref p) q⟩
theorem ae_new (hc : B.κ c = C) (M : Mk X.K C f) (F : FnOk X.prog X.w X.K X.mg X.base (L2.CX X.prog X.w) k f fd ps (aSp B.κ X.K sp)) (hr : Room (k + 1) X.A) (hg : Gl X x) (hm : X.mg x = some (.ref C)) (hb : Binds X.K fd ps []) (ha : AA B X (e :: es) ta)
    (hdb : (x == ("__debug__" : Str)) = false := by decide) (he : starEach (e :: es) X.env = (false, eval e X.env) :: starEach es X.env := by rfl) (hpl : (backTo pos (starEach es X.env)).any (·.1) = false := by rfl) :
    AE B X (.Call (.Name x p) (e :: es) [] pos) (xNew c sp ta) := fun E hE => by
  obtain ⟨W, tk, hW⟩ := hE.ex
  exact PE.wk (pe_makeM M F hr hg hm hb (fun σ => passAt tk σ) (ha E hE) hdb he hpl) (new_wk hc hW fun _ _ _ h => h)
theorem ae_new0 (hc : B.κ c = C) (M : Mk X.K C f) (F : FnOk X.prog X.w X.K X.mg X.base (L2.CX X.prog X.w) k f fd ps (aSp B.κ X.K sp)) (hr : Room (k + 1) X.A) (hg : Gl X x) (hm : X.mg x = some (.ref C)) (hb : Binds X.K fd ps [])
    (hdb : (x == ("__debug__" : Str)) = false := by decide) :
    AE B X (.Call (.Name x p) [] [] pos) (xNew c sp xsNil) := fun E hE => by
  obtain ⟨W, tk, hW⟩ := hE.ex
  exact PE.wk (pe_makeM0 M F hr hg hm hb (fun σ => passAt tk σ) hdb) (new_wk hc hW fun σ H Q ⟨ρ, A, QA, R, h, k⟩ => k [] [] H A R (Step.refl _ _) .nil h)
end
section
variable {E : EA} {ρ : AEnv} {A : AHp} {Q : AK} {N : EndsA} {o a b : TEA} {l : TAA} {sp : ASp} {c : String} {f m : Str}
theorem i_fld (k : o E ρ A fun x A1 => ∃ a fs d, x = .ref a ∧ A1 a = some (.ins c fs) ∧ fs.lookup f = some d ∧ Q d A1) : xFld c o f E ρ A Q := k
theorem i_fldK {p : Addr} {fs : List (Str × D)} {d : D} {P : D → Prop} (h : A p = some (.ins c fs)) (h2 : fs.lookup f = some d) (k : P d) : ∃ a fs d, D.ref p = .ref a ∧ A a = some (.ins c fs) ∧ fs.lookup f = some d ∧ P d := ⟨p, fs, d, rfl, h, h2, k⟩
theorem i_sfld (k : a E ρ A fun y A1 => o E ρ A1 fun x A2 => ∃ a fs, x = .ref a ∧ A2 a = some (.ins c fs) ∧ fs.length < 1000 ∧ N.nx ρ (ua A2 a (.ins c (putD f y fs)))) : sFld c o a f E N ρ A := k
theorem i_sfldK {p : Addr} {fs fs' : List (Str × D)} {y : D} {P : AHp → Prop} (h : A p = some (.ins c fs)) (h2 : fs.length < 1000) (e : putD f y fs = fs') (k : P (ua A p (.ins c fs'))) : ∃ a fs, D.ref p = .ref a ∧ A a = some (.ins c fs) ∧ fs.length < 1000 ∧ P (ua A a (.ins c (putD f y fs))) := ⟨p, fs, rfl, h, h2, by rw [e]; exact k⟩
theorem i_meth (k : o E ρ A fun x A1 => ∃ p fs, x = .ref p ∧ A1 p = some (.ins c fs) ∧ fs.lookup m = none ∧ l E ρ A1 fun ds A2 => sp (.ref p :: ds) A2 Q fun c pl A3 => E ρ c pl A3) : xMeth c m sp o l E ρ A Q := k
theorem i_methK {p : Addr} {fs : List (Str × D)} {P : Addr → Prop} (h : A p = some (.ins c fs)) (h2 : fs.lookup m = none) (k : P p) : ∃ q fs, D.ref p = .ref q ∧ A q = some (.ins c fs) ∧ fs.lookup m = none ∧ P q := ⟨p, fs, rfl, h, h2, k⟩
theorem i_new (k : l E ρ A fun ds A1 => ∀ p, A1 p = none → sp (.ref p :: ds) (ua A1 p (.ins c [])) (fun d A2 => d = .non ∧ Q (.ref p) A2) fun c pl A3 => E ρ c pl A3) : xNew c sp l E ρ A Q := k
end
/-! ## - i, xs[::-1] -/
def xNeg (a : TEA) : TEA := fun E ρ A Q => a E ρ A fun d A1 => ∃ i, d = .int i ∧ Q (.int (-i)) A1
theorem ae_neg {e : Expr} {t : TEA} (h : AE B X e t) : AE B X (.UnaryOp .USub e pos) (xNeg t) := fun E hE => PE.wk (pe_un un_neg (h E hE)) fun σ H Q ⟨ρ, A, QA, R, h, k⟩ =>
  ⟨ρ, A, _, R, h, fun v d H1 A1 R1 S1 r1 ⟨i, e, q⟩ => by subst e; exact ⟨i, r1.int_inv, k _ _ H1 A1 R1 S1 (.int _) q⟩⟩
def xRev (a : TEA) : TEA := fun E ρ A Q => a E ρ A fun x A1 => ∃ ds, LsA A1 x ds ∧ ∀ p, A1 p = none → Q (.ref p) (ua A1 p (.lst ds.reverse))
theorem ae_rev {e : Expr} {t : TEA} {k : Nat} {p1 p2 p3 : Pos} (h : AE B X e t) : AE B X (.Subscript e (.Slice none none (some (.UnaryOp .USub (.Constant (.int 1) k p1) p2)) p3) pos) (xRev t) := fun E hE => PE.wk (pe_revL (h E hE)) fun σ H Q ⟨ρ, A, QA, R, h, k⟩ =>
  ⟨ρ, A, _, R, h, fun v d H1 A1 R1 S1 r1 ⟨ds, hl, q⟩ => by
    obtain ⟨a, xs, rfl, hs, hp⟩ := hl.sq R1.hr.hp r1
    exact ⟨a, xs, rfl, hs, new_lst R1.hr hp.rev q fun v d' H' A' hr s rp q => k v d' H' A' (R1.of s hr) (S1.trans s) rp q⟩⟩
theorem wh_rule {c : TTA} {b : TSA} {E : EA} {N : EndsA} (I : Nat → AEnv → AHp → Prop)
    (step : ∀ m ρ A, I m ρ A → ∀ NX : AEnv → AHp → Prop, (∀ m' ρ' A', m' < m → I m' ρ' A' → NX ρ' A') → c E ρ A fun t A1 => two t (b E { N with nx := NX, ct := NX, bk := N.nx } ρ A1) (N.nx ρ A1)) {m : Nat} {ρ : AEnv} {A : AHp} (h : I m ρ A) : sWhile c b E N ρ A := by
  have go : ∀ n m, m < n → ∀ ρ A, I m ρ A → whN c b E N n ρ A := by
    intro n
    induction n with
    | zero => intro m hm; omega
    | succ n ih => exact fun m hm ρ A h => step m ρ A h _ fun m' ρ' A' lt h' => ih m' (by omega) ρ' A' h'
  exact ⟨m + 1, go _ m (Nat.lt_succ_self _) ρ A h⟩
theorem i_cut {E : EA} {ρ : AEnv} {A : AHp} {N : EndsA} {s s' : TSA} (I : AEnv → AHp → Prop) (h1 : ∀ NX : AEnv → AHp → Prop, (∀ ρ A, I ρ A → NX ρ A) → s E { N with nx := NX } ρ A) (h2 : ∀ ρ A, I ρ A → s' E N ρ A) : sSeq s s' E N ρ A := h1 _ h2
theorem i_neg {E : EA} {ρ : AEnv} {A : AHp} {Q : AK} {a : TEA} (k : a E ρ A fun d A1 => ∃ i, d = .int i ∧ Q (.int (-i)) A1) : xNeg a E ρ A Q := k
theorem i_mulL {p : Addr} {n : Int} {xs : List D} {A : AHp} {Q : AK} (h : A p = some (.lst xs)) (h1 : 0 ≤ n) (h2 : n < 2 ^ 40) (h3 : xs.length * n.toNat ≤ sizeLine) (k : ∀ q, A q = none → Q (.ref q) (ua A q (.lst (List.replicate n.toNat xs).flatten))) : mulA (.ref p) (.int n) A Q :=
  .inr ⟨p, n, xs, rfl, rfl, h, by omega, by omega, h3, k⟩
theorem mulW {i j : Int} (hi : i.natAbs < 2 ^ 240) (hj : j.natAbs < 2 ^ 240) : MulOk i j := .inr (by
  unfold CMulW
  have f : ∀ n : Nat, n < 2 ^ 240 → n.log2 < 240 := fun n h => by
    by_cases z : n = 0
    · subst z; decide
    · exact (Nat.log2_lt z).mpr h
  have := f _ hi
  have := f _ hj
  omega)
theorem lt1000 {i : Int} (h0 : 0 ≤ i) (h : i < 2 ^ 200) : i.natAbs < 2 ^ 240 := by
  have h1 : i.natAbs < 2 ^ 200 := by
    have e : ((i.natAbs : Nat) : Int) = i := by omega
    have : ((i.natAbs : Nat) : Int) < ((2 ^ 200 : Nat) : Int) := by rw [e]; exact h
    exact Int.ofNat_lt.mp this
  exact Nat.lt_trans h1 (by decide)
end Mu

set_option maxHeartbeats 2000000
namespace Mu
open PySem PySem.Spec PyProof.Rows L2 NdefX

/-! ## super().__init__(text) in an own exception over ValueError -/
section
open PySem.W PySem.Calls
variable {prog : Program} {w : World} {A : Around} {E : Value → Shared → Prop} {h : Heap} {g : Array GenState} {d : Drawn} {t : Nat} {os : OsState}
variable {nm q : Str} {C N : Addr} {bs bm : List Value} {hdct : Bool} {sn : List Str} {sub : List Value} {ab : Bool} {col : Option Bool} {dd : Option Addr} {k0 k1 k2 k3 k5 : Option Value}
theorem call_bwV {u e t0 : Addr} {rest : List Value} {Q : Value → Shared → Prop}
    (hC : h.get? C = some (excClassObj nm q C N bs bm hdct sn sub ab col dd k0 k1 k2 k3 k5 "ValueError.__new__")) (he : h.get? e = some (HandSPX.excO C t0)) (hu : h.get? u = some (kxs_mw "ValueError.__init__" e)) (hrest : rest.length ≤ sizeLine)
    (hq : ∀ h' t1, (∀ b o, b ≠ e → h.get? b = some o → h'.get? b = some o) → h'.get? e = some (HandSPX.excO C t1) → Q .none ⟨h', g, d, t, os⟩) :
    wpAny (model prog w) A (call (.ref u) rest) Q E ⟨h, g, d, t, os⟩ := by
  refine wpAny_call (codeAny_of_tree ?_)
  show wpAny _ A.in1 (callAny (.ref u) ⟨rest, []⟩) _ _ _
  simp only [callAny]
  refine wpAny_bind (wpAny_load hu ?_)
  simp only [kxs_mw, show (Value.type "method-wrapper" == Value.type "method" || Value.type "method-wrapper" == Value.type "builtin_function_or_method" || Value.type "method-wrapper" == Value.type "method-wrapper") = true by decide, if_true]
  refine W.KFB.if_so (by decide) ?_
  refine wpAny_bind (ESX.check_bound F.excBase_ValueError hC he rfl ?_)
  refine wpAny_bind (wpAny_pure (wpAny_pure ?_))
  refine ⟨Code.quiet_builtin _ (by decide +kernel), codeAny_builtin F.excBase_ValueError.initEntry ?_⟩
  rw [Around.under_plainId F.excBase_ValueError.init.plain _]
  wp_walk
  refine hq _ h.objs.size (fun b o hb ho => ?_) ?_
  · rw [Heap.get?_update_other _ _ (Ne.symm hb)]
    exact Heap.get?_push_of_some _ ho
  · rw [Heap.get?_update_self _ (Heap.get?_push_of_some _ he) rfl]
    rfl
end
/-- what K says of an own exception whose __init__ says super().__init__(text); self.f = name -/
structure SupE (P : Program) (K : PySem.W.Frag) (C fI : Addr) (fd : FuncData) (st : Stmt) (name qual a0 a1 f : Str) : Prop where
  ox : OexC K C
  lk : ∃ cc c dV kV doc pm ct oc ccl cl an od cdd cld osl ccs csl vs file tf, fd = PySem.W.fnX name qual (C8.fnArgs st) (C8.fnBody st) (C8.fnScope st) [("__class__", cc)] dV kV doc pm an (.ref c) ct ∧
    K.lookup fI = some ⟨oc, od, .func fd, osl⟩ ∧ PySem.W.codeIn K (.ref c) qual = true ∧ K.lookup c = some ⟨ccl, cdd, .fields vs, ccs⟩ ∧ vs[2]? = some (.str file tf) ∧ ((P.main.file : Str) == file) = true ∧
    K.lookup cc = some ⟨cl, cld, .cell (some (.ref C)), csl⟩
  htop : (P.main.scope.names.lookup ("super" : Str)).isSome = false
  hany : PySem.W.nsIn K cStatics "thirdparty.any" = some none
  hsup : PySem.W.ks_superIn K C C "__init__" = some (some (.builtin "ValueError.__init__"))
  hVE : PySem.W.subIn K (.ref C) (.type "ValueError") = some true
  hmr : PySem.W.mroIn K C (.ref C) = some true
  hno : PySem.W.findIn K (.ref C) f = some none
  S : NScope [a0, a1, "__class__"] [a0, a1] ["__class__"] (C8.fnScope st)
  hks : (C8.fnScope st).names.lookup ("super" : Str) = some .globalImplicit
  hpar : ∃ ar, ((C8.fnArgs st).posonlyargs ++ (C8.fnArgs st).args).head? = some ar ∧ ar.arg = a0
  ha : ((a0 == ("__debug__" : Str)) = false ∧ (a0 == ("__classdict__" : Str)) = false) ∧ (a1 == ("__debug__" : Str)) = false ∧ (a1 == ("__classdict__" : Str)) = false
  hb : ∃ msg kc p0 p1 p2 p3 p4 p5 p6 p7 p8 p9, C8.fnBody st = [.Expr (.Call (.Attribute (.Call (.Name "super" p0) [] [] p1) "__init__" p2) [.Constant (.str msg) kc p9] [] p3) p4, .Assign [.Attribute (.Name a0 p5) f p6] (.Name a1 p7) p8] ∧
    ∀ env : Env, ∃ pl : Sem Bool, eval (.Call (.Attribute (.Call (.Name "super" p0) [] [] p1) "__init__" p2) [.Constant (.str msg) kc p9] [] p3) env = (do
      let ov ← attributeBase (.Call (.Name "super" p0) [] [] p1) "__init__" env (eval (.Call (.Name "super" p0) [] [] p1) env)
      standAt p2.atName
      let (f, first) ← holding [ov] (getMethod ov "__init__" pl)
      callWith p3 f first (backTo p3 (starEach [.Constant (.str msg) kc p9] env)) [])
def spSup (C : Addr) (f : Str) : Sp := fun vs H Q _ => ∃ (a : Addr) (y : V), vs = [.ref a, y] ∧ H a = some (exo a C none) ∧ ∀ dx, H dx = none → dx ≠ a → Q .non (upd (upd H dx (exd dx [(f, y)])) a (exo a C (some dx)))
theorem fn_sup {P : Program} {w : World} {K : PySem.W.Frag} {mg : Str → Option Value} {base : Heap} {C fI : Addr} {fd : FuncData} {st : Stmt} {name qual a0 a1 f : Str} (Z : SupE P K C fI fd st name qual a0 a1 f) (hsm : mg "super" = none) :
    FnOk P w K mg base (L2.CX P w) 1 fI fd [a0, a1] (spSup C f) := by
  obtain ⟨T, ⟨cc, c, dV, kV, doc, pm, ct, oc, ccl, cl, an, od, cdd, cld, osl, ccs, csl, cvs, file, tf, efd, lk, hcd, hcode, hvs, hfile, hcell⟩, htop, hany, hsup, hVE, hmr, hno, S, hks, ⟨ar, hpar, har⟩, ⟨⟨hd1, hd2⟩, hd3, hd4⟩, ⟨msg, kc, p0, p1, p2, p3, p4, p5, p6, p7, p8, p9, hb, hev⟩⟩ := Z
  refine ⟨fun vs H Q E ⟨a, y, e, _⟩ => by rw [e]; rfl, fun A outer s H args us vs Q E hr e0 hbt r hsp => ?_⟩
  obtain ⟨a, y, rfl, ea, hq⟩ := hsp
  obtain ⟨u0, u1, rfl, ra, ry⟩ : ∃ u0 u1, us = [u0, u1] ∧ RelV (.ref a) u0 ∧ RelV y u1 := by
    cases r with
    | @cons _ u0 _ ur ra rw1 =>
      cases rw1 with
      | @cons _ u1 _ _ ry rn => cases rn; exact ⟨u0, u1, rfl, ra, ry⟩
  obtain rfl : u0 = Value.ref a := ra
  let NFx : NF := ⟨name, qual, C8.fnArgs st, C8.fnBody st, C8.fnScope st, [("__class__", cc)], c⟩
  have KB : K.In base := e0.mod.kin
  have KX : K.In s.heap := e0.mod.kin.keeps fun b o e => (e0.bs b o e).1
  have lim : s.heap.NoLimit := e0.mod.nolimit.keeps fun b o e => (e0.bs b o e).1
  have C0 : CellsAt NFx.cl ["__class__"] [none] s.heap H := by
    refine ⟨rfl, fun z b e => ?_, fun x z b e1 e2 => ?_, fun i z e => ?_⟩
    · have : b = cc := by
        have e' : List.lookup z [(("__class__" : Str), cc)] = some b := e
        rw [List.lookup_cons] at e'
        split at e' <;> cases e'
        rfl
      subst this
      exact ⟨(e0.bs _ _ (KB _ _ hcell)).2, _, ⟨_, KX _ _ hcell, rfl⟩⟩
    · have f1 : ∀ z, List.lookup z [(("__class__" : Str), cc)] = some b → z = "__class__" := fun z e' => by
        rw [List.lookup_cons] at e'
        split at e'
        · rename_i q; exact eq_of_beq q
        · cases e'
      rw [f1 x e1, f1 z e2]
    · have hi : i = 0 := by
        cases i with
        | zero => rfl
        | succ i => simp at e
      subst hi
      have : z = "__class__" := by simpa using e.symm
      subst this
      exact ⟨cc, rfl, fun v z => by simp at z⟩
  subst efd
  refine ks_codeAny_call_defAt hr.depth (KX _ _ lk) rfl lim (PySem.W.codeRec_of KX hcd) rfl hbt S.nocell (fun ⟨n, _⟩ hy => S.par n (List.of_mem_zip hy).1) (fun h₁ hns kp => ?_) S.co S.gen S.kind
  have I : Inv (ncx (L2.CX P w) P w K mg base [a0, a1, "__class__"] NFx fI A outer s H E) [] (startF [a0, a1, "__class__"] [.ref a, y] [none]) H { s with heap := h₁, toks := s.toks + ([a0, a1].zip [Value.ref a, u1]).length } :=
    inv_startN (F := NFx) S hr.hd e0 rfl (.cons rfl (.cons ry .nil)) C0 hns kp
  have KX1 : K.In h₁ := KX.keeps kp
  obtain ⟨nm, q, N, bs, bm, sn, sub, ab, col, dd, k0, k1, k2, k3, k5, hC, hbm⟩ := T.cls
  have hcl : PySem.W.clsIn K C = some { name := nm, bases := bs, mro := .ref C :: bm, ns := N, qualname := q, hasDict := true, slotNames := sn, subclasses := sub, abstract := ab, collection := col, hasDel := false } := by unfold PySem.W.clsIn; rw [hC] <;> rfl
  have T0 := T
  let X := ncx (L2.CX P w) P w K mg base [a0, a1, "__class__"] NFx fI A outer s H E
  have I : Inv X [] (startF [a0, a1, "__class__"] [.ref a, y] [none]) H { s with heap := h₁, toks := s.toks + ([a0, a1].zip [Value.ref a, u1]).length } := I
  show _root_.PySem.wpAt (model P w) X.A (.func (C8.fnBody st) X.env) (execs (C8.fnBody st) X.env) _ _ _
  rw [hb]
  have hka : X.env.scope.names.lookup a0 = some .local := S.par a0 (by simp)
  have hkc : X.env.scope.names.lookup ("__class__" : Str) = some .free := S.frk "__class__" (by simp)
  obtain ⟨oD, hD1, hD2⟩ : ∃ oD : Obj, h₁.get? C = some oD ∧ oD.data = .cls { name := nm, bases := bs, mro := .ref C :: bm, ns := N, qualname := q, hasDict := true, slotNames := sn, subclasses := sub, abstract := ab, collection := col, hasDel := false } := ⟨_, KX1 _ _ hC, rfl⟩
  obtain ⟨t1, ho⟩ := exo_at I.hok ea
  have hns' : h₁.Ns X.env.locals fun z => ([a0, a1].zip [Value.ref a, u1]).reverse.lookup z := hns
  have ndP : [a0, a1].Nodup := by
    have q := S.nd.sublist (List.take_sublist 2 [a0, a1, "__class__"])
    simpa using q
  have hself : ([a0, a1].zip [Value.ref a, u1]).reverse.lookup a0 = some (.ref a) := zip_look (i := 0) ndP rfl rfl
  have hm : PySem.W.alongIn K "__init__" (((Value.ref C :: bm).dropWhile (· != .ref C)).drop 1) = some (some (.builtin "ValueError.__init__")) := by
    have z := hsup
    unfold PySem.W.ks_superIn at z
    rw [hcl] at z
    exact z
  have hmboot : bootBuiltins "super" = some (.type "super") := by first | rfl | decide +kernel
  obtain ⟨pl, he⟩ := hev X.env
  have hint : interactive X.env = false := by unfold interactive; rw [show X.env.scope.kind = .function from S.kind]; rfl
  refine PySem.ks_wpAt_execs_cons (PySem.ks_wpAt_Expr_any (PySem.ks_wpAt_MethodCall (pl := pl) (PySem.ks_wpAt_super_base (env := X.env) hks hkc rfl rfl (KX1 _ _ lk) rfl hpar rfl (KX1 _ _ hcode) rfl hvs hfile htop ?_) he) hint)
  obtain ⟨mb, hb1, hb2⟩ := I.mod.blt
  refine PySem.W.ks_loadName_global S.kind hks (PySem.Calls.loadGlobal_builtin (env := X.env) (I.mod.glob.keeps I.bk) hsm (hb1.keeps I.bk) ((hb2 "super" (by decide)).trans hmboot) ⟨rfl, ?_⟩)
  refine wpAny_loadName_free (env := X.env) S.kind hkc rfl ⟨_, KX1 _ _ hcell, rfl⟩ ?_
  rw [har]
  refine wpAny_loadName_local (env := X.env) S.kind hka hns' hself ?_
  refine ks_wpAny_isType_cls hD1 hD2 ⟨rfl, ?_⟩
  refine ks_wpAny_call_super hD1 hD2 ho rfl (fun c e => by cases e) (PySem.W.looks_mroIn KX1 hmr) (fun h2 hso k2 => ?_)
  have I2 := I.kept (t' := s.toks + ([a0, a1].zip [Value.ref a, u1]).length) k2
  have KX2 : K.In h2 := KX1.keeps k2
  have ho2 := k2 _ _ ho
  have IA : PySem.W.InstAt h2 a _ C none := ⟨ho2, rfl, rfl, trivial⟩
  have hne : a ≠ C := PySem.W.ks_ne KX2 IA hcl
  refine PySem.W.kxs_getMethod PySem.W.kxs_ValueError hso (PySem.W.looks_opaque KX2 hany) (l₀ := Value.ref C :: bm) (fun A Q E s k q => wpAny_bind ((PySem.W.looks_clsIn KX2 hcl) A _ E s k (wpAny_pure q))) rfl KX2 hm
    (IA.type.andThen (PySem.W.looks_subIn KX2 hVE)) hne (by decide) ?_
  have hu3 : (h2.push (PySem.W.kxs_mw "ValueError.__init__" a)).get? h2.objs.size = some (PySem.W.kxs_mw "ValueError.__init__" a) := Heap.get?_push_at rfl rfl
  have k3 : ∀ b o, h2.get? b = some o → (h2.push (PySem.W.kxs_mw "ValueError.__init__" a)).get? b = some o := fun b o e => Heap.get?_push_of_some _ e
  have I3 := I2.kept (t' := s.toks + ([a0, a1].zip [Value.ref a, u1]).length + 1) k3
  show wpAny _ _ (callWith p3 (.ref h2.objs.size) [] (backTo p3 (starEach [.Constant (.str msg) kc p9] X.env)) []) _ _ _
  refine PySem.W.kxs_callWith (i := "ValueError.__init__") (x := a) rfl (PySem.Calls.evalArgs_plain ?_)
  refine Calls.spliced_cons (Calls.Constant_str (pos := p9) (k := kc) (Calls.spliced_nil ⟨hu3, ?_⟩))
  have KX3 : K.In (h2.push (PySem.W.kxs_mw "ValueError.__init__" a)) := KX2.keeps k3
  refine call_bwV (KX3 _ _ hC) (k3 _ _ ho2) hu3 (by simp [sizeLine_eq]) fun h4 t4 k4 ho4 => ?_
  have I4 : Inv X [] (startF [a0, a1, "__class__"] [.ref a, y] [none]) H { s with heap := h4, toks := s.toks + ([a0, a1].zip [Value.ref a, u1]).length + 1 + 1 } := by
    have J := I3.write (t' := s.toks + ([a0, a1].zip [Value.ref a, u1]).length + 1 + 1) (x := a) (e := a) (o := exo a C none) (by rw [ea]; exact True.intro) (.inl rfl) k4 ⟨_, ho4⟩ (exo_ok ho4)
    have eu : upd H a (exo a C none) = H := by
      funext b
      by_cases hb : b = a
      · rw [hb, upd_same, ea]
      · rw [upd_ne hb]
    rw [eu] at J
    exact J
  refine PySem.ks_wpAt_execs_cons (wpAt_of_wpAny ?_)
  have hN : X.N.Nodup := S.nd
  have hN0 : X.N[0]? = some a0 := rfl
  have hN1 : X.N[1]? = some a1 := rfl
  have pv : PS X (.Assign [.Attribute (.Name a0 p5) f p6] (.Name a1 p7) p8) (tOst X.K f (tVar 0) (tVar 1)) := ps_ost (pe_var hN0 (.inl hka) hd1 hd2) (pe_var hN1 (.inl (S.par a1 (by simp))) hd3 hd4)
  refine wpAny_mono (pv.run [] _ _ H ⟨fun _ H' => Q .non H', fun _ _ => False, fun _ _ => False, fun _ _ => False⟩ I4 ⟨y, rfl, ⟨.ref a, rfl, a, C, rfl, T0, hno, .inl ⟨ea, fun dx n ne => hq dx n ne⟩⟩⟩) (fun fl s' hs => ?_) fun e s' hs => hs
  have fin : ∀ {σ' : L2.St} {H' : Hp} {v : V} {u : Value} {s' : Shared}, Inv X [] σ' H' s' → L2.RelV v u → Q v H' → CE outer P w H s Q u s' :=
    fun {σ' H' v u s'} J rv q => ⟨v, H', J.os, J.bare, J.base, J.hok, rv, q⟩
  cases fl with
  | ret u =>
    obtain ⟨v, σ', H', J, rv, q⟩ := hs
    exact q.elim
  | next =>
    obtain ⟨σ', H', J, q⟩ := hs
    exact wpAt_of_wpAny (wpAny_pure (fin (v := V.non) (u := Value.none) J rfl q))
  | brk =>
    obtain ⟨_, _, _, q⟩ := hs
    exact False.elim q
  | cont =>
    obtain ⟨_, _, _, q⟩ := hs
    exact False.elim q
end Mu

namespace Mu
open PySem PySem.Spec PyProof.Rows L2
variable {B : Bs} {X : Cx} {pos : Pos}
theorem PSs.ex {ι : Type} {st : List Stmt} {t : ι → TS} {P : ι → Prop} (h : ∀ i, P i → PSs X st (t i)) : PSs X st (fun D σ H => ∃ i, P i ∧ t i D σ H) := ⟨fun pins s σ H D I ⟨i, p, q⟩ => (h i p).run pins s σ H D I q⟩
/-! ## raise C(e) -/
def sRaise (c : String) (a : TAA) : TSA := fun E N ρ A => a E ρ A fun ds A1 => ∃ d, ds = [d] ∧ E ρ c d A1
theorem as_raise {c : String} {C fI : Addr} {fd : FuncData} {a0 a1 f x : Str} {p p2 : Pos} {e : Expr} {ta : TAA} (hc : B.κ c = C) (hf : fld c = f) (T : OexC X.K C) (iC : PySem.W.findIn X.K (.ref C) "__init__" = some (some (.ref fI))) (tI : PySem.W.typeIn X.K (.ref fI) = some (.type "function"))
    (F : FnOk X.prog X.w X.K X.mg X.base (L2.CX X.prog X.w) 1 fI fd [a0, a1] (spSup C f)) (hr : Room 2 X.A) (hcm : X.calm = true) (hg : Gl X x) (hm : X.mg x = some (.ref C)) (hb : Binds X.K fd [a0, a1] []) (ha : AA B X [e] ta)
    (hdb : (x == ("__debug__" : Str)) = false := by decide) (he : starEach [e] X.env = (false, eval e X.env) :: starEach [] X.env := by rfl) (hpl : (backTo p2 (starEach [] X.env)).any (·.1) = false := by rfl) :
    AS B X (.Raise (some (.Call (.Name x p) [e] [] p2)) none pos) (sRaise c ta) := fun E hE => by
  obtain ⟨W, tk, hW⟩ := hE.ex
  refine PS.wk (ps_raise hcm tk (pmk_oex T iC tI F hr hb .nil (fun pins σ H s e s' I c => passAt takes0 σ pins H s e s' I c) hg hm (ha E hE) hdb he hpl)) ?_
  rintro Dn σ H ⟨ρ, A, DA, R, h, k1, k2, k3, k4⟩
  refine ⟨ρ, A, _, R, h, fun vs ds H1 A1 R1 S1 r1 ⟨d, e, q⟩ => ?_⟩
  subst e
  obtain ⟨v, rfl, rv⟩ := r1.one
  refine ⟨by simp, fun a na => ⟨a, v, rfl, upd_same, fun dx nx ne => ?_⟩⟩
  have n1 : H1 dx = none := by rw [upd_ne ne] at nx; exact nx
  refine ⟨rfl, dx, [(f, v)], upd_same, by rw [upd_ne ne, upd_same], n1, ?_⟩
  have eH : upd (del (upd (upd (upd H1 a (exo a C none)) dx (exd dx [(f, v)])) a (exo a C (some dx))) a) dx (.xd [(f, v)]) = upd H1 dx (.xd [(f, v)]) := by
    funext b
    by_cases hb : b = dx
    · rw [hb, upd_same, upd_same]
    · rw [upd_ne hb, upd_ne hb]
      by_cases hba : b = a
      · rw [hba, del_same, na]
      · rw [del_ne hba, upd_ne hba, upd_ne hb, upd_ne hba]
  rw [eH, ← hc]
  have st : Step H1 A1 (upd H1 dx (.xd [(f, v)])) A1 := Step.more n1 A1
  exact hW σ _ ρ A1 c d dx v (R1.step st (R1.hr.hp.more n1)) q (by rw [hf]; exact upd_same) (R1.hr.hp.free n1) (R1.hr.hp.rp st rv)
/-! ## try: .. except C as n: .. -/
def LnkW (B : Bs) (K : PySem.W.Frag) (E : EA) (W : WX) : Prop := ∀ (σ : L2.St) (H : Hp) (ρ : AEnv) (A : AHp) (c : String) (pl : D) (da : Addr) (v : V), Rel B K σ H ρ A → E ρ c pl A → H da = some (.xd [(fld c, v)]) → A da = none → Rp K H v pl → W (.ref (B.κ c)) (some da) σ H
def sTryAs (i : Nat) (c : String) (tb : TSA) (ts : Addr → D → TSA) : TSA := fun _ N ρ A => tb (fun ρ1 c1 pl A1 => c1 = c ∧ ∀ a, A1 a = none → ts a pl E0A { nx := fun ρ' A' => N.nx (ρ'.set i none) A', rt := N.rt, bk := fun ρ' A' => N.bk (ρ'.set i none) A', ct := fun ρ' A' => N.ct (ρ'.set i none) A' } (ρ1.set i (some (.ref a))) A1) N ρ A
def sTryOnly (c : String) (tb ts : TSA) : TSA := fun _ N ρ A => tb (fun ρ1 c1 pl A1 => c1 = c ∧ ts E0A N ρ1 A1) N ρ A
theorem Rel.up {K : PySem.W.Frag} {κ : String → Addr} {H H' : Hp} {A A' : AHp} {σ' : L2.St} {ρ' : AEnv} (h : HR B K H A) (e : κ = B.κ) (r : Rel ⟨κ, H, A⟩ K σ' H' ρ' A') : Rel B K σ' H' ρ' A' := by
  subst e
  exact ⟨⟨r.hr.hp, h.st.trans r.hr.st⟩, r.en⟩
section
variable {c : String} {C : Addr} {i : Nat} {n x : Str} {body suite : List Stmt} {b₀ : Stmt} {np pos' : Pos} {tb : TSA} {ts : Addr → D → TSA}
theorem as_tryAs (hc : B.κ c = C) (hs : X.stack = X.env :: X.outer) (hf : X.env.frame = some X.env.locals) (hN : X.N.Nodup) (hi : X.N[i]? = some n) (hln : X.env.kindOf n = some .local) (hg : Gl X x) (hm : X.mg x = some (.ref C)) (hx : PySem.W.exmOne X.K (.ref C) (.ref C) = some true)
    (hb : ∀ B' : Bs, B'.κ = B.κ → ∀ (pn : List (Addr × Obj)) (xe : Value → Shared → Prop), PassesOwn (model X.prog X.w) X.A X.env xe → ASs B' (X.tr pn xe) body tb)
    (hsu : ∀ (B' : Bs) (a : Addr) (oe : Obj) (dd : Addr) (v : V) (pl : D) (pn : List (Addr × Obj)), B'.κ = B.κ → Zc (.ref C) (some dd) oe → (∃ vs, oe.data = .fields vs) → RH B'.κ X.K B'.H0 B'.A0 → B'.H0 dd = some (.xd [(fld c, v)]) → B'.A0 dd = none → Rp X.K B'.H0 v pl →
      ASs B' (X.suite a ((a, oe) :: pn)) (b₀ :: suite) (ts a pl)) (hdb : (x == ("__debug__" : Str)) = false := by decide) :
    AS B X (.Try body [.ExceptHandler (some (.Name x np)) (some n) (b₀ :: suite) pos'] [] [] pos) (sTryAs i c tb ts) := fun E hE => by
  let tsV : Addr → Value → Option Addr → TS := fun a cls d D σ H => ∃ q : Bs × Addr × V × Mu.D, (q.1.κ = B.κ ∧ cls = .ref C ∧ d = some q.2.1 ∧ RH q.1.κ X.K q.1.H0 q.1.A0 ∧ q.1.H0 q.2.1 = some (.xd [(fld c, q.2.2.1)]) ∧ q.1.A0 q.2.1 = none ∧ Rp X.K q.1.H0 q.2.2.1 q.2.2.2) ∧ sOf q.1 X.K (ts a q.2.2.2 E0A) D σ H
  let tbV : WX → TS := fun W D σ H => ∃ q : Bs × EA, (q.1.κ = B.κ ∧ LnkW q.1 X.K q.2 W) ∧ sOf q.1 X.K (tb q.2) D σ H
  refine PS.wk (ps_try_as (tb := tbV) (ts := tsV) (Wout := fun _ _ _ _ => False) hs hf hN hi hln ⟨hg, hdb, .inl hm⟩ takes0 (fun W pn xe tk hp => PSs.ex fun q ⟨e1, l⟩ => hb q.1 e1 pn xe hp q.2 ⟨W, tk, l⟩)
    (fun a oe cls d pn hz hd => PSs.ex fun ⟨B', dd, v, pl⟩ ⟨e1, e2, e3, e4, e5, e6, e7⟩ => by
      subst e2 e3
      exact hsu B' a oe dd v pl pn e1 hz hd e4 e5 e6 e7 E0A lnk0)) ?_
  rintro Dn σ H ⟨ρ, A, DA, R, h, k1, k2, k3, k4⟩
  refine ⟨(⟨B.κ, H, A⟩, _), ⟨rfl, ?_⟩, ρ, A, DA, ⟨⟨R.hr.hp, Step.refl _ _⟩, R.en⟩, h, fun σ' H' ρ' A' r s q => k1 σ' H' ρ' A' (Rel.up R.hr rfl r) s q, fun v d H' A' r s rp q => k2 v d H' A' ⟨r.hp, R.hr.st.trans s⟩ s rp q, fun σ' H' ρ' A' r s q => k3 σ' H' ρ' A' (Rel.up R.hr rfl r) s q, fun σ' H' ρ' A' r s q => k4 σ' H' ρ' A' (Rel.up R.hr rfl r) s q⟩
  rintro σ' H' ρ1 A1 c1 pl da v R1 ⟨e1, hts⟩ hxd nda rv
  subst e1
  refine ⟨true, by show PySem.W.exmOne X.K (.ref (B.κ c1)) _ = _; rw [hc]; exact hx, fun _ a na => ?_, fun z => by cases z⟩
  refine ⟨(⟨B.κ, H', A1⟩, da, v, pl), ⟨rfl, by show Value.ref (B.κ c1) = _; rw [hc], rfl, R1.hr.hp, hxd, nda, rv⟩, ρ1.set i (some (.ref a)), A1, _, ⟨⟨R1.hr.hp, Step.refl _ _⟩, R1.en.set (.ref a)⟩, hts a (R1.hr.hp.free na), ?_, ?_, ?_, ?_⟩
  · intro σ2 H2 ρ2 A2 r2 s2 q
    have r3 : Rel B X.K σ2 H2 ρ2 A2 := ⟨⟨r2.hr.hp, R.hr.st.trans (R1.hr.st.trans s2)⟩, r2.en⟩
    exact k1 _ H2 _ A2 ⟨r3.hr, r3.en.unset⟩ (R1.hr.st.trans s2) q
  · intro v d H2 A2 r2 s2 rp q
    exact k2 v d H2 A2 ⟨r2.hp, R.hr.st.trans (R1.hr.st.trans s2)⟩ (R1.hr.st.trans s2) rp q
  · intro σ2 H2 ρ2 A2 r2 s2 q
    have r3 : Rel B X.K σ2 H2 ρ2 A2 := ⟨⟨r2.hr.hp, R.hr.st.trans (R1.hr.st.trans s2)⟩, r2.en⟩
    exact k3 _ H2 _ A2 ⟨r3.hr, r3.en.unset⟩ (R1.hr.st.trans s2) q
  · intro σ2 H2 ρ2 A2 r2 s2 q
    have r3 : Rel B X.K σ2 H2 ρ2 A2 := ⟨⟨r2.hr.hp, R.hr.st.trans (R1.hr.st.trans s2)⟩, r2.en⟩
    exact k4 _ H2 _ A2 ⟨r3.hr, r3.en.unset⟩ (R1.hr.st.trans s2) q
theorem as_tryOnly {ts : TSA} (hc : B.κ c = C) (hs : X.stack = X.env :: X.outer) (hf : X.env.frame = some X.env.locals) (hg : Gl X x) (hm : X.mg x = some (.ref C)) (hx : PySem.W.exmOne X.K (.ref C) (.ref C) = some true)
    (hb : ∀ B' : Bs, B'.κ = B.κ → ∀ (pn : List (Addr × Obj)) (xe : Value → Shared → Prop), PassesOwn (model X.prog X.w) X.A X.env xe → ASs B' (X.tr pn xe) body tb)
    (hsu : ∀ (B' : Bs) (a : Addr) (oe : Obj) (pn : List (Addr × Obj)), B'.κ = B.κ → ASs B' (X.suite a ((a, oe) :: pn)) (b₀ :: suite) ts) (hdb : (x == ("__debug__" : Str)) = false := by decide) :
    AS B X (.Try body [.ExceptHandler (some (.Name x np)) none (b₀ :: suite) pos'] [] [] pos) (sTryOnly c tb ts) := fun E hE => by
  let tsV : Addr → Value → Option Addr → TS := fun a cls d D σ H => ∃ B' : Bs, B'.κ = B.κ ∧ sOf B' X.K (ts E0A) D σ H
  let tbV : WX → TS := fun W D σ H => ∃ q : Bs × EA, (q.1.κ = B.κ ∧ LnkW q.1 X.K q.2 W) ∧ sOf q.1 X.K (tb q.2) D σ H
  refine PS.wk (ps_try_only (tb := tbV) (ts := tsV) (Wout := fun _ _ _ _ => False) hs hf ⟨hg, hdb, .inl hm⟩ takes0 (fun W pn xe tk hp => PSs.ex fun q ⟨e1, l⟩ => hb q.1 e1 pn xe hp q.2 ⟨W, tk, l⟩)
    (fun a oe cls d pn hz hd => PSs.ex fun B' e1 => hsu B' a oe pn e1 E0A lnk0)) ?_
  rintro Dn σ H ⟨ρ, A, DA, R, h, k1, k2, k3, k4⟩
  refine ⟨(⟨B.κ, H, A⟩, _), ⟨rfl, ?_⟩, ρ, A, DA, ⟨⟨R.hr.hp, Step.refl _ _⟩, R.en⟩, h, fun σ' H' ρ' A' r s q => k1 σ' H' ρ' A' (Rel.up R.hr rfl r) s q, fun v d H' A' r s rp q => k2 v d H' A' ⟨r.hp, R.hr.st.trans s⟩ s rp q, fun σ' H' ρ' A' r s q => k3 σ' H' ρ' A' (Rel.up R.hr rfl r) s q, fun σ' H' ρ' A' r s q => k4 σ' H' ρ' A' (Rel.up R.hr rfl r) s q⟩
  rintro σ' H' ρ1 A1 c1 pl da v R1 ⟨e1, hts⟩ hxd nda rv
  subst e1
  refine ⟨true, by show PySem.W.exmOne X.K (.ref (B.κ c1)) _ = _; rw [hc]; exact hx, fun _ a na => ?_, fun z => by cases z⟩
  have up : ∀ {σ2 H2 ρ2 A2}, Rel ⟨B.κ, H', A1⟩ X.K σ2 H2 ρ2 A2 → Step H' A1 H2 A2 → Rel B X.K σ2 H2 ρ2 A2 := fun r2 s2 => ⟨⟨r2.hr.hp, R.hr.st.trans (R1.hr.st.trans s2)⟩, r2.en⟩
  exact ⟨⟨B.κ, H', A1⟩, rfl, ρ1, A1, DA, ⟨⟨R1.hr.hp, Step.refl _ _⟩, R1.en⟩, hts, fun σ2 H2 ρ2 A2 r2 s2 q => k1 _ H2 _ A2 (up r2 s2) (R1.hr.st.trans s2) q,
    fun v d H2 A2 r2 s2 rp q => k2 v d H2 A2 ⟨r2.hp, R.hr.st.trans (R1.hr.st.trans s2)⟩ (R1.hr.st.trans s2) rp q, fun σ2 H2 ρ2 A2 r2 s2 q => k3 _ H2 _ A2 (up r2 s2) (R1.hr.st.trans s2) q, fun σ2 H2 ρ2 A2 r2 s2 q => k4 _ H2 _ A2 (up r2 s2) (R1.hr.st.trans s2) q⟩
end
/-- e.f of the caught exception -/
def xErr (i : Nat) (a : Addr) (pl : D) : TEA := fun _ ρ A Q => ρ[i]? = some (some (.ref a)) ∧ Q pl A
theorem ae_err {C a dd : Addr} {oe : Obj} {v : V} {pl : D} {pn : List (Addr × Obj)} {i : Nat} {e : Expr} {f : Str} (T : XfC X.K C) (hno : PySem.W.findIn X.K (.ref C) f = some none) (hz : Zc (.ref C) (some dd) oe) (hd : ∃ vs, oe.data = .fields vs)
    (rh : RH B.κ X.K B.H0 B.A0) (h0 : B.H0 dd = some (.xd [(f, v)])) (hA0 : B.A0 dd = none) (rv : Rp X.K B.H0 v pl) (hv : PE (X.suite a ((a, oe) :: pn)) e (tVar i)) (hb : attributeBase e f X.env (eval e X.env) = eval e X.env := by rfl) :
    AE B (X.suite a ((a, oe) :: pn)) (.Attribute e f pos) (xErr i a pl) := fun E _ => PE.wk (pe_xf T hno hz hd hv hb) fun σ H Q ⟨ρ, A, QA, R, ⟨h1, q⟩, k⟩ => by
  obtain ⟨u, q1, q2⟩ := R.en.at_ i _ h1
  obtain ⟨x1, x2⟩ := R.hr.st dd _ h0 hA0
  exact ⟨u, q1, q2.ref_inv, rfl, dd, _, v, rfl, x1, by simp [List.lookup], k v pl H A R (Step.refl _ _) (rh.rp R.hr.st rv) q⟩

section
variable {E : EA} {ρ : AEnv} {A : AHp} {Q : AK} {N : EndsA} {a b : TEA} {l : TAA} {tb ts1 : TSA} {c : String} {i : Nat} {ts : Addr → D → TSA}
theorem i_raise (k : l E ρ A fun ds A1 => ∃ d, ds = [d] ∧ E ρ c d A1) : sRaise c l E N ρ A := k
theorem i_raiseK {d : D} {P : D → Prop} (k : P d) : ∃ d', [d] = [d'] ∧ P d' := ⟨d, rfl, k⟩
theorem i_tryAs (k : tb (fun ρ1 c1 pl A1 => c1 = c ∧ ∀ a, A1 a = none → ts a pl E0A { nx := fun ρ' A' => N.nx (ρ'.set i none) A', rt := N.rt, bk := fun ρ' A' => N.bk (ρ'.set i none) A', ct := fun ρ' A' => N.ct (ρ'.set i none) A' } (ρ1.set i (some (.ref a))) A1) N ρ A) : sTryAs i c tb ts E N ρ A := k
theorem i_tryOnly (k : tb (fun ρ1 c1 pl A1 => c1 = c ∧ ts1 E0A N ρ1 A1) N ρ A) : sTryOnly c tb ts1 E N ρ A := k
theorem i_err {p : Addr} {pl : D} (h : ρ[i]? = some (some (.ref p))) (k : Q pl A) : xErr i p pl E ρ A Q := ⟨h, k⟩
theorem i_addT {xs ys : List D} (h1 : xs ≠ []) (h2 : xs.length + ys.length ≤ sizeLine) (k : Q (.tup (xs ++ ys)) A) : addA (.tup xs) (.tup ys) A Q := .inr (.inr (.inr ⟨xs, ys, rfl, rfl, h1, h2, k⟩))
theorem i_addL {p q : Addr} {xs ys : List D} (h1 : A p = some (.lst xs)) (h3 : A q = some (.lst ys)) (h2 : xs.length + ys.length ≤ sizeLine) (k : ∀ r, A r = none → Q (.ref r) (ua A r (.lst (xs ++ ys)))) : addA (.ref p) (.ref q) A Q := .inr (.inr (.inl ⟨p, q, xs, ys, rfl, rfl, h1, h3, h2, k⟩))
theorem i_slT {xs : List D} {lo hi : Option Int} {ys : List D} (h : ¬ (HT.sIx xs.length 0 lo = 0 ∧ HT.sIx xs.length xs.length hi = xs.length)) (e : cutD xs lo hi = ys) (k : Q (.tup ys) A) : slA (.tup xs) lo hi A Q := .inr ⟨xs, rfl, h, by rw [e]; exact k⟩
theorem i_lstt {ds : List D} (k : ∀ p, A p = none → Q (.ref p) (ua A p (.lst ds))) : lstA [.tup ds] A Q := ⟨_, ds, rfl, .inr rfl, k⟩
end
theorem i_len {n : Nat} {P : Prop} (h : n ≤ 20) (k : P) : n ≤ sizeLine ∧ P := ⟨by rw [sizeLine_eq]; omega, k⟩
theorem cmp_str {x : Str} (h : PyData.strOk x = true) : Cmp (.str x) := ⟨by simp only [pln]; exact h, by simp only [dep]; decide⟩
end Mu

namespace Mu
open PySem PySem.Spec PyProof.Rows L2
variable {B : Bs} {X : Cx} {pos : Pos}
/-! ## dicts with plain keys -/
def kD : Key → D
  | .inl i => .int i
  | .inr x => .str x
theorem Rp.key {K : PySem.W.Frag} {H : Hp} {v : V} {k : Key} (r : Rp K H v (kD k)) : v = kV k := by
  cases k with
  | inl i => exact r.int_inv
  | inr x => exact r.str_inv
def valD (kvs : List (Key × D)) (k : Key) : Option D := (kvs.find? fun kv => decide (kv.1 = k)).map (·.2)
def putKD (kvs : List (Key × D)) (k : Key) (v : D) : List (Key × D) := if (kvs.any fun kv => decide (kv.1 = k)) = true then kvs.map (fun kv => if kv.1 = k then (kv.1, v) else kv) else kvs ++ [(k, v)]
section
variable {K : PySem.W.Frag} {H : Hp} {k : Key}
theorem Rfs.val : ∀ {ws : List (Key × V)} {kvs : List (Key × D)}, Rfs K H ws kvs → (∀ d, valD kvs k = some d → ∃ v, valV ws k = some v ∧ Rp K H v d) ∧ (valD kvs k = none → valV ws k = none)
  | _, _, .nil => ⟨fun d h => (by cases h), fun _ => rfl⟩
  | (g, v) :: ws, (g', d') :: kvs, .cons ⟨e, r⟩ t => by
    cases e
    by_cases q : g = k
    · refine ⟨fun d h => ⟨v, valV_pos q, ?_⟩, fun h => ?_⟩
      · have h' : some d' = some d := by rw [← h]; simp [valD, List.find?_cons, q]
        cases h'
        exact r
      · simp [valD, List.find?_cons, q] at h
    · have hd : valD ((g, d') :: kvs) k = valD kvs k := by simp [valD, List.find?_cons, q]
      rw [hd, valV_neg q]
      exact Rfs.val t
theorem Rfs.anyK : ∀ {ws : List (Key × V)} {kvs : List (Key × D)}, Rfs K H ws kvs → (ws.any fun kv => decide (kv.1 = k)) = (kvs.any fun kv => decide (kv.1 = k))
  | _, _, .nil => rfl
  | (g, v) :: ws, (g', d') :: kvs, .cons ⟨e, r⟩ t => by
    cases e
    simp only [List.any_cons]
    rw [Rfs.anyK t]
theorem Rfs.mapK {v : V} {d : D} (r : Rp K H v d) : ∀ {ws : List (Key × V)} {kvs : List (Key × D)}, Rfs K H ws kvs → Rfs K H (ws.map fun kv => if kv.1 = k then (kv.1, v) else kv) (kvs.map fun kv => if kv.1 = k then (kv.1, d) else kv)
  | _, _, .nil => .nil
  | (g, w) :: ws, (g', d') :: kvs, .cons ⟨e, rw'⟩ t => by
    cases e
    simp only [List.map_cons]
    refine .cons ?_ (Rfs.mapK r t)
    by_cases q : g = k
    · rw [if_pos q, if_pos q]; exact ⟨rfl, r⟩
    · rw [if_neg q, if_neg q]; exact ⟨rfl, rw'⟩
theorem Rfs.snoc {v : V} {d : D} (r : Rp K H v d) : ∀ {ws : List (Key × V)} {kvs : List (Key × D)}, Rfs K H ws kvs → Rfs K H (ws ++ [(k, v)]) (kvs ++ [(k, d)])
  | _, _, .nil => .cons ⟨rfl, r⟩ .nil
  | _, _, .cons e t => .cons e (Rfs.snoc r t)
theorem Rfs.putK {v : V} {d : D} {ws : List (Key × V)} {kvs : List (Key × D)} (t : Rfs K H ws kvs) (r : Rp K H v d) : Rfs K H (putK ws k v) (putKD kvs k d) := by
  unfold L2.putK putKD
  rw [t.anyK]
  split
  · exact t.mapK r
  · exact t.snoc r
end
theorem hu_of {k : Nat} {A : Around} (hr : Room k A) : A.units + 1 < cLine := by have := hr.un; omega
/-- a[y], there -/
def dgK (x y : D) (A : AHp) (P : D → Prop) : Prop := ∃ a kvs k d, x = .ref a ∧ y = kD k ∧ A a = some (.dk kvs) ∧ valD kvs k = some d ∧ P d
def xDg (o i : TEA) : TEA := fun E ρ A Q => o E ρ A fun x A1 => i E ρ A1 fun y A2 => dgK x y A2 fun d => Q d A2
theorem ae_dg {o i : Expr} {to ti : TEA} (hu : X.A.units + 1 < cLine) (ho : AE B X o to) (hi : AE B X i ti) (hs : NoSl i) : AE B X (.Subscript o i pos) (xDg to ti) := fun E hE => PE.wk (pe_dget hu (ho E hE) (hi E hE) hs) fun σ H Q ⟨ρ, A, QA, R, h, k⟩ =>
  ⟨ρ, A, _, R, h, fun v d H1 A1 R1 S1 r1 h1 => ⟨ρ, A1, _, R1, h1, fun w e H2 A2 R2' S2 r2 ⟨a, kvs, ky, z, e1, e2, e3, e4, q⟩ => by
    subst e1 e2
    obtain ⟨ws, g1, g2⟩ := R2'.hr.hp a _ e3
    obtain ⟨u, g3, g4⟩ := (g2.val).1 z e4
    refine ⟨a, u, (R1.hr.hp.rp S2 r1).ref_inv, .inl ⟨ws, ky, .inl g1, r2.key, g3.symm⟩, k _ _ _ _ R2' (S1.trans S2) g4 q⟩⟩⟩
/-- y in a -/
def dinK (f : Bool → Bool) (y x : D) (A : AHp) (P : D → Prop) : Prop := ∃ a kvs k, x = .ref a ∧ y = kD k ∧ A a = some (.dk kvs) ∧ P (.bl (f (valD kvs k).isSome))
def xDinF (f : Bool → Bool) (i o : TEA) : TEA := fun E ρ A Q => i E ρ A fun y A1 => o E ρ A1 fun x A2 => dinK f y x A2 fun d => Q d A2
abbrev xDin : TEA → TEA → TEA := xDinF id
abbrev xDnin : TEA → TEA → TEA := xDinF not
theorem din_wk {E : EA} {ti to : TEA} {f : Bool → Bool} {t : TE} (w : ∀ σ H Q, (eOf B X.K (ti E) σ H fun y H1 => eOf B X.K (to E) σ H1 fun x H2 => ∃ a o, x = .ref a ∧ DGet H2 a y o ∧ Q (.bl (f o.isSome)) H2) → t σ H Q) : ∀ σ H Q, eOf B X.K (xDinF f ti to E) σ H Q → t σ H Q :=
  fun σ H Q ⟨ρ, A, QA, R, h, k⟩ => w _ _ _ ⟨ρ, A, _, R, h, fun v d H1 A1 R1 S1 r1 h1 => ⟨ρ, A1, _, R1, h1, fun u e H2 A2 R2' S2 r2 ⟨a, kvs, ky, e1, e2, e3, q⟩ => by
    subst e1 e2
    obtain ⟨ws, g1, g2⟩ := R2'.hr.hp a _ e3
    have r1' := R1.hr.hp.rp S2 r1
    refine ⟨a, valV ws ky, r2.ref_inv, .inl ⟨ws, ky, .inl g1, r1'.key, rfl⟩, ?_⟩
    have e5 : (valV ws ky).isSome = (valD kvs ky).isSome := by
      cases z : valD kvs ky with
      | none => rw [g2.val.2 z]; rfl
      | some d => obtain ⟨v, z2, _⟩ := g2.val.1 d z; rw [z2]; rfl
    rw [e5]
    exact k _ _ _ _ R2' (S1.trans S2) (.bl _) q⟩⟩
theorem ae_din {i o : Expr} {ti to : TEA} (hu : X.A.units + 1 < cLine) (hi : AE B X i ti) (ho : AE B X o to) (hm : behindInMarks .In o = false := by rfl) : AE B X (.Compare i [.In] [o] pos) (xDin ti to) := fun E hE => PE.wk (pe_cmp (pc_din hu (hi E hE) (ho E hE)) hm) (din_wk fun _ _ _ q => q)
theorem ae_dnin {i o : Expr} {ti to : TEA} (hu : X.A.units + 1 < cLine) (hi : AE B X i ti) (ho : AE B X o to) (hm : behindInMarks .NotIn o = false := by rfl) : AE B X (.Compare i [.NotIn] [o] pos) (xDnin ti to) := fun E hE => PE.wk (pe_cmp (pc_dnotin hu (hi E hE) (ho E hE)) hm) (din_wk fun _ _ _ q => q)
theorem at_din {i o : Expr} {ti to : TEA} (hu : X.A.units + 1 < cLine) (hi : AE B X i ti) (ho : AE B X o to) (hm : behindInMarks .In o = false := by rfl) : AT B X (.Compare i [.In] [o] pos) (xTest (xDin ti to)) := fun E hE => PT.wk (pt_cmp (pc_din hu (hi E hE) (ho E hE)) hm) (test_wk (t := xDin ti to) (din_wk fun _ _ _ q => q))
theorem at_dnin {i o : Expr} {ti to : TEA} (hu : X.A.units + 1 < cLine) (hi : AE B X i ti) (ho : AE B X o to) (hm : behindInMarks .NotIn o = false := by rfl) : AT B X (.Compare i [.NotIn] [o] pos) (xTest (xDnin ti to)) := fun E hE => PT.wk (pt_cmp (pc_dnotin hu (hi E hE) (ho E hE)) hm) (test_wk (t := xDnin ti to) (din_wk fun _ _ _ q => q))
/-- {} -/
def xDnew : TEA := fun _ _ A Q => ∀ p, A p = none → Q (.ref p) (ua A p (.dk []))
theorem ae_dnew : AE B X (.Dict [] [] pos) xDnew := fun E hE => PE.wk pe_dnewK fun σ H Q ⟨ρ, A, QA, R, h, k⟩ p n => by
  have st : Step H A (upd H p (.dK [])) (ua A p (.dk [])) := Step.new n A
  exact k _ _ _ _ (R.step st (R.hr.hp.new n ⟨[], upd_same, .nil⟩)) st (.ref p) (h p (R.hr.hp.free n))
/-- a[y] = v -/
def dputK (x y v : D) (A : AHp) (P : AHp → Prop) : Prop := ∃ a kvs k, x = .ref a ∧ y = kD k ∧ A a = some (.dk kvs) ∧ kvs.length < sizeLine ∧ P (ua A a (.dk (putKD kvs k v)))
def sDput (o i tv : TEA) : TSA := fun E N ρ A => tv E ρ A fun v A1 => o E ρ A1 fun x A2 => i E ρ A2 fun y A3 => dputK x y v A3 fun A4 => N.nx ρ A4
theorem as_dput {o i e : Expr} {to ti te : TEA} {p' : Pos} (hu : X.A.units + 1 < cLine) (ho : AE B X o to) (hi : AE B X i ti) (he : AE B X e te) (hs : swapsWith e (some (.Subscript o i p')) pos.line X.env = pure false := by rfl) : AS B X (.Assign [.Subscript o i p'] e pos) (sDput to ti te) :=
  fun E hE => PS.wk (ps_dput hu (ho E hE) (hi E hE) (he E hE) hs) fun Dn σ H ⟨ρ, A, DA, R, h, k1, k2, k3, k4⟩ => ⟨ρ, A, _, R, h, fun v d H1 A1 R1 S1 r1 h1 => ⟨ρ, A1, _, R1, h1, fun w e H2 A2 R2' S2 r2 h2 => ⟨ρ, A2, _, R2', h2, fun u f H3 A3 R3 S3 r3 ⟨a, kvs, ky, e1, e2, e3, hz, q⟩ => by
    subst e1 e2
    obtain ⟨ws, g1, g2⟩ := R3.hr.hp a _ e3
    have rv := R2'.hr.hp.rp S3 (R1.hr.hp.rp S2 r1)
    refine ⟨a, _, (R2'.hr.hp.rp S3 r2).ref_inv, .inl ⟨ws, ky, g1, r3.key, by rw [Paired.length g2]; exact hz, rfl⟩, ?_⟩
    have st : Step H3 A3 (upd H3 a (.dK (putK ws ky v))) (ua A3 a (.dk (putKD kvs ky d))) := Step.set e3
    exact k1 _ _ _ _ (R3.step st (R3.hr.hp.set e3 ⟨_, upd_same, (R3.hr.hp.rfs st g2).putK (R3.hr.hp.rp st rv)⟩)) (((S1.trans S2).trans S3).trans st) q⟩⟩⟩
/-! ## for v in d.values(): the dict is locked, and told by nobody -/
theorem PS.ex {ι : Type} {st : Stmt} {t : ι → TS} {P : ι → Prop} (h : ∀ i, P i → PS X st (t i)) : PS X st (fun D σ H => ∃ i, P i ∧ t i D σ H) := ⟨fun pins s σ H D I ⟨i, p, q⟩ => (h i p).run pins s σ H D I q⟩
def St2 (H H' : Hp) : Prop := ∀ a u, H a = some u → ((∃ ys, u = .tup ys) ∨ (∃ ob ys, u = .frz ob (.tup ys)) ∨ ∃ ob ys, u = .frz ob (.lst ys)) → H' a = some u
theorem St2.sqt {K : PySem.W.Frag} {H H' : Hp} (s : St2 H H') {a : Addr} {xs : List V} (h : SqT K H a xs) : SqT K H' a xs := by
  rcases h with (h | ⟨o, h⟩) | h
  · exact .inl (.inl (s _ _ h (.inl ⟨_, rfl⟩)))
  · exact .inl (.inr ⟨o, s _ _ h (.inr (.inl ⟨_, _, rfl⟩))⟩)
  · exact .inr h
theorem St2.frl {K : PySem.W.Frag} {H H' : Hp} (s : St2 H H') {a : Addr} {xs : List V} (h : Frl K H a xs) : Frl K H' a xs := by
  rcases h with ⟨o, e⟩ | h
  · exact .inl ⟨o, s _ _ e (.inr (.inr ⟨_, _, rfl⟩))⟩
  · exact .inr h
mutual
theorem St2.rp {K : PySem.W.Frag} {H H' : Hp} (s : St2 H H') : ∀ {v : V} {d : D}, Rp K H v d → Rp K H' v d
  | _, _, .non => .non
  | _, _, .bl b => .bl b
  | _, _, .int i => .int i
  | _, _, .str x => .str x
  | _, _, .ref a => .ref a
  | _, _, .ty n => .ty n
  | _, _, .tup h t => .tup (s.sqt h) (St2.rps s t)
  | _, _, .fls h t => .fls (s.frl h) (St2.rps s t)
theorem St2.rps {K : PySem.W.Frag} {H H' : Hp} (s : St2 H H') : ∀ {vs : List V} {ds : List D}, Rps K H vs ds → Rps K H' vs ds
  | _, _, .nil => .nil
  | _, _, .cons h t => .cons (St2.rp s h) (St2.rps s t)
end
theorem St2.rfs {K : PySem.W.Frag} {H H' : Hp} (s : St2 H H') {α : Type} {ws : List (α × V)} {fs : List (α × D)} (h : Rfs K H ws fs) : Rfs K H' ws fs := Paired.mapP h fun _ _ z => ⟨z.1, s.rp z.2⟩
theorem St2.ro {κ : String → Addr} {K : PySem.W.Frag} {H H' : Hp} {a : Addr} (s : St2 H H') {o : AO} (h : RO κ K H a o) (e : H' a = H a) : RO κ K H' a o := by
  cases o with
  | lst ds => obtain ⟨xs, q, t⟩ := h; exact ⟨xs, e.trans q, s.rps t⟩
  | ins c fs => obtain ⟨dx, ws, q, t⟩ := h; exact ⟨dx, ws, e.trans q, s.rfs t⟩
  | dk kvs => obtain ⟨ws, q, t⟩ := h; exact ⟨ws, e.trans q, s.rfs t⟩
theorem St2.lock {H : Hp} {d : Addr} {od : Obj} {ws : List (Key × V)} (e : H d = some (.dK ws)) : St2 H (upd H d (.frz od (.dK ws))) := fun a u h t => by
  have ne : a ≠ d := fun z => by
    rw [z, e] at h
    cases h
    rcases t with ⟨_, z⟩ | ⟨_, _, z⟩ | ⟨_, _, z⟩ <;> cases z
  rw [upd_ne ne]; exact h
theorem St2.unlock {H : Hp} {d : Addr} {od : Obj} {ws : List (Key × V)} (e : H d = some (.frz od (.dK ws))) : St2 H (upd H d (.dK ws)) := fun a u h t => by
  have ne : a ≠ d := fun z => by
    rw [z, e] at h
    cases h
    rcases t with ⟨_, z⟩ | ⟨_, _, z⟩ | ⟨_, _, z⟩ <;> cases z
  rw [upd_ne ne]; exact h
/-- what is known of the locked dict -/
structure Lck (B : Bs) (K : PySem.W.Frag) (d : Addr) (kvs : List (Key × D)) : Prop where
  rh : RH B.κ K B.H0 B.A0
  at_ : ∃ od ws, B.H0 d = some (.frz od (.dK ws)) ∧ Rfs K B.H0 ws kvs
  free : B.A0 d = none
def iV (d : Addr) (kvs : List (Key × D)) (t : TEA) : TIA := fun E ρ A Q => t E ρ A fun x A1 => x = .ref d ∧ Q (kvs.map (·.2)) (fun _ => True) A1
theorem Paired.at_ {α β : Type} {F : α → β → Prop} : ∀ {l : List α} {m : List β}, Paired F l m → ∀ {i : Nat} {x : α} {y : β}, l[i]? = some x → m[i]? = some y → F x y
  | _, _, .nil, _, _, _, h, _ => by simp at h
  | _, _, .cons r t, 0, _, _, h, h' => by simp at h h'; subst h h'; exact r
  | _, _, .cons r t, i + 1, _, _, h, h' => Paired.at_ t (by simpa using h) (by simpa using h')
theorem ai_vals {d : Addr} {kvs : List (Key × D)} {tg e : Expr} {t : TEA} {apos cpos : Pos} (L : Lck B X.K d kvs) (h : AE B X e t) (hbase : attributeBase e "values" X.env (eval e X.env) = eval e X.env := by rfl) (hline : (apos.endLine == cpos.line) = true := by rfl) : AI B X tg (.Call (.Attribute e "values" apos) [] [] cpos) (iV d kvs t) :=
  fun E hE => PI.wk (pi_values (h E hE) hbase hline) fun σ H R ⟨ρ, A, QA, R0, h, k⟩ => ⟨ρ, A, _, R0, h, fun v x H1 A1 R1 S1 r1 ⟨e1, q⟩ => by
    subst e1
    obtain ⟨od, ws, h0, rf⟩ := L.at_
    obtain ⟨x1, x2⟩ := R1.hr.st d _ h0 L.free
    refine ⟨d, od, ws, r1.ref_inv, x1, k _ _ _ H1 A1 R1 S1 (fun H2 A2 hr s _ => ?_) q⟩
    obtain ⟨y1, y2⟩ := hr.st d _ h0 L.free
    have rf2 := L.rh.rfs hr.st rf
    have len := Paired.length rf2
    refine ⟨fun i hi => ⟨y1, by rw [len]; simpa using hi⟩, fun i x H' z ⟨e2, ky, e3⟩ e4 => ⟨e2, ?_⟩, fun i hi => ⟨y1, by rw [len]; simpa using hi⟩⟩
    rw [List.getElem?_map] at e4
    cases e5 : kvs[i]? with
    | none => rw [e5] at e4; cases e4
    | some p =>
      rw [e5] at e4; cases e4
      exact (Paired.at_ rf2 e3 e5).2⟩
def sForV (o : TEA) (g : TGA) (b : TSA) : TSA := fun E N ρ A => ∃ d kvs, A d = some (.dk kvs) ∧ sFor (iV d kvs o) g b E { nx := fun ρ' A' => N.nx ρ' (ua A' d (.dk kvs)), rt := fun r A' => N.rt r (ua A' d (.dk kvs)), bk := fun ρ' A' => N.bk ρ' (ua A' d (.dk kvs)), ct := fun ρ' A' => N.ct ρ' (ua A' d (.dk kvs)) } ρ (ud A d)
theorem as_forV {tg e : Expr} {body : List Stmt} {to : TEA} {g : TGA} {tb : TSA} {apos cpos : Pos} (hp : PassesOwn (model X.prog X.w) X.A X.env X.xe) (hc : X.calm = true) (ho : ∀ B' : Bs, B'.κ = B.κ → AE B' X e to) (hg : ∀ B' : Bs, B'.κ = B.κ → AG B' X tg g) (hb : ∀ B' : Bs, B'.κ = B.κ → ASs B' X body tb)
    (hbase : attributeBase e "values" X.env (eval e X.env) = eval e X.env := by rfl) (hline : (apos.endLine == cpos.line) = true := by rfl) (hs : ∀ x, foldedSetIterable (.Call (.Attribute e "values" apos) [] [] cpos) X.env x = pure x := by intro _; rfl) :
    AS B X (.For tg (.Call (.Attribute e "values" apos) [] [] cpos) body [] pos) (sForV to g tb) := fun E hE => by
  refine PS.wk (ps_lock (PS.ex (ι := Bs × Addr × List (Key × D)) (P := fun q => q.1.κ = B.κ ∧ Lck q.1 X.K q.2.1 q.2.2 ∧ Step B.H0 B.A0 q.1.H0 q.1.A0) (t := fun q => sOf q.1 X.K (sFor (iV q.2.1 q.2.2 to) g tb E)) fun q ⟨e1, L, up⟩ => ?_)) ?_
  · refine as_for hp hc (ai_vals L (ho q.1 e1) hbase hline) (hg q.1 e1) (hb q.1 e1) hs E ?_
    obtain ⟨W, tk, hW⟩ := hE.ex
    refine ⟨W, tk, fun σ H ρ A c pl da v R ex e2 e3 e4 => ?_⟩
    rw [e1]
    refine hW σ H ρ A c pl da v ⟨⟨?_, up.trans R.hr.st⟩, R.en⟩ ex e2 e3 e4
    rw [← e1]; exact R.hr.hp
  · rintro Dn σ H ⟨ρ, A, DA, R, ⟨d, kvs, ed, h⟩, k1, k2, k3, k4⟩
    obtain ⟨ws, hd, rf⟩ := R.hr.hp d _ ed
    refine ⟨d, .dK ws, hd, trivial, fun od => ?_⟩
    have sl : St2 H (upd H d (.frz od (.dK ws))) := St2.lock hd
    have rh1 : RH B.κ X.K (upd H d (.frz od (.dK ws))) (ud A d) := fun a o ea => by
      have ne : a ≠ d := fun z => by rw [z, ud_same] at ea; cases ea
      rw [ud_ne ne] at ea
      exact sl.ro (R.hr.hp a o ea) (upd_ne ne)
    have up : Step B.H0 B.A0 (upd H d (.frz od (.dK ws))) (ud A d) := fun a o ha hn => by
      obtain ⟨x1, x2⟩ := R.hr.st a o ha hn
      have ne : a ≠ d := fun z => by rw [z, ed] at x2; cases x2
      exact ⟨by rw [upd_ne ne]; exact x1, by rw [ud_ne ne]; exact x2⟩
    have en1 : RE X.K (upd H d (.frz od (.dK ws))) σ ρ := ⟨R.en.len, fun i z q => by
      obtain ⟨v, g1, g2⟩ := R.en.at_ i z q
      exact ⟨v, g1, sl.rp g2⟩⟩
    -- back again
    have back : ∀ {H' : Hp} {A' : AHp}, HR ⟨B.κ, upd H d (.frz od (.dK ws)), ud A d⟩ X.K H' A' → HR B X.K (upd H' d (.dK ws)) (ua A' d (.dk kvs)) ∧ Step H A (upd H' d (.dK ws)) (ua A' d (.dk kvs)) ∧ St2 H' (upd H' d (.dK ws)) := by
      intro H' A' hr
      obtain ⟨x1, x2⟩ := hr.st d _ upd_same ud_same
      have su : St2 H' (upd H' d (.dK ws)) := St2.unlock x1
      have st : Step H A (upd H' d (.dK ws)) (ua A' d (.dk kvs)) := fun a o ha hn => by
        have ne : a ≠ d := fun z => by rw [z, ed] at hn; cases hn
        obtain ⟨y1, y2⟩ := hr.st a o (by show upd H d _ a = _; rw [upd_ne ne]; exact ha) (by show ud A d a = _; rw [ud_ne ne]; exact hn)
        exact ⟨by rw [upd_ne ne]; exact y1, by rw [ua_ne ne]; exact y2⟩
      refine ⟨⟨fun a o ea => ?_, R.hr.st.trans st⟩, st, su⟩
      by_cases q : a = d
      · subst q
        rw [ua_same] at ea
        cases ea
        exact ⟨ws, upd_same, su.rfs (rh1.rfs hr.st (sl.rfs rf))⟩
      · rw [ua_ne q] at ea
        exact su.ro (hr.hp a o ea) (upd_ne q)
    have fr : ∀ {H' : Hp} {A' : AHp}, HR ⟨B.κ, upd H d (.frz od (.dK ws)), ud A d⟩ X.K H' A' → H' d = some (.frz od (.dK ws)) := fun hr => (hr.st d _ upd_same ud_same).1
    refine ⟨(⟨B.κ, upd H d (.frz od (.dK ws)), ud A d⟩, d, kvs), ⟨rfl, ⟨rh1, ⟨od, ws, upd_same, sl.rfs rf⟩, ud_same⟩, up⟩, ρ, ud A d, _, ⟨⟨rh1, Step.refl _ _⟩, en1⟩, h, ?_, ?_, ?_, ?_⟩
    · intro σ' H' ρ' A' r s q
      obtain ⟨b1, b2, b3⟩ := back r.hr
      exact ⟨fr r.hr, k1 σ' _ ρ' _ ⟨b1, r.en.len, fun i z q => by obtain ⟨v, g1, g2⟩ := r.en.at_ i z q; exact ⟨v, g1, b3.rp g2⟩⟩ b2 q⟩
    · intro v z H' A' r s rp q
      obtain ⟨b1, b2, b3⟩ := back r
      exact ⟨fr r, k2 v z _ _ b1 b2 (b3.rp rp) q⟩
    · intro σ' H' ρ' A' r s q
      obtain ⟨b1, b2, b3⟩ := back r.hr
      exact ⟨fr r.hr, k3 σ' _ ρ' _ ⟨b1, r.en.len, fun i z q => by obtain ⟨v, g1, g2⟩ := r.en.at_ i z q; exact ⟨v, g1, b3.rp g2⟩⟩ b2 q⟩
    · intro σ' H' ρ' A' r s q
      obtain ⟨b1, b2, b3⟩ := back r.hr
      exact ⟨fr r.hr, k4 σ' _ ρ' _ ⟨b1, r.en.len, fun i z q => by obtain ⟨v, g1, g2⟩ := r.en.at_ i z q; exact ⟨v, g1, b3.rp g2⟩⟩ b2 q⟩

section
variable {E : EA} {ρ : AEnv} {A : AHp} {Q : AK} {N : EndsA} {o i tv : TEA} {f : Bool → Bool} {g : TGA} {b : TSA}
theorem i_dg (k : o E ρ A fun x A1 => i E ρ A1 fun y A2 => dgK x y A2 fun d => Q d A2) : xDg o i E ρ A Q := k
theorem i_dgK {p : Addr} {kvs : List (Key × D)} {n : Int} {d : D} {P : D → Prop} (h : A p = some (.dk kvs)) (h2 : valD kvs (.inl n) = some d) (k : P d) : dgK (.ref p) (.int n) A P := ⟨p, kvs, .inl n, d, rfl, rfl, h, h2, k⟩
theorem i_din (k : i E ρ A fun y A1 => o E ρ A1 fun x A2 => dinK f y x A2 fun d => Q d A2) : xDinF f i o E ρ A Q := k
theorem i_dinK {p : Addr} {kvs : List (Key × D)} {n : Int} {P : D → Prop} (h : A p = some (.dk kvs)) (k : P (.bl (f (valD kvs (.inl n)).isSome))) : dinK f (.int n) (.ref p) A P := ⟨p, kvs, .inl n, rfl, rfl, h, k⟩
theorem i_dnew (k : ∀ p, A p = none → Q (.ref p) (ua A p (.dk []))) : xDnew E ρ A Q := k
theorem i_dput (k : tv E ρ A fun v A1 => o E ρ A1 fun x A2 => i E ρ A2 fun y A3 => dputK x y v A3 fun A4 => N.nx ρ A4) : sDput o i tv E N ρ A := k
theorem i_dputK {p : Addr} {kvs : List (Key × D)} {n : Int} {v : D} {P : AHp → Prop} (h : A p = some (.dk kvs)) (h2 : kvs.length < sizeLine) (k : P (ua A p (.dk (putKD kvs (.inl n) v)))) : dputK (.ref p) (.int n) v A P := ⟨p, kvs, .inl n, rfl, rfl, h, h2, k⟩
theorem i_forV {p : Addr} {kvs : List (Key × D)} (h : A p = some (.dk kvs)) (k : o E ρ (ud A p) fun x A1 => x = .ref p ∧ forW (g E) (b E) (fun _ => True) { nx := fun ρ' A' => N.nx ρ' (ua A' p (.dk kvs)), rt := fun r A' => N.rt r (ua A' p (.dk kvs)), bk := fun ρ' A' => N.bk ρ' (ua A' p (.dk kvs)), ct := fun ρ' A' => N.ct ρ' (ua A' p (.dk kvs)) } (kvs.map (·.2)) ρ A1) : sForV o g b E N ρ A := ⟨p, kvs, h, k⟩
end
end Mu

namespace Mu
open PySem L2

/-! ## pieces of a heap, side by side -/
structure SP where
  P : AHp → Prop
  up : ∀ {h k : AHp}, P h → Ext h k → P k
def dj (h k : AHp) : Prop := ∀ a, h a = none ∨ k a = none
theorem dj.symm {h k : AHp} (d : dj h k) : dj k h := fun a => (d a).symm
def Hs (L : List SP) (A : AHp) : Prop := ∃ hs : List AHp, Paired (fun (P : SP) h => P.P h) L hs ∧ hs.Pairwise dj ∧ ∀ h ∈ hs, Ext h A
def topS_ : SP := ⟨fun _ => True, fun _ _ => trivial⟩
def nth : List SP → Nat → SP
  | [], _ => topS_
  | P :: _, 0 => P
  | _ :: L, n + 1 => nth L n
def rem : List SP → Nat → List SP
  | [], _ => []
  | _ :: L, 0 => L
  | P :: L, n + 1 => P :: rem L n
def setN : List SP → Nat → SP → List SP
  | [], _, Q => [Q]
  | _ :: L, 0, Q => Q :: L
  | P :: L, n + 1, Q => P :: setN L n Q
def none_ : AHp := fun _ => none
theorem none_ext (A : AHp) : Ext none_ A := fun _ _ h => (by cases h)
theorem Paired.perm {α β : Type} {F : α → β → Prop} {l l' : List α} (p : l.Perm l') : ∀ {m : List β}, Paired F l m → ∃ m', Paired F l' m' ∧ m.Perm m' := by
  induction p with
  | nil => intro m h; exact ⟨m, h, .refl _⟩
  | cons x _ ih =>
    intro m h
    cases h with
    | cons r t => obtain ⟨m', h1, h2⟩ := ih t; exact ⟨_, .cons r h1, h2.cons _⟩
  | swap x y l =>
    intro m h
    cases h with
    | cons r t =>
      cases t with
      | cons r2 t2 => exact ⟨_, .cons r2 (.cons r t2), .swap _ _ _⟩
  | trans _ _ ih1 ih2 =>
    intro m h
    obtain ⟨m1, h1, p1⟩ := ih1 h
    obtain ⟨m2, h2, p2⟩ := ih2 h1
    exact ⟨m2, h2, p1.trans p2⟩
section
variable {L L' R : List SP} {A A' : AHp} {P Q : SP}
theorem Hs.perm (S : Hs L A) (p : L.Perm L') : Hs L' A := by
  obtain ⟨hs, h1, h2, h3⟩ := S
  obtain ⟨hs', g1, g2⟩ := Paired.perm p h1
  exact ⟨hs', g1, (g2.pairwise_iff fun {a b} d => dj.symm d).mp h2, fun h hh => h3 h (g2.mem_iff.mpr hh)⟩
theorem Hs.ext (S : Hs L A) (x : Ext A A') : Hs L A' := by
  obtain ⟨hs, h1, h2, h3⟩ := S
  exact ⟨hs, h1, h2, fun h hh => (h3 h hh).trans x⟩
theorem Hs.nil : Hs [] A := ⟨[], .nil, .nil, fun _ h => (by cases h)⟩
theorem Hs.cons_iff : Hs (P :: L) A ↔ ∃ h, P.P h ∧ Ext h A ∧ ∃ hs : List AHp, Paired (fun (P : SP) h => P.P h) L hs ∧ hs.Pairwise dj ∧ ∀ k ∈ hs, Ext k A ∧ dj h k := by
  constructor
  · rintro ⟨hs, h1, h2, h3⟩
    cases h1 with
    | cons r t =>
      rename_i h hs
      rw [List.pairwise_cons] at h2
      exact ⟨h, r, h3 h List.mem_cons_self, hs, t, h2.2, fun k hk => ⟨h3 k (List.mem_cons_of_mem _ hk), h2.1 k hk⟩⟩
  · rintro ⟨h, r, x, hs, t, h2, h3⟩
    refine ⟨h :: hs, .cons r t, List.pairwise_cons.mpr ⟨fun k hk => (h3 k hk).2, h2⟩, fun k hk => ?_⟩
    rcases List.mem_cons.mp hk with rfl | hk
    · exact x
    · exact (h3 k hk).1
theorem Hs.tail (S : Hs (P :: L) A) : Hs L A := by
  obtain ⟨h, r, x, hs, t, h2, h3⟩ := Hs.cons_iff.mp S
  exact ⟨hs, t, h2, fun k hk => (h3 k hk).1⟩
theorem Hs.head (S : Hs (P :: L) A) : P.P A := by
  obtain ⟨h, r, x, hs, t, h2, h3⟩ := Hs.cons_iff.mp S
  exact P.up r x
theorem Hs.imp (S : Hs (P :: L) A) (w : ∀ h, P.P h → Q.P h) : Hs (Q :: L) A := by
  obtain ⟨h, r, x, hs, t, h2, h3⟩ := Hs.cons_iff.mp S
  exact Hs.cons_iff.mpr ⟨h, w h r, x, hs, t, h2, h3⟩
theorem Hs.top (S : Hs L A) : Hs (topS_ :: L) A := by
  obtain ⟨hs, h1, h2, h3⟩ := S
  exact Hs.cons_iff.mpr ⟨none_, trivial, none_ext A, hs, h1, h2, fun k hk => ⟨h3 k hk, fun a => .inl rfl⟩⟩
theorem nth_perm : ∀ (L : List SP) (n : Nat), n < L.length → L.Perm (nth L n :: rem L n)
  | [], n, h => by simp at h
  | P :: L, 0, _ => .refl _
  | P :: L, n + 1, h => ((nth_perm L n (by simpa using h)).cons P).trans (.swap _ _ _)
theorem nth_out : ∀ (L : List SP) (n : Nat), ¬ n < L.length → nth L n = topS_ ∧ rem L n = L
  | [], n, h => ⟨rfl, rfl⟩
  | P :: L, 0, h => by simp at h
  | P :: L, n + 1, h => by
    obtain ⟨h1, h2⟩ := nth_out L n (by simpa using h)
    exact ⟨h1, by simp only [rem]; rw [h2]⟩
/-- the piece n to the front -/
theorem Hs.f (S : Hs L A) (n : Nat) : Hs (nth L n :: rem L n) A := by
  by_cases h : n < L.length
  · exact S.perm (nth_perm L n h)
  · obtain ⟨h1, h2⟩ := nth_out L n h
    rw [h1, h2]; exact S.top
theorem set_perm : ∀ (L : List SP) (n : Nat) (Q : SP), (Q :: rem L n).Perm (setN L n Q)
  | [], _, Q => .refl _
  | _ :: L, 0, Q => .refl _
  | P :: L, n + 1, Q => (List.Perm.swap _ _ _).trans ((set_perm L n Q).cons P)
/-- the front piece back to the place n -/
theorem Hs.b (n : Nat) (S : Hs (Q :: rem L n) A) : Hs (setN L n Q) A := S.perm (set_perm L n Q)
theorem Hs.at_ (S : Hs L A) (n : Nat) : (nth L n).P A := (S.f n).head
theorem Hs.drop (S : Hs L A) (n : Nat) : Hs (rem L n) A := (S.f n).tail
theorem paired_nth : ∀ {L : List SP} {hs : List AHp}, Paired (fun (P : SP) h => P.P h) L hs → ∀ i, (nth L i).P (hs.getD i none_)
  | _, _, .nil, i => trivial
  | _, _, .cons r t, 0 => r
  | _, _, .cons r t, i + 1 => by simpa [nth] using paired_nth t i
theorem getD_mem {hs : List AHp} (i : Nat) : hs.getD i none_ ∈ hs ∨ hs.getD i none_ = none_ := by
  by_cases h : i < hs.length
  · rw [List.getD_eq_getElem?_getD, List.getElem?_eq_getElem h]; exact .inl (List.getElem_mem h)
  · rw [List.getD_eq_getElem?_getD, List.getElem?_eq_none (by omega)]; exact .inr rfl
theorem none_dj (h : AHp) : dj none_ h := fun _ => .inl rfl
theorem pw_nth : ∀ {hs : List AHp}, hs.Pairwise dj → ∀ i j, i ≠ j → dj (hs.getD i none_) (hs.getD j none_)
  | [], _, i, j, _ => fun _ => .inl (by simp [none_])
  | h :: hs, p, 0, 0, ne => absurd rfl ne
  | h :: hs, p, 0, j + 1, _ => by
    rw [List.pairwise_cons] at p
    rcases getD_mem (hs := hs) j with z | z
    · simpa using p.1 _ z
    · simp only [List.getD_cons_zero, List.getD_cons_succ]; rw [z]; exact (none_dj _).symm
  | h :: hs, p, i + 1, 0, _ => by
    rw [List.pairwise_cons] at p
    rcases getD_mem (hs := hs) i with z | z
    · simpa using (p.1 _ z).symm
    · simp only [List.getD_cons_zero, List.getD_cons_succ]; rw [z]; exact none_dj _
  | h :: hs, p, i + 1, j + 1, ne => by
    rw [List.pairwise_cons] at p
    simpa using pw_nth p.2 i j fun z => ne (by rw [z])
theorem pw_drop : ∀ {hs : List AHp}, hs.Pairwise dj → ∀ (i m : Nat), i < m → ∀ k ∈ hs.drop m, dj (hs.getD i none_) k
  | [], _, i, m, _, k, hk => by simp at hk
  | h :: hs, p, i, 0, hm, k, hk => by omega
  | h :: hs, p, 0, m + 1, _, k, hk => by
    rw [List.pairwise_cons] at p
    simp only [List.drop_succ_cons] at hk
    simpa using p.1 k (List.mem_of_mem_drop hk)
  | h :: hs, p, i + 1, m + 1, hm, k, hk => by
    rw [List.pairwise_cons] at p
    simp only [List.drop_succ_cons] at hk
    simpa using pw_drop p.2 i m (by omega) k hk
theorem Paired.drop_ {α β : Type} {F : α → β → Prop} : ∀ {l : List α} {m : List β}, Paired F l m → ∀ n, Paired F (l.drop n) (m.drop n)
  | _, _, .nil, n => by simp; exact .nil
  | _, _, .cons r t, 0 => .cons r t
  | _, _, .cons r t, n + 1 => by simpa using Paired.drop_ t n
theorem Paired.app_ {α β : Type} {F : α → β → Prop} : ∀ {l : List α} {m : List β} {l' : List α} {m' : List β}, Paired F l m → Paired F l' m' → Paired F (l ++ l') (m ++ m')
  | _, _, _, _, .nil, h => h
  | _, _, _, _, .cons r t, h => .cons r (Paired.app_ t h)
/-- the pieces ix of the first m in this order, and all behind the first m -/
theorem Hs.pick (S : Hs L A) (m : Nat) (ix : List Nat) (hn : ix.Nodup := by decide) (hb : ∀ i ∈ ix, i < m := by decide) : Hs (ix.map (nth L) ++ L.drop m) A := by
  obtain ⟨hs, h1, h2, h3⟩ := S
  have ext : ∀ i, Ext (hs.getD i none_) A := fun i => by
    rcases getD_mem (hs := hs) i with z | z
    · exact h3 _ z
    · rw [z]; exact none_ext A
  have pr : ∀ ix : List Nat, Paired (fun (P : SP) h => P.P h) (ix.map (nth L)) (ix.map fun i => hs.getD i none_) := fun ix => by
    induction ix with
    | nil => exact .nil
    | cons i ix ih => exact .cons (paired_nth h1 i) ih
  have pw : ∀ ix : List Nat, ix.Nodup → (ix.map fun i => hs.getD i none_).Pairwise dj := fun ix hn => by
    induction ix with
    | nil => exact .nil
    | cons i ix ih =>
      rw [List.nodup_cons] at hn
      refine List.pairwise_cons.mpr ⟨fun k hk => ?_, ih hn.2⟩
      obtain ⟨j, hj, rfl⟩ := List.mem_map.mp hk
      exact pw_nth h2 i j fun z => hn.1 (by rw [z]; exact hj)
  refine ⟨(ix.map fun i => hs.getD i none_) ++ hs.drop m, Paired.app_ (pr ix) (Paired.drop_ h1 m), List.pairwise_append.mpr ⟨pw ix hn, h2.sublist (List.drop_sublist _ _), fun a ha b hb' => ?_⟩, fun h hh => ?_⟩
  · obtain ⟨i, hi, rfl⟩ := List.mem_map.mp ha
    exact pw_drop h2 i m (hb i hi) b hb'
  · rcases List.mem_append.mp hh with z | z
    · obtain ⟨i, hi, rfl⟩ := List.mem_map.mp z
      exact ext i
    · exact h3 h (List.mem_of_mem_drop z)
/-! one cell -/
def pt (a : Addr) (o : AO) : SP := ⟨fun h => h a = some o, fun e x => x _ _ e⟩
theorem Hs.pt_ {a : Addr} {o : AO} (S : Hs (pt a o :: L) A) : A a = some o := S.head
theorem Hs.set {a : Addr} {o o' : AO} (S : Hs (pt a o :: L) A) : Hs (pt a o' :: L) (ua A a o') := by
  obtain ⟨h, r, x, hs, t, h2, h3⟩ := Hs.cons_iff.mp S
  have nk : ∀ k ∈ hs, k a = none := fun k hk => by
    rcases (h3 k hk).2 a with z | z
    · have r' : h a = some o := r
      rw [r'] at z; cases z
    · exact z
  refine Hs.cons_iff.mpr ⟨ua none_ a o', ua_same, fun b u e => ?_, hs, t, h2, fun k hk => ⟨fun b u e => ?_, fun b => ?_⟩⟩
  · by_cases q : b = a
    · subst q; rw [ua_same] at e ⊢; exact e
    · rw [ua_ne q] at e; cases e
  · have q : b ≠ a := fun z => by rw [z, nk k hk] at e; cases e
    rw [ua_ne q]; exact (h3 k hk).1 b u e
  · by_cases q : b = a
    · subst q; exact .inr (nk k hk)
    · exact .inl (by rw [ua_ne q]; rfl)
theorem Hs.new {a : Addr} {o : AO} (S : Hs L A) (n : A a = none) : Hs (pt a o :: L) (ua A a o) := by
  obtain ⟨hs, t, h2, h3⟩ := S
  have nk : ∀ k ∈ hs, k a = none := fun k hk => (h3 k hk).free n
  refine Hs.cons_iff.mpr ⟨ua none_ a o, ua_same, fun b u e => ?_, hs, t, h2, fun k hk => ⟨(h3 k hk).trans (Ext.new n), fun b => ?_⟩⟩
  · by_cases q : b = a
    · subst q; rw [ua_same] at e ⊢; exact e
    · rw [ua_ne q] at e; cases e
  · by_cases q : b = a
    · subst q; exact .inr (nk k hk)
    · exact .inl (by rw [ua_ne q]; rfl)
theorem Hs.setAt (S : Hs L A) (n : Nat) {a : Addr} {o : AO} (o' : AO) (e : nth L n = pt a o) : Hs (setN L n (pt a o')) (ua A a o') := by
  have S1 := S.f n
  rw [e] at S1
  exact S1.set.b n
/-! what is written elsewhere -/
theorem Hs.frame (F F' : Addr → Prop) (S : Hs (P :: L) A) (h : ∀ k, P.P k → Ext k A → ∀ a, F a → k a ≠ none) (o : ∀ a o, A a = some o → ¬ F a → A' a = some o) (f : ∀ a, F' a → F a ∨ A a = none)
    (q : ∀ k, (∀ a o, F' a → A' a = some o → k a = some o) → Q.P k) : Hs (Q :: L) A' := by
  obtain ⟨k, r, x, hs, t, h2, h3⟩ := Hs.cons_iff.mp S
  have hF := h k r x
  have nF : ∀ m ∈ hs, ∀ a o, m a = some o → ¬ F a := fun m hm a o e z => by
    rcases (h3 m hm).2 a with y | y
    · exact hF a z y
    · rw [y] at e; cases e
  refine Hs.cons_iff.mpr ⟨fun a => open Classical in if F' a then A' a else none, q _ fun a o fa ea => by simp only [if_pos fa]; exact ea, fun a o e => ?_, hs, t, h2, fun m hm => ⟨fun a u e => ?_, fun a => ?_⟩⟩
  · by_cases z : F' a
    · simp only [if_pos z] at e; exact e
    · simp only [if_neg z] at e; cases e
  · exact o a u ((h3 m hm).1 a u e) (nF m hm a u e)
  · by_cases z : F' a
    · refine .inr ?_
      cases e : m a with
      | none => rfl
      | some u =>
        rcases f a z with y | y
        · exact absurd y (nF m hm a u e)
        · rw [(h3 m hm).1 a u e] at y; cases y
    · exact .inl (by simp only [if_neg z])
/-! many as one -/
def Hp_ (L : List SP) : SP := ⟨fun h => Hs L h, fun h x => Hs.ext h x⟩
def unl : List AHp → AHp
  | [] => none_
  | h :: hs => fun a => match h a with | some o => some o | none => unl hs a
theorem unl_ext {hs : List AHp} (h : ∀ k ∈ hs, Ext k A) : Ext (unl hs) A := by
  induction hs with
  | nil => exact none_ext A
  | cons k ks ih =>
    intro a o e
    simp only [unl] at e
    cases z : k a with
    | some u => rw [z] at e; exact h k List.mem_cons_self a o (by rw [z]; exact e)
    | none => rw [z] at e; exact ih (fun k hk => h k (List.mem_cons_of_mem _ hk)) a o e
theorem unl_in {hs : List AHp} (d : hs.Pairwise dj) : ∀ k ∈ hs, Ext k (unl hs) := by
  induction hs with
  | nil => intro k hk; cases hk
  | cons m ms ih =>
    rw [List.pairwise_cons] at d
    intro k hk a o e
    simp only [unl]
    rcases List.mem_cons.mp hk with rfl | hk
    · rw [e]
    · have : m a = none := by
        rcases d.1 k hk a with z | z
        · exact z
        · rw [z] at e; cases e
      rw [this]
      exact ih d.2 k hk a o e
theorem unl_dj {hs : List AHp} {k : AHp} (h : ∀ m ∈ hs, dj m k) : dj (unl hs) k := by
  induction hs with
  | nil => exact fun a => .inl rfl
  | cons m ms ih =>
    intro a
    simp only [unl]
    rcases h m List.mem_cons_self a with z | z
    · rw [z]; exact ih (fun k hk => h k (List.mem_cons_of_mem _ hk)) a
    · exact .inr z
theorem Paired.app {α β : Type} {F : α → β → Prop} : ∀ {l : List α} {m : List β} {l' : List α} {m' : List β}, Paired F l m → Paired F l' m' → Paired F (l ++ l') (m ++ m')
  | _, _, _, _, .nil, h => h
  | _, _, _, _, .cons r t, h => .cons r (Paired.app t h)
theorem Paired.split {α β : Type} {F : α → β → Prop} : ∀ {l l' : List α} {m : List β}, Paired F (l ++ l') m → ∃ m1 m2, m = m1 ++ m2 ∧ Paired F l m1 ∧ Paired F l' m2
  | [], l', m, h => ⟨[], m, rfl, .nil, h⟩
  | x :: l, l', _, .cons r t => by
    obtain ⟨m1, m2, e, h1, h2⟩ := Paired.split t
    exact ⟨_ :: m1, m2, by rw [e]; rfl, .cons r h1, h2⟩
theorem Hs.open_ (S : Hs (Hp_ R :: L) A) : Hs (R ++ L) A := by
  obtain ⟨h, ⟨ks, g1, g2, g3⟩, x, hs, t, h2, h3⟩ := Hs.cons_iff.mp S
  refine ⟨ks ++ hs, Paired.app g1 t, List.pairwise_append.mpr ⟨g2, h2, fun a ha b hb c => ?_⟩, fun k hk => ?_⟩
  · rcases (h3 b hb).2 c with z | z
    · exact .inl ((g3 a ha).free z)
    · exact .inr z
  · rcases List.mem_append.mp hk with hk | hk
    · exact (g3 k hk).trans x
    · exact (h3 k hk).1
theorem Hs.close (S : Hs (R ++ L) A) : Hs (Hp_ R :: L) A := by
  obtain ⟨hs, t, h2, h3⟩ := S
  obtain ⟨ks, ms, e, t1, t2⟩ := Paired.split t
  subst e
  rw [List.pairwise_append] at h2
  refine Hs.cons_iff.mpr ⟨unl ks, ⟨ks, t1, h2.1, unl_in h2.1⟩, unl_ext fun k hk => h3 k (List.mem_append_left _ hk), ms, t2, h2.2.1, fun k hk => ⟨h3 k (List.mem_append_right _ hk), unl_dj fun m hm => h2.2.2 m hm k hk⟩⟩
/-! what is there, what holds -/
def ex_ {α : Type} (f : α → SP) : SP := ⟨fun h => ∃ x, (f x).P h, fun ⟨x, h⟩ e => ⟨x, (f x).up h e⟩⟩
theorem Hs.ex_iff {α : Type} {f : α → SP} : Hs (ex_ f :: L) A ↔ ∃ x, Hs (f x :: L) A := by
  constructor
  · intro S
    obtain ⟨h, ⟨y, r⟩, x, hs, t, h2, h3⟩ := Hs.cons_iff.mp S
    exact ⟨y, Hs.cons_iff.mpr ⟨h, r, x, hs, t, h2, h3⟩⟩
  · rintro ⟨y, S⟩
    exact S.imp fun h r => ⟨y, r⟩
theorem Hs.un (S : Hs (P :: L) A) : ∃ k, P.P k ∧ Ext k A ∧ ∀ Q : SP, Q.P k → Hs (Q :: L) A := by
  obtain ⟨h, r, x, hs, t, h2, h3⟩ := Hs.cons_iff.mp S
  exact ⟨h, r, x, fun Q q => Hs.cons_iff.mpr ⟨h, q, x, hs, t, h2, h3⟩⟩
end

/-! ## steps over pieces -/
def NewK (A : AHp) (o : AO) (Q : D → AHp → Prop) : Prop := ∀ p, A p = none → Q (.ref p) (ua A p o)
section
variable {E : EA} {ρ : AEnv} {A : AHp} {Q : AK} {QT : Bool → AHp → Prop} {N : EndsA} {L : List SP} {a b : TEA} {t : TTA} {l : TAA}
theorem jnew {o : AO} (S : Hs L A) (k : ∀ p A', Hs (pt p o :: L) A' → Q (.ref p) A') : NewK A o Q := fun p n => k p _ (S.new n)
theorem j_lst (k : l E ρ A fun ds A1 => ds.length ≤ sizeLine ∧ NewK A1 (.lst ds) Q) : xLst l E ρ A Q := k
theorem j_lc {i : Nat} {it : TIA} (k : it E ρ A fun items still A1 => lcW i t a ρ still items [] A1 fun acc A2 => NewK A2 (.lst acc) Q) : xLc i it t a E ρ A Q := k
theorem j_dnew (k : NewK A (.dk []) Q) : xDnew E ρ A Q := k
theorem jmul {p : Addr} {n : Int} {xs : List D} (h : A p = some (.lst xs)) (h1 : 0 ≤ n) (h2 : n < 2 ^ 40) (h3 : xs.length * n.toNat ≤ sizeLine) (k : NewK A (.lst (List.replicate n.toNat xs).flatten) Q) : mulA (.ref p) (.int n) A Q := i_mulL h h1 h2 h3 k
theorem jcat {p q : Addr} {xs ys : List D} (h1 : A p = some (.lst xs)) (h2 : A q = some (.lst ys)) (hz : xs.length + ys.length ≤ sizeLine) (k : NewK A (.lst (xs ++ ys)) Q) : addA (.ref p) (.ref q) A Q := .inr (.inr (.inl ⟨p, q, xs, ys, rfl, rfl, h1, h2, hz, k⟩))
theorem jslL {p : Addr} {xs : List D} {lo hi : Option Int} (h : A p = some (.lst xs)) (k : NewK A (.lst (cutD xs lo hi)) Q) : slA (.ref p) lo hi A Q := .inl ⟨xs, .inl ⟨p, rfl, h⟩, k⟩
theorem japp (S : Hs L A) (n : Nat) {p : Addr} {xs : List D} {y : D} (e : nth L n = pt p (.lst xs)) (hz : xs.length < sizeLine) (k : ∀ A', Hs (setN L n (pt p (.lst (xs ++ [y])))) A' → Q .non A') : appA (.ref p) [y] A Q :=
  i_app (show A p = _ by have := S.at_ n; rw [e] at this; exact this) hz (k _ (S.setAt n _ e))
theorem jgsub (S : Hs L A) (n : Nat) {p : Addr} {ds : List D} {i : Int} {j : Nat} {d : D} {QH : AHp → Prop} (e : nth L n = pt p (.lst ds)) (hj : ixN ds.length i = some j) (k : ∀ A', Hs (setN L n (pt p (.lst (ds.set j d)))) A' → QH A') : gSubK (.ref p) (.int i) d A QH :=
  i_gsubK (show A p = _ by have := S.at_ n; rw [e] at this; exact this) hj (k _ (S.setAt n _ e))
theorem jsfld (S : Hs L A) (n : Nat) {c : String} {f : Str} {p : Addr} {fs : List (Str × D)} {y : D} {P : AHp → Prop} (e : nth L n = pt p (.ins c fs)) (h2 : fs.length < 1000) (k : ∀ A', Hs (setN L n (pt p (.ins c (putD f y fs)))) A' → P A') : ∃ a fs, D.ref p = .ref a ∧ A a = some (.ins c fs) ∧ fs.length < 1000 ∧ P (ua A a (.ins c (putD f y fs))) :=
  ⟨p, fs, rfl, (show A p = _ by have := S.at_ n; rw [e] at this; exact this), h2, k _ (S.setAt n _ e)⟩
end
/-! ## n of a kind, side by side -/
section
variable {α : Type} {f : α → SP} {L : List SP} {A : AHp}
theorem perm_at : ∀ (xs : List α) (i : Nat) (h : i < xs.length), xs.Perm (xs[i] :: xs.eraseIdx i)
  | x :: xs, 0, _ => .refl _
  | x :: xs, i + 1, h => ((perm_at xs i (by simpa using h)).cons x).trans (.swap _ _ _)
theorem perm_put : ∀ (xs : List α) (i : Nat) (h : i < xs.length) (y : α), (y :: xs.eraseIdx i).Perm (xs.set i y)
  | x :: xs, 0, _, y => .refl _
  | x :: xs, i + 1, h, y => (List.Perm.swap _ _ _).trans ((perm_put xs i (by simpa using h) y).cons x)
def Many (f : α → SP) (xs : List α) : SP := Hp_ (xs.map f)
theorem Hs.many_out (S : Hs (Many f xs :: L) A) (i : Nat) (h : i < xs.length) : Hs (f xs[i] :: Many f (xs.eraseIdx i) :: L) A := by
  have S1 := S.open_
  have p : (xs.map f ++ L).Perm (((xs.eraseIdx i).map f ++ (f xs[i] :: L))) := by
    have p1 := ((perm_at xs i h).map f).append_right L
    simp only [List.map_cons, List.cons_append] at p1
    exact p1.trans List.perm_middle.symm
  exact (S1.perm p).close.perm (.swap _ _ _)
theorem Hs.many_in {xs : List α} {y : α} {i : Nat} (h : i < xs.length) (S : Hs (f y :: Many f (xs.eraseIdx i) :: L) A) : Hs (Many f (xs.set i y) :: L) A := by
  have S1 := (S.perm (.swap _ _ _)).open_
  have p : ((xs.eraseIdx i).map f ++ (f y :: L)).Perm ((xs.set i y).map f ++ L) := by
    have p1 := ((perm_put xs i h y).map f).append_right L
    simp only [List.map_cons, List.cons_append] at p1
    exact List.perm_middle.trans p1
  exact (S1.perm p).close
end
end Mu

namespace Mu
open PySem L2

/-! ## states: four slots -/
structure Sl where
  n : Int
  v : Option (Int × Int)
deriving DecidableEq
abbrev Sta := Fin 4 → Sl
instance : DecidableEq Sta := fun s t => decidable_of_iff (∀ k, s k = t k) ⟨funext, fun h k => by rw [h]⟩
structure SlOk (x : Sl) : Prop where
  lo : 0 ≤ x.n
  hi : x.n ≤ 255
  ver : ∀ c w, x.v = some (c, w) → 1 ≤ c ∧ c ≤ x.n ∧ 0 ≤ w ∧ w ≤ 255
def StOk (s : Sta) : Prop := ∀ k, SlOk (s k)
def seenD (n : Fin 4 → Int) : D := .tup [.int (n 0), .int (n 1), .int (n 2), .int (n 3)]
def verO (k : Int) : Option (Int × Int) → List (List Int)
  | none => []
  | some p => [[k, p.1, p.2]]
def versOf (f : Fin 4 → Option (Int × Int)) : List (List Int) := verO 0 (f 0) ++ (verO 1 (f 1) ++ (verO 2 (f 2) ++ verO 3 (f 3)))
def vers (s : Sta) : List (List Int) := versOf fun k => (s k).v
def seen (s : Sta) : Fin 4 → Int := fun k => (s k).n
def stD (s : Sta) : D := .tup [seenD (seen s), .tup ((vers s).map tI)]
def emp : Sta := fun _ => ⟨0, none⟩

theorem verO_len (k : Int) (o : Option (Int × Int)) : (verO k o).length ≤ 1 := by cases o <;> simp [verO]
theorem versOf_len (f : Fin 4 → Option (Int × Int)) : (versOf f).length ≤ 4 := by
  have h0 := verO_len 0 (f 0); have h1 := verO_len 1 (f 1); have h2 := verO_len 2 (f 2); have h3 := verO_len 3 (f 3)
  simp only [versOf, List.length_append]; omega
theorem mem_verO {k : Int} {o : Option (Int × Int)} {x : List Int} : x ∈ verO k o ↔ ∃ p, o = some p ∧ x = [k, p.1, p.2] := by
  cases o <;> simp [verO]
theorem mem_versOf {f : Fin 4 → Option (Int × Int)} {x : List Int} : x ∈ versOf f ↔ ∃ (k : Fin 4) (p : Int × Int), f k = some p ∧ x = [(k.val : Int), p.1, p.2] := by
  simp only [versOf, List.mem_append, mem_verO]
  constructor
  · rintro (⟨p, h, rfl⟩ | ⟨p, h, rfl⟩ | ⟨p, h, rfl⟩ | ⟨p, h, rfl⟩)
    · exact ⟨0, p, h, rfl⟩
    · exact ⟨1, p, h, rfl⟩
    · exact ⟨2, p, h, rfl⟩
    · exact ⟨3, p, h, rfl⟩
  · rintro ⟨k, p, h, rfl⟩
    match k, h with
    | 0, h => exact .inl ⟨p, h, rfl⟩
    | 1, h => exact .inr (.inl ⟨p, h, rfl⟩)
    | 2, h => exact .inr (.inr (.inl ⟨p, h, rfl⟩))
    | 3, h => exact .inr (.inr (.inr ⟨p, h, rfl⟩))
theorem verO_inj {k : Int} {o u : Option (Int × Int)} (h : verO k o = verO k u) : o = u := by
  cases o with
  | none => cases u with
    | none => rfl
    | some q => simp [verO] at h
  | some p => cases u with
    | none => simp [verO] at h
    | some q =>
      simp only [verO, List.cons.injEq, and_true, true_and] at h
      obtain ⟨h1, h2⟩ := h
      exact congrArg some (Prod.ext h1 h2)
theorem fin4 (k l : Fin 4) : ((k.val : Int) = (l.val : Int)) ↔ k = l := ⟨fun h => Fin.ext (by omega), fun h => by rw [h]⟩
theorem versOf_at {f : Fin 4 → Option (Int × Int)} {k : Fin 4} {c w : Int} : [(k.val : Int), c, w] ∈ versOf f ↔ f k = some (c, w) := by
  rw [mem_versOf]
  constructor
  · rintro ⟨l, p, h, e⟩
    simp only [List.cons.injEq, and_true] at e
    obtain ⟨e1, e2, e3⟩ := e
    have := (fin4 k l).mp e1
    subst this
    rw [h, e2, e3]
  · intro h
    exact ⟨k, _, h, rfl⟩
theorem versOf_inj {f g : Fin 4 → Option (Int × Int)} (h : versOf f = versOf g) : f = g := by
  funext k
  have key : ∀ c w, f k = some (c, w) ↔ g k = some (c, w) := fun c w => by rw [← versOf_at, ← versOf_at, h]
  cases e : f k with
  | none => cases e' : g k with
    | none => rfl
    | some p => have := (key p.1 p.2).mpr e'; rw [e] at this; cases this
  | some p => exact ((key p.1 p.2).mp e).symm
theorem seenD_inj {n m : Fin 4 → Int} (h : seenD n = seenD m) : n = m := by
  simp only [seenD, D.tup.injEq, List.cons.injEq, D.int.injEq, and_true] at h
  obtain ⟨h0, h1, h2, h3⟩ := h
  funext k
  match k with
  | 0 => exact h0
  | 1 => exact h1
  | 2 => exact h2
  | 3 => exact h3
theorem stD_inj {s t : Sta} (h : stD s = stD t) : s = t := by
  simp only [stD, D.tup.injEq, List.cons.injEq, and_true] at h
  have h1 := seenD_inj h.1
  have h2 := versOf_inj (tIs_inj h.2)
  funext k
  have e1 := congrFun h1 k
  have e2 := congrFun h2 k
  simp only [seen] at e1
  cases hs : s k; cases ht : t k
  rw [hs, ht] at e1 e2
  simp only at e1 e2
  rw [e1, e2]
theorem stD_eq {s t : Sta} : stD s = stD t ↔ s = t := ⟨stD_inj, fun h => by rw [h]⟩
theorem cmp_seenD (n : Fin 4 → Int) : Cmp (seenD n) := by simp [Cmp, seenD, pln, plns, dep, deps]
theorem cmp_stD (s : Sta) : Cmp (stD s) := by
  have h1 := cmp_seenD (seen s)
  have h2 := tIs_plns (vers s)
  have h3 := tIs_deps (vers s)
  refine ⟨by simp [stD, pln, plns, h1.1, h2], ?_⟩
  have h4 := h1.2
  simp only [stD, dep, deps]
  have : dep (seenD (seen s)) = 1 := by simp [seenD, dep, deps]
  rw [this]
  omega

/-! ## the join, slot by slot -/
/-- a's version, if b has it, too, or has not seen it -/
def kv (a b : Sl) : Option (Int × Int) := match a.v with
  | none => none
  | some p => if b.v = some p ∨ b.n < p.1 then some p else none
def imax (i j : Int) : Int := if j > i then j else i
def jsl (a b : Sl) : Sl := ⟨imax a.n b.n, (kv a b).or (kv b a)⟩
def join (s t : Sta) : Sta := fun k => jsl (s k) (t k)
/-- equal versions have equal values -/
def VC (a b : Sl) : Prop := ∀ c w w', a.v = some (c, w) → b.v = some (c, w') → w = w'
theorem VC.symm {a b : Sl} (h : VC a b) : VC b a := fun c w w' h1 h2 => (h c w' w h2 h1).symm
theorem kv_some {a b : Sl} {p : Int × Int} : kv a b = some p ↔ a.v = some p ∧ (b.v = some p ∨ b.n < p.1) := by
  unfold kv
  cases e : a.v with
  | none => simp
  | some q =>
    by_cases h : b.v = some q ∨ b.n < q.1
    · simp only [if_pos h, Option.some.injEq]
      constructor
      · rintro rfl; exact ⟨rfl, h⟩
      · exact fun z => z.1
    · simp only [if_neg h]
      constructor
      · intro z; cases z
      · rintro ⟨e', z⟩; cases e'; exact absurd z h
/-- both keep one: it is the same one -/
theorem kv_both {a b : Sl} (ha : SlOk a) (hb : SlOk b) {p q : Int × Int} (h1 : kv a b = some p) (h2 : kv b a = some q) : p = q := by
  obtain ⟨h1, h1'⟩ := kv_some.mp h1
  obtain ⟨h2, h2'⟩ := kv_some.mp h2
  rcases h1' with h1' | h1'
  · rw [h1'] at h2; exact Option.some.inj h2
  · rcases h2' with h2' | h2'
    · rw [h2'] at h1; exact (Option.some.inj h1).symm
    · have x1 := ha.ver p.1 p.2 h1
      have x2 := hb.ver q.1 q.2 h2
      omega
theorem jsl_v {a b : Sl} (ha : SlOk a) (hb : SlOk b) {p : Int × Int} : (jsl a b).v = some p ↔ kv a b = some p ∨ kv b a = some p := by
  show (kv a b).or (kv b a) = some p ↔ _
  cases e : kv a b with
  | none => simp
  | some q =>
    simp only [Option.or, Option.some.injEq]
    constructor
    · exact .inl
    · rintro (h | h)
      · exact h
      · exact kv_both ha hb e h
theorem imax_le {i j : Int} : i ≤ imax i j ∧ j ≤ imax i j ∧ (imax i j = i ∨ imax i j = j) := by
  unfold imax; split <;> omega
theorem jsl_ok {a b : Sl} (ha : SlOk a) (hb : SlOk b) : SlOk (jsl a b) := by
  have hm := imax_le (i := a.n) (j := b.n)
  have := ha.lo; have := hb.lo; have := ha.hi; have := hb.hi
  refine ⟨by show 0 ≤ imax _ _; omega, by show imax _ _ ≤ 255; omega, fun c w h => ?_⟩
  rcases (jsl_v ha hb).mp h with h | h
  · have := ha.ver c w (kv_some.mp h).1
    show _ ∧ c ≤ imax _ _ ∧ _
    omega
  · have := hb.ver c w (kv_some.mp h).1
    show _ ∧ c ≤ imax _ _ ∧ _
    omega
theorem join_ok {s t : Sta} (hs : StOk s) (ht : StOk t) : StOk (join s t) := fun k => jsl_ok (hs k) (ht k)
theorem emp_ok : StOk emp := fun k => ⟨by show (0 : Int) ≤ 0; decide, by show (0 : Int) ≤ 255; decide, fun c w h => by cases h⟩
theorem Sl.ext' {a b : Sl} (h1 : a.n = b.n) (h2 : ∀ p, a.v = some p ↔ b.v = some p) : a = b := by
  cases a with | mk n v => cases b with | mk m w =>
  simp only at h1 h2
  subst h1
  congr 1
  cases v with
  | none => cases w with
    | none => rfl
    | some p => have := (h2 p).mpr rfl; cases this
  | some p => exact ((h2 p).mp rfl).symm
theorem imax_comm (i j : Int) : imax i j = imax j i := by unfold imax; split <;> split <;> omega
theorem imax_assoc (i j k : Int) : imax (imax i j) k = imax i (imax j k) := by unfold imax; repeat' split <;> omega
theorem imax_self (i : Int) : imax i i = i := by unfold imax; split <;> omega
theorem jsl_comm {a b : Sl} (ha : SlOk a) (hb : SlOk b) : jsl a b = jsl b a :=
  Sl.ext' (imax_comm _ _) fun p => by rw [jsl_v ha hb, jsl_v hb ha, Or.comm]
theorem jsl_self {a : Sl} (ha : SlOk a) : jsl a a = a :=
  Sl.ext' (imax_self _) fun p => by
    rw [jsl_v ha ha, kv_some]
    constructor
    · rintro (h | h) <;> exact h.1
    · exact fun h => .inl ⟨h, .inl h⟩
/-- a version is in the join: it is in one, and the other one has it, too, or has not seen it -/
theorem jsl_iff {a b : Sl} (ha : SlOk a) (hb : SlOk b) {p : Int × Int} : (jsl a b).v = some p ↔ (a.v = some p ∧ (b.v = some p ∨ b.n < p.1)) ∨ (b.v = some p ∧ (a.v = some p ∨ a.n < p.1)) := by
  rw [jsl_v ha hb, kv_some, kv_some]
theorem jsl_emp {a : Sl} (ha : SlOk a) {n : Int} (h : n = 0) : jsl a ⟨n, none⟩ = a := by
  subst h
  have h0 : SlOk ⟨0, none⟩ := ⟨by decide, by decide, fun c w h => by cases h⟩
  have := ha.lo
  refine Sl.ext' (by show imax a.n 0 = a.n; unfold imax; split <;> omega) fun p => ?_
  rw [jsl_iff ha h0]
  constructor
  · rintro (h | h)
    · exact h.1
    · cases h.1
  · intro h
    have := ha.ver p.1 p.2 h
    exact .inl ⟨h, .inr (by show (0 : Int) < p.1; omega)⟩
theorem jsl_assoc {a b c : Sl} (ha : SlOk a) (hb : SlOk b) (hc : SlOk c) : jsl (jsl a b) c = jsl a (jsl b c) := by
  refine Sl.ext' (imax_assoc _ _ _) fun p => ?_
  have hab := jsl_ok ha hb
  have hbc := jsl_ok hb hc
  rw [jsl_iff hab hc, jsl_iff ha hbc, jsl_iff ha hb, jsl_iff hb hc]
  have e1 : (jsl a b).n = imax a.n b.n := rfl
  have e2 : (jsl b c).n = imax b.n c.n := rfl
  rw [e1, e2]
  have m1 := imax_le (i := a.n) (j := b.n)
  have m2 := imax_le (i := b.n) (j := c.n)
  have va : a.v = some p → p.1 ≤ a.n := fun h => (ha.ver p.1 p.2 h).2.1
  have vb : b.v = some p → p.1 ≤ b.n := fun h => (hb.ver p.1 p.2 h).2.1
  have vc : c.v = some p → p.1 ≤ c.n := fun h => (hc.ver p.1 p.2 h).2.1
  by_cases qa : a.v = some p <;> by_cases qb : b.v = some p <;> by_cases qc : c.v = some p <;> simp only [qa, qb, qc, true_and, false_and, true_or, or_true, false_or, or_false, and_true, and_false, and_self, or_self] <;>
    (first | (have := va qa) | skip) <;> (first | (have := vb qb) | skip) <;> (first | (have := vc qc) | skip) <;> omega
end Mu

namespace Mu
open PySem L2
local macro_rules | `(tactic| walk_at "st1") => `(tactic| first
  | with_reducible refine i_seq ?_ | with_reducible refine i_bin ?_ | with_reducible refine i_var rfl ?_ | with_reducible refine i_c ?_ | with_reducible refine i_cons ?_ | with_reducible refine i_nil ?_
  | with_reducible refine i_call ?_ | with_reducible refine i_cb ?_ | with_reducible refine i_test ?_ | with_reducible refine i_bl ?_ | with_reducible refine i_asg ?_ | with_reducible refine i_gname ?_
  | with_reducible refine i_sif ?_ | with_reducible refine i_ret ?_ | with_reducible refine i_drop ?_ | with_reducible refine i_lm ?_ | with_reducible refine i_snil ?_ | with_reducible refine i_retN ?_
  | with_reducible refine i_tup ?_ | with_reducible refine i_lst ?_ | with_reducible refine i_and ?_ | with_reducible refine i_or ?_ | with_reducible refine i_not ?_ | with_reducible refine i_andV ?_ | with_reducible refine i_orV ?_
  | with_reducible refine i_notV ?_ | with_reducible refine i_if ?_ | with_reducible refine i_chain ?_ | with_reducible refine i_tru ?_ | with_reducible refine i_trub ?_ | with_reducible refine i_yes ?_ | with_reducible refine i_sl ?_
  | with_reducible refine i_ono ?_ | with_reducible refine i_oso ?_ | with_reducible refine i_ex_int ?_ | with_reducible refine i_break ?_ | with_reducible refine i_aug rfl ?_ | with_reducible refine i_gtup rfl ?_
  | with_reducible refine i_gscons ?_ | with_reducible refine i_gsnil ?_ | with_reducible refine i_gsub ?_ | with_reducible refine i_for ?_ | with_reducible refine i_lc ?_ | with_reducible refine i_iT ?_ | with_reducible refine i_iL ?_ | with_reducible refine i_iR1 ?_ | with_reducible refine i_iR2 ?_ | with_reducible refine i_iR3 ?_
  | with_reducible refine i_dg ?_ | with_reducible refine i_din ?_ | with_reducible refine i_dnew ?_ | with_reducible refine i_dput ?_
  | with_reducible refine i_raise ?_ | with_reducible refine i_raiseK ?_ | with_reducible refine i_tryAs ?_ | with_reducible refine i_tryOnly ?_ | with_reducible refine i_err rfl ?_
  | with_reducible refine i_fld ?_ | with_reducible refine i_sfld ?_ | with_reducible refine i_meth ?_ | with_reducible refine i_new ?_ | with_reducible refine i_neg ?_
  | with_reducible refine i_add ?_ | with_reducible refine i_sub ?_ | with_reducible refine i_cmp ?_ | with_reducible refine i_int1 ?_ | with_reducible refine i_int2 ?_ | with_reducible refine i_isb ?_ | with_reducible refine i_eqi ?_ | with_reducible refine i_eqb ?_ | refine i_ixt rfl rfl ?_)
local macro_rules | `(tactic| walk_at "st") => `(tactic| repeat (walk_at "st1"))
local macro_rules | `(tactic| walk_at "tt") => `(tactic| repeat (first | walk_at "st1" | refine i_len (Nat.le_of_ble_eq_true rfl) ?_))
abbrev k_REPLICAS : D := .int 4
abbrev k_MAX_COUNT : D := .int 255
abbrev k_MAX_VALUE : D := .int 255
abbrev k_EMPTY : D := .tup [.tup [.int 0, .int 0, .int 0, .int 0], .tup []]
/-- the ends of a def's body -/
abbrev bodyE (Q : AK) : EndsA := ⟨fun _ A' => Q .non A', Q, fun _ _ => False, fun _ _ => False⟩
theorem emp_D : k_EMPTY = stD emp := rfl
theorem at4 (n : Fin 4 → Int) (k : Fin 4) : atI [D.int (n 0), .int (n 1), .int (n 2), .int (n 3)] (k.val : Int) = some (.int (n k)) := by
  match k with
  | 0 => rfl
  | 1 => rfl
  | 2 => rfl
  | 3 => rfl
def f4 : List (Fin 4) := [0, 1, 2, 3]
theorem rng4 : rngD 0 1 (Int.toNat 4) = f4.map fun k => D.int (k.val : Int) := rfl
/-! ## covers -/
def sp_covers : ASp := fun ds A Q _ => ∃ (n : Fin 4 → Int) (k : Fin 4) (c w : Int), ds = [seenD n, tI [(k.val : Int), c, w]] ∧ Q (.bl (decide (c ≤ n k))) A
def T_covers : TSA := sRet (xBin leA (xBin ixB (xVar 1) (xC (.int 1))) (xBin ixB (xVar 0) (xBin ixB (xVar 1) (xC (.int 0)))))
theorem l_covers : ∀ ds A Q E, sp_covers ds A Q E → ds.length = ["seen", "version"].length := by
  rintro ds A Q E ⟨n, k, c, w, rfl, _⟩; rfl
theorem w_covers : ∀ ds A Q E, sp_covers ds A Q E → T_covers (fun _ c pl A' => E c pl A') (bodyE Q) (envA 2 ds) A := by
  rintro ds A Q E ⟨n, k, c, w, rfl, h⟩
  unfold T_covers
  walk_at "st"
  refine i_ixt rfl (at4 n k) ?_
  walk_at "st"
  exact h
/-! ## joined_seen -/
def sp_joined_seen : ASp := fun ds A Q _ => ∃ (n m : Fin 4 → Int), ds = [seenD n, seenD m] ∧ ∀ A', Ext A A' → Q (seenD fun k => imax (n k) (m k)) A'
def T_joined_seen : TSA := sRet (xCB tupA (xsCons (xLc 2 (iR1 (xsCons (xC k_REPLICAS) (xsNil))) xYes (xCB (int2A maxI) (xsCons (xBin ixB (xVar 0) (xVar 2)) (xsCons (xBin ixB (xVar 1) (xVar 2)) (xsNil))))) (xsNil)))
theorem l_joined_seen : ∀ ds A Q E, sp_joined_seen ds A Q E → ds.length = ["one", "two"].length := by
  rintro ds A Q E ⟨n, m, rfl, _⟩; rfl
theorem w_joined_seen : ∀ ds A Q E, sp_joined_seen ds A Q E → T_joined_seen (fun _ c pl A' => E c pl A') (bodyE Q) (envA 3 ds) A := by
  rintro ds A Q E ⟨n, m, rfl, h⟩
  unfold T_joined_seen
  walk_at "st"
  refine ⟨4, rfl, by decide, by decide, ?_⟩
  rw [rng4]
  refine lc_map (fun k : Fin 4 => D.int (k.val : Int)) (fun k => .int (imax (n k) (m k))) (fun _ A' => A' = A) f4 (by decide) (fun _ _ _ => trivial) (fun pre x post _ A1 e K1 k1 => ?_) (fun A1 e => ?_) rfl
  · subst e
    walk_at "st"
    refine i_ixt rfl (at4 n x) ?_
    walk_at "st"
    refine i_ixt rfl (at4 m x) ?_
    walk_at "st"
    exact k1 _ rfl
  · subst e
    intro p np
    walk_at "st"
    refine i_tupl ua_same ?_
    exact h _ (Ext.new np)
/-! ## kept -/
def sp_kept : ASp := fun ds A Q _ => ∃ (s t : Sta), ds = [stD s, stD t] ∧ ∀ A' p, Ext A A' → A p = none → A' p = some (.lst ((versOf fun k => kv (s k) (t k)).map tI)) → Q (.ref p) A'
def T_kept : TSA := sRet (xLc 2 (iT (xBin ixB (xVar 0) (xC (.int 1)))) (xOr (xTest (xBin (inA id) (xVar 2) (xBin ixB (xVar 1) (xC (.int 1))))) (xNot (xTru (xCall sp_covers (xsCons (xBin ixB (xVar 1) (xC (.int 0))) (xsCons (xVar 2) (xsNil))))))) (xVar 2))
theorem l_kept : ∀ ds A Q E, sp_kept ds A Q E → ds.length = ["one", "two"].length := by
  rintro ds A Q E ⟨n, m, rfl, _⟩; rfl
theorem mem_vers {s : Sta} {x : List Int} (h : x ∈ vers s) : ∃ (k : Fin 4) (c w : Int), x = [(k.val : Int), c, w] ∧ (s k).v = some (c, w) := by
  obtain ⟨k, p, h1, h2⟩ := mem_versOf.mp h
  exact ⟨k, p.1, p.2, h2, h1⟩
/-- the versions that stay -/
theorem filter_verO {p : List Int → Bool} {k : Int} {o u : Option (Int × Int)} (h : ∀ q, u = some q ↔ o = some q ∧ p [k, q.1, q.2] = true) : (verO k o).filter p = verO k u := by
  cases o with
  | none =>
    cases u with
    | none => rfl
    | some q => have := ((h q).mp rfl).1; cases this
  | some q =>
    simp only [verO, List.filter_cons, List.filter_nil]
    by_cases hp : p [k, q.1, q.2] = true
    · rw [if_pos hp, (h q).mpr ⟨rfl, hp⟩]
    · rw [if_neg hp]
      cases u with
      | none => rfl
      | some r =>
        obtain ⟨e, z⟩ := (h r).mp rfl
        cases e; exact absurd z hp
theorem filter_versOf {p : List Int → Bool} {f g : Fin 4 → Option (Int × Int)} (h : ∀ k q, g k = some q ↔ f k = some q ∧ p [(k.val : Int), q.1, q.2] = true) : (versOf f).filter p = versOf g := by
  simp only [versOf, List.filter_append]
  rw [filter_verO (k := 0) (h 0), filter_verO (k := 1) (h 1), filter_verO (k := 2) (h 2), filter_verO (k := 3) (h 3)]
theorem w_kept : ∀ ds A Q E, sp_kept ds A Q E → T_kept (fun _ c pl A' => E c pl A') (bodyE Q) (envA 3 ds) A := by
  rintro ds A Q E ⟨s, t, rfl, h⟩
  unfold T_kept
  walk_at "st"
  refine ⟨_, rfl, ?_⟩
  refine lc_rule (f := tI) (r := tI) (p := fun x => decide (x ∈ vers t) || !decide (x.getD 1 0 ≤ (t ⟨(x.getD 0 0).toNat % 4, Nat.mod_lt _ (by decide)⟩).n)) (I := fun _ A' => A' = A) (vers s) (Nat.le_trans (versOf_len _) (by decide)) (fun _ _ _ => trivial) (fun pre x post e A1 e1 K1 K2 k1 k2 => ?_) (fun A1 e => ?_) rfl
  · subst e1
    have hx : x ∈ vers s := by rw [e]; simp
    obtain ⟨k, c, w, rfl, hv⟩ := mem_vers hx
    have hk : (⟨(([(k.val : Int), c, w] : List Int).getD 0 0).toNat % 4, Nat.mod_lt _ (by decide)⟩ : Fin 4) = k := Fin.ext (by show ((k.val : Int)).toNat % 4 = k.val; have := k.isLt; omega)
    rw [hk] at k1 k2
    have e2 : ([(k.val : Int), c, w] : List Int).getD 1 0 = c := rfl
    rw [e2] at k1 k2
    walk_at "st"
    refine i_in (.inr rfl) (cmp_tI _) (tIs_plns _) fun b hb => ?_
    rw [tI_mem] at hb
    walk_at "st"
    refine i_two (fun h1 => ?_) (fun h1 => ?_)
    · refine i_twoT rfl ?_
      walk_at "st"
      refine k1 ?_ _ rfl
      rw [decide_eq_true (hb.mp h1)]; rfl
    · have hn : ¬ [(k.val : Int), c, w] ∈ vers t := fun z => by rw [hb.mpr z] at h1; cases h1
      rw [decide_eq_false hn, Bool.false_or] at k1 k2
      walk_at "st"
      refine ⟨seen t, k, c, w, rfl, ?_⟩
      walk_at "st"
      refine i_two (fun h2 => ?_) (fun h2 => ?_)
      · walk_at "st"
        exact k1 h2 _ rfl
      · exact k2 h2 _ rfl
  · subst e
    intro p np
    have e3 : (vers s).filter (fun x => decide (x ∈ vers t) || !decide (x.getD 1 0 ≤ (t ⟨(x.getD 0 0).toNat % 4, Nat.mod_lt _ (by decide)⟩).n)) = versOf fun k => kv (s k) (t k) := by
      refine filter_versOf fun k q => ?_
      have hk : (⟨(([(k.val : Int), q.1, q.2] : List Int).getD 0 0).toNat % 4, Nat.mod_lt _ (by decide)⟩ : Fin 4) = k := Fin.ext (by show ((k.val : Int)).toNat % 4 = k.val; have := k.isLt; omega)
      rw [kv_some, hk]
      have e2 : ([(k.val : Int), q.1, q.2] : List Int).getD 1 0 = q.1 := rfl
      rw [e2]
      simp only [Bool.or_eq_true, decide_eq_true_eq, Bool.not_eq_true', decide_eq_false_iff_not, Int.not_le]
      rw [show ([(k.val : Int), q.1, q.2] ∈ vers t) = ((t k).v = some (q.1, q.2)) from propext versOf_at]
    rw [e3]
    exact h _ p (Ext.new np) np ua_same
/-! ## join -/
def sp_join : ASp := fun ds A Q _ => ∃ (s t : Sta), ds = [stD s, stD t] ∧ StOk s ∧ StOk t ∧ ∀ A', Ext A A' → Q (stD (join s t)) A'
def T_join : TSA := sSeq (sSet 2 (xCall sp_kept (xsCons (xVar 0) (xsCons (xVar 1) (xsNil))))) (sSeq (sFor (iL (xCall sp_kept (xsCons (xVar 1) (xsCons (xVar 0) (xsNil))))) (gName 3) (sIf (xTest (xBin (inA not) (xVar 3) (xVar 2))) (sDrop (xLM appA (xVar 2) (xsCons (xVar 3) (xsNil)))) (sNil))) (sRet (xTup (xsCons (xCall sp_joined_seen (xsCons (xBin ixB (xVar 0) (xC (.int 0))) (xsCons (xBin ixB (xVar 1) (xC (.int 0))) (xsNil)))) (xsCons (xCB tupA (xsCons (xCB (srtA 3 256) (xsCons (xVar 2) (xsNil))) (xsNil))) (xsNil))))))
theorem l_join : ∀ ds A Q E, sp_join ds A Q E → ds.length = ["one", "two"].length := by
  rintro ds A Q E ⟨n, m, rfl, _⟩; rfl
theorem verO_nodup (k : Int) (o : Option (Int × Int)) : (verO k o).Nodup := by cases o <;> simp [verO]
/-- ascending by replicas -/
theorem versOf_pair (f : Fin 4 → Option (Int × Int)) : (versOf f).Pairwise fun x y => x.getD 0 0 < y.getD 0 0 := by
  have hm : ∀ {k : Int} {o : Option (Int × Int)} {x}, x ∈ verO k o → x.getD 0 0 = k := fun h => by obtain ⟨p, _, rfl⟩ := mem_verO.mp h; rfl
  have hp : ∀ (k : Int) (o : Option (Int × Int)), (verO k o).Pairwise fun x y => x.getD 0 0 < y.getD 0 0 := fun k o => by cases o <;> simp [verO]
  simp only [versOf, List.pairwise_append, List.mem_append]
  refine ⟨hp _ _, ⟨hp _ _, ⟨hp _ _, hp _ _, fun a ha b hb => ?_⟩, fun a ha b hb => ?_⟩, fun a ha b hb => ?_⟩
  · rw [hm ha, hm hb]; decide
  · rcases hb with hb | hb <;> (rw [hm ha, hm hb]; decide)
  · rcases hb with hb | hb | hb <;> (rw [hm ha, hm hb]; decide)
theorem versOf_nodup (f : Fin 4 → Option (Int × Int)) : (versOf f).Nodup := (versOf_pair f).imp fun h e => by subst e; omega
theorem add_new (k : List (List Int)) : ∀ l : List (List Int), l.Nodup → ∀ acc : List (List Int), (∀ x ∈ l, x ∉ acc) → l.foldl (fun a v => if v ∈ a then a else a ++ [v]) (k ++ acc) = k ++ (acc ++ l.filter fun x => decide (x ∉ k))
  | [], _, acc, _ => by simp
  | x :: l, h, acc, hd => by
    simp only [List.foldl_cons]
    have hx := hd x List.mem_cons_self
    have hn := List.nodup_cons.mp h
    by_cases hk : x ∈ k
    · rw [if_pos (List.mem_append_left _ hk), add_new k l hn.2 acc fun y hy => hd y (List.mem_cons_of_mem _ hy)]
      rw [List.filter_cons_of_neg (by simpa using hk)]
    · rw [if_neg (by simp [hk, hx]), List.append_assoc, add_new k l hn.2 (acc ++ [x]) fun y hy => by
        simp only [List.mem_append, List.mem_singleton, not_or]
        exact ⟨hd y (List.mem_cons_of_mem _ hy), fun e => hn.1 (e ▸ hy)⟩]
      rw [List.filter_cons_of_pos (by simpa using hk)]
      simp
theorem code3 {a b c : Int} : TS.code 256 [a, b, c] = a * 65536 + (b * 256 + c) := by
  simp [TS.code]
theorem versOf_sorted {f : Fin 4 → Option (Int × Int)} (hb : ∀ x ∈ versOf f, TS.Bd 256 x) : (versOf f).Pairwise fun n m => TS.code 256 n ≤ TS.code 256 m := by
  refine List.Pairwise.imp_of_mem (fun {x y} hx hy h => ?_) (versOf_pair f)
  have b1 := hb x hx
  have b2 := hb y hy
  obtain ⟨k, p, _, rfl⟩ := mem_versOf.mp hx
  obtain ⟨l, q, _, rfl⟩ := mem_versOf.mp hy
  rw [code3, code3]
  have h' : (k.val : Int) < l.val := h
  have c1 := b1 p.1 (by simp); have c2 := b1 p.2 (by simp)
  have c3 := b2 q.1 (by simp); have c4 := b2 q.2 (by simp)
  omega
theorem code_inj {x y : List Int} (hx : x.length = 3 ∧ TS.Bd 256 x) (hy : y.length = 3 ∧ TS.Bd 256 y) (h : TS.code 256 x = TS.code 256 y) : x = y := by
  obtain ⟨lx, bx⟩ := hx
  obtain ⟨ly, by_⟩ := hy
  match x, lx with
  | [a, b, c], _ =>
    match y, ly with
    | [a', b', c'], _ =>
      rw [code3, code3] at h
      have h1 := bx a (by simp); have h2 := bx b (by simp); have h3 := bx c (by simp)
      have h4 := by_ a' (by simp); have h5 := by_ b' (by simp); have h6 := by_ c' (by simp)
      have e1 : a = a' := by omega
      have e2 : b = b' := by omega
      have e3 : c = c' := by omega
      rw [e1, e2, e3]
/-- sorted: what is a permutation of versions and ascends -/
theorem sorted_vers {f : Fin 4 → Option (Int × Int)} {xs ys : List (List Int)} (hp : xs.Perm (versOf f)) (hy : ys.Perm xs) (ho : ys.Pairwise fun n m => TS.code 256 n ≤ TS.code 256 m)
    (hb : ∀ x ∈ versOf f, x.length = 3 ∧ TS.Bd 256 x) : ys = versOf f := by
  have p := hy.trans hp
  refine List.Perm.eq_of_pairwise (le := fun n m => TS.code 256 n ≤ TS.code 256 m) (fun a b ha hb' h1 h2 => ?_) ho (versOf_sorted fun x hx => (hb x hx).2) p
  exact code_inj (hb a (p.subset ha)) (hb b hb') (Int.le_antisymm h1 h2)
theorem bd3 {k : Fin 4} {c w : Int} (h1 : 0 ≤ c) (h2 : c ≤ 255) (h3 : 0 ≤ w) (h4 : w ≤ 255) : TS.Bd 256 [(k.val : Int), c, w] := fun m hm => by
  have := k.isLt
  simp only [List.mem_cons, List.not_mem_nil, or_false] at hm
  rcases hm with rfl | rfl | rfl <;> omega
theorem vers_bd {s : Sta} (h : StOk s) : ∀ x ∈ vers s, x.length = 3 ∧ TS.Bd 256 x := fun x hx => by
  obtain ⟨k, c, w, rfl, hv⟩ := mem_vers hx
  have := (h k).ver c w hv
  have := (h k).hi
  exact ⟨rfl, bd3 (by omega) (by omega) (by omega) (by omega)⟩
theorem perm_join {s t : Sta} (hs : StOk s) (ht : StOk t) :
    ((versOf fun k => kv (s k) (t k)) ++ (versOf fun k => kv (t k) (s k)).filter fun x => decide (x ∉ versOf fun k => kv (s k) (t k))).Perm (vers (join s t)) := by
  have n1 := versOf_nodup fun k => kv (s k) (t k)
  have n2 := versOf_nodup fun k => kv (t k) (s k)
  have n3 := versOf_nodup fun k => (join s t k).v
  refine (List.perm_ext_iff_of_nodup ?_ n3).mpr fun x => ?_
  · rw [List.nodup_append]
    refine ⟨n1, n2.filter _, fun a ha b hb e => ?_⟩
    subst e
    have := (List.mem_filter.mp hb).2
    simp only [decide_eq_true_eq] at this
    exact this ha
  · simp only [List.mem_append, List.mem_filter, decide_eq_true_eq]
    have em : (x ∈ (versOf fun k => kv (s k) (t k)) ∨ (x ∈ versOf fun k => kv (t k) (s k)) ∧ ¬ x ∈ versOf fun k => kv (s k) (t k)) ↔ (x ∈ (versOf fun k => kv (s k) (t k)) ∨ x ∈ versOf fun k => kv (t k) (s k)) := by
      constructor
      · rintro (h | h)
        · exact .inl h
        · exact .inr h.1
      · rintro (h | h)
        · exact .inl h
        · by_cases h' : x ∈ versOf fun k => kv (s k) (t k)
          · exact .inl h'
          · exact .inr ⟨h, h'⟩
    rw [em, mem_versOf, mem_versOf, mem_versOf]
    constructor
    · rintro (⟨k, p, h, rfl⟩ | ⟨k, p, h, rfl⟩)
      · exact ⟨k, p, (jsl_v (hs k) (ht k)).mpr (.inl h), rfl⟩
      · exact ⟨k, p, (jsl_v (hs k) (ht k)).mpr (.inr h), rfl⟩
    · rintro ⟨k, p, h, rfl⟩
      rcases (jsl_v (hs k) (ht k)).mp h with h | h
      · exact .inl ⟨k, p, h, rfl⟩
      · exact .inr ⟨k, p, h, rfl⟩
theorem w_join : ∀ ds A Q E, sp_join ds A Q E → T_join (fun _ c pl A' => E c pl A') (bodyE Q) (envA 4 ds) A := by
  rintro ds A Q E ⟨s, t, rfl, hs, ht, h⟩
  unfold T_join
  walk_at "st"
  refine ⟨s, t, rfl, fun A1 p x1 np hp => ?_⟩
  walk_at "st"
  refine ⟨t, s, rfl, fun A2 q x2 nq hq => ?_⟩
  have hp2 := x2 _ _ hp
  have npq : p ≠ q := ne_free hp nq
  refine i_iL_l hq ?_
  let K1 := versOf fun k => kv (s k) (t k)
  let K2 := versOf fun k => kv (t k) (s k)
  refine for_rule (f := tI) (fun pre ρ A3 => ∃ o : Option D, ρ = [some (stD s), some (stD t), some (.ref p), o] ∧ Ext A A3 ∧ A3 q = some (.lst (K2.map tI)) ∧ A3 p = some (.lst ((pre.foldl (fun a v => if v ∈ a then a else a ++ [v]) K1).map tI)))
    K2 (fun pre ρ A3 ⟨o, e, x, h1, h2⟩ => h1) (fun pre x post e ρ A3 ⟨o, e1, x3, h1, h2⟩ NX nx => ?step) (fun ρ A3 ⟨o, e1, x3, h1, h2⟩ => ?fin) ⟨none, rfl, x1.trans x2, hq, hp2⟩
  case step =>
    subst e1
    walk_at "st"
    refine i_in (.inl (.inl ⟨p, rfl, h2⟩)) (cmp_tI _) (tIs_plns _) fun b hb => ?_
    rw [tI_mem] at hb
    walk_at "st"
    refine i_two (fun h3 => ?_) (fun h3 => ?_)
    · have hn : ¬ x ∈ pre.foldl (fun a v => if v ∈ a then a else a ++ [v]) K1 := fun z => by rw [hb.mpr z] at h3; cases h3
      walk_at "st"
      refine i_lsr h2 ?_
      walk_at "st"
      refine i_app h2 ?_ ?_
      · have l1 : ∀ (l acc : List (List Int)), (l.foldl (fun a v => if v ∈ a then a else a ++ [v]) acc).length ≤ acc.length + l.length := by
          intro l
          induction l with
          | nil => intro acc; simp
          | cons y l ih =>
            intro acc
            simp only [List.foldl_cons, List.length_cons]
            refine Nat.le_trans (ih _) ?_
            split
            · omega
            · simp only [List.length_append, List.length_singleton]; omega
        have := l1 pre K1
        have l2 : K1.length ≤ 4 := versOf_len _
        have l3 : K2.length ≤ 4 := versOf_len _
        rw [e, List.length_append] at l3
        rw [List.length_map, sizeLine_eq]; omega
      · walk_at "st"
        refine nx _ _ ⟨some (tI x), rfl, fun a u ea => ?_, by rw [ua_ne npq.symm]; exact h1, ?_⟩
        · have ne : a ≠ p := ne_free ea np
          rw [ua_ne ne]; exact x3 a u ea
        · rw [ua_same, List.foldl_append]
          simp only [List.foldl_cons, List.foldl_nil, if_neg hn, List.map_append, List.map_cons, List.map_nil]
    · have hn : x ∈ pre.foldl (fun a v => if v ∈ a then a else a ++ [v]) K1 := hb.mp (by revert h3; cases b <;> simp)
      walk_at "st"
      refine nx _ _ ⟨some (tI x), rfl, x3, h1, ?_⟩
      rw [h2, List.foldl_append]
      simp only [List.foldl_cons, List.foldl_nil, if_pos hn]
  case fin =>
    subst e1
    walk_at "st"
    refine ⟨seen s, seen t, rfl, fun A4 x4 => ?_⟩
    walk_at "st"
    have h4 := x4 _ _ h2
    have ek : K2.foldl (fun a v => if v ∈ a then a else a ++ [v]) K1 = K1 ++ K2.filter fun x => decide (x ∉ K1) := by
      have := add_new K1 K2 (versOf_nodup _) [] (fun _ _ z => by cases z)
      simpa using this
    rw [ek] at h4
    have pj := perm_join hs ht
    have hbd := vers_bd (join_ok hs ht)
    refine ⟨_, _, rfl, .inl ⟨p, rfl, h4⟩, ?_, fun ns hns => ?_, fun nss' pm pw u nu => ?_⟩
    · exact Nat.lt_of_le_of_lt (Nat.le_trans (Nat.le_of_eq pj.length_eq) (versOf_len _)) (by decide)
    · exact hbd ns (pj.subset hns)
    · have e5 : nss' = vers (join s t) := sorted_vers pj pm pw hbd
      subst e5
      walk_at "st"
      refine i_tupl ua_same ?_
      refine ⟨by simp only [List.length_cons, List.length_nil, sizeLine_eq]; omega, ?_⟩
      exact h _ ((x3.trans x4).more nu)
/-! ## knows -/
def sp_knows : ASp := fun ds A Q _ => ∃ (s t : Sta), ds = [stD s, stD t] ∧ StOk s ∧ StOk t ∧ ∀ (b : Bool) A', (b = true ↔ join s t = s) → Ext A A' → Q (.bl b) A'
def T_knows : TSA := sRet (xBin (eqA id) (xCall sp_join (xsCons (xVar 0) (xsCons (xVar 1) (xsNil)))) (xVar 0))
theorem l_knows : ∀ ds A Q E, sp_knows ds A Q E → ds.length = ["one", "two"].length := by
  rintro ds A Q E ⟨n, m, rfl, _⟩; rfl
theorem w_knows : ∀ ds A Q E, sp_knows ds A Q E → T_knows (fun _ c pl A' => E c pl A') (bodyE Q) (envA 2 ds) A := by
  rintro ds A Q E ⟨s, t, rfl, hs, ht, h⟩
  unfold T_knows
  walk_at "st"
  refine ⟨s, t, rfl, hs, ht, fun A1 x1 => ?_⟩
  walk_at "st"
  refine i_eq (cmp_stD _) (cmp_stD _) fun b hb => ?_
  rw [stD_eq] at hb
  exact h b _ hb x1
end Mu

namespace Mu
open PySem L2
local macro_rules | `(tactic| walk_at "st1") => `(tactic| first
  | with_reducible refine i_seq ?_ | with_reducible refine i_bin ?_ | with_reducible refine i_var rfl ?_ | with_reducible refine i_c ?_ | with_reducible refine i_cons ?_ | with_reducible refine i_nil ?_
  | with_reducible refine i_call ?_ | with_reducible refine i_cb ?_ | with_reducible refine i_test ?_ | with_reducible refine i_bl ?_ | with_reducible refine i_asg ?_ | with_reducible refine i_gname ?_
  | with_reducible refine i_sif ?_ | with_reducible refine i_ret ?_ | with_reducible refine i_drop ?_ | with_reducible refine i_lm ?_ | with_reducible refine i_snil ?_ | with_reducible refine i_retN ?_
  | with_reducible refine i_tup ?_ | with_reducible refine i_lst ?_ | with_reducible refine i_and ?_ | with_reducible refine i_or ?_ | with_reducible refine i_not ?_ | with_reducible refine i_andV ?_ | with_reducible refine i_orV ?_
  | with_reducible refine i_notV ?_ | with_reducible refine i_if ?_ | with_reducible refine i_chain ?_ | with_reducible refine i_tru ?_ | with_reducible refine i_trub ?_ | with_reducible refine i_yes ?_ | with_reducible refine i_sl ?_
  | with_reducible refine i_ono ?_ | with_reducible refine i_oso ?_ | with_reducible refine i_ex_int ?_ | with_reducible refine i_break ?_ | with_reducible refine i_aug rfl ?_ | with_reducible refine i_gtup rfl ?_
  | with_reducible refine i_gscons ?_ | with_reducible refine i_gsnil ?_ | with_reducible refine i_gsub ?_ | with_reducible refine i_for ?_ | with_reducible refine i_lc ?_ | with_reducible refine i_iT ?_ | with_reducible refine i_iL ?_ | with_reducible refine i_iR1 ?_ | with_reducible refine i_iR2 ?_ | with_reducible refine i_iR3 ?_
  | with_reducible refine i_dg ?_ | with_reducible refine i_din ?_ | with_reducible refine i_dnew ?_ | with_reducible refine i_dput ?_
  | with_reducible refine i_raise ?_ | with_reducible refine i_raiseK ?_ | with_reducible refine i_tryAs ?_ | with_reducible refine i_tryOnly ?_ | with_reducible refine i_err rfl ?_
  | with_reducible refine i_fld ?_ | with_reducible refine i_sfld ?_ | with_reducible refine i_meth ?_ | with_reducible refine i_new ?_ | with_reducible refine i_neg ?_
  | with_reducible refine i_add ?_ | with_reducible refine i_sub ?_ | with_reducible refine i_cmp ?_ | with_reducible refine i_int1 ?_ | with_reducible refine i_int2 ?_ | with_reducible refine i_isb ?_ | with_reducible refine i_eqi ?_ | with_reducible refine i_eqb ?_ | refine i_ixt rfl rfl ?_)
local macro_rules | `(tactic| walk_at "st") => `(tactic| repeat (walk_at "st1"))
local macro_rules | `(tactic| walk_at "tt") => `(tactic| repeat (first | walk_at "st1" | refine i_len (Nat.le_of_ble_eq_true rfl) ?_))
/-! ## what is_state looks at: any data whose references are lists -/
mutual
def OkT (A : AHp) : D → Prop
  | .ref a => ∃ ds, A a = some (.lst ds)
  | .ty _ => False
  | .tup ds => OkTs A ds
  | _ => True
def OkTs (A : AHp) : List D → Prop
  | [] => True
  | d :: ds => OkT A d ∧ OkTs A ds
end
theorem OkTs.mem {A : AHp} : ∀ {ds : List D}, OkTs A ds → ∀ d ∈ ds, OkT A d
  | d :: ds, h, e, he => by
    simp only [OkTs] at h
    rcases List.mem_cons.mp he with rfl | he
    · exact h.1
    · exact OkTs.mem h.2 e he
theorem OkTs.of {A : AHp} : ∀ {ds : List D}, (∀ d ∈ ds, OkT A d) → OkTs A ds
  | [], _ => trivial
  | d :: ds, h => ⟨h d List.mem_cons_self, OkTs.of fun e he => h e (List.mem_cons_of_mem _ he)⟩
mutual
theorem OkT.ext {A A' : AHp} (x : Ext A A') : ∀ {d : D}, OkT A d → OkT A' d
  | .ref a, h => by simp only [OkT] at h ⊢; obtain ⟨ds, e⟩ := h; exact ⟨ds, x _ _ e⟩
  | .ty _, h => by simp only [OkT] at h
  | .tup ds, h => by simp only [OkT] at h ⊢; exact OkTs.ext x h
  | .non, _ => by simp only [OkT]
  | .bl _, _ => by simp only [OkT]
  | .int _, _ => by simp only [OkT]
  | .str _, _ => by simp only [OkT]
  | .fls _, _ => by simp only [OkT]
theorem OkTs.ext {A A' : AHp} (x : Ext A A') : ∀ {ds : List D}, OkTs A ds → OkTs A' ds
  | [], _ => trivial
  | d :: ds, h => ⟨OkT.ext x h.1, OkTs.ext x h.2⟩
end
theorem OkT.ty {A : AHp} {d : D} (h : OkT A d) : tyA A d ∈ ["NoneType", "bool", "int", "str", "tuple", "list", "dict"] := by
  cases d with
  | ref a => simp only [OkT] at h; obtain ⟨ds, e⟩ := h; simp only [tyA, e]; decide
  | ty n => simp only [OkT] at h
  | _ => simp only [tyA]; decide
def isTup : D → Bool
  | .tup _ => true
  | _ => false
theorem tupB {A : AHp} {d : D} (h : OkT A d) : isB (tyA A d) "tuple" = isTup d := by
  cases d with
  | ref a => simp only [OkT] at h; obtain ⟨ds, e⟩ := h; simp only [tyA, e, isTup]; decide
  | ty n => simp only [OkT] at h
  | _ => simp only [tyA, isTup]; decide
theorem isTup_inv {d : D} (h : isTup d = true) : ∃ ds, d = .tup ds := by
  cases d with
  | tup ds => exact ⟨ds, rfl⟩
  | _ => simp [isTup] at h
theorem i_isit {A : AHp} {Q : AK} {x : D} (h : OkT A x) (k : Q (.bl (isTup x)) A) : isiA [x, .ty "tuple"] A Q := i_isi h.ty (by decide) (by rw [tupB h]; exact k)
theorem okT_int (A : AHp) (i : Int) : OkT A (.int i) := by simp only [OkT]
theorem okT_tI (A : AHp) (ns : List Int) : OkT A (tI ns) := by
  simp only [tI, OkT]
  exact OkTs.of fun d h => by obtain ⟨i, _, rfl⟩ := List.mem_map.mp h; exact okT_int A i
theorem okT_stD (A : AHp) (s : Sta) : OkT A (stD s) := by
  simp only [stD, seenD, OkT, OkTs, true_and, and_true]
  exact OkTs.of fun d h => by obtain ⟨i, _, rfl⟩ := List.mem_map.mp h; exact okT_tI A i
/-! ## is_number -/
def numB (lo hi : Int) : D → Bool
  | .int i => decide (lo ≤ i) && decide (i ≤ hi)
  | _ => false
def sp_is_number : ASp := fun ds A Q _ => ∃ (x : D) (lo hi : Int), ds = [x, .int lo, .int hi] ∧ OkT A x ∧ Q (.bl (numB lo hi x)) A
def T_is_number : TSA := sRet (xAndV (xCB isiA (xsCons (xVar 0) (xsCons (xC (.ty "int")) (xsNil)))) (xAndV (xNotV (xCB isiA (xsCons (xVar 0) (xsCons (xC (.ty "bool")) (xsNil))))) (xChain leA leA (xVar 1) (xVar 0) (xVar 2))))
theorem l_is_number : ∀ ds A Q E, sp_is_number ds A Q E → ds.length = ["thing", "low", "high"].length := by
  rintro ds A Q E ⟨n, m, _, rfl, _⟩; rfl
theorem w_is_number : ∀ ds A Q E, sp_is_number ds A Q E → T_is_number (fun _ c pl A' => E c pl A') (bodyE Q) (envA 3 ds) A := by
  rintro ds A Q E ⟨x, lo, hi, rfl, ok, h⟩
  unfold T_is_number
  walk_at "st"
  refine i_isi ok.ty (by decide) ?_
  walk_at "st"
  cases x with
  | int i =>
    refine i_twoT (by simp only [tyA]; decide) ?_
    walk_at "st"
    refine i_isi (okT_int A i).ty (by decide) ?_
    walk_at "st"
    refine i_twoT (by simp only [tyA]; decide) ?_
    walk_at "st"
    refine i_two (fun h1 => ?_) (fun h1 => ?_)
    · walk_at "st"
      simp only [numB, h1, Bool.true_and] at h
      exact h
    · simp only [numB, h1, Bool.false_and] at h
      exact h
  | bl b =>
    refine i_twoT (by simp only [tyA]; decide) ?_
    walk_at "st"
    refine i_isi ok.ty (by decide) ?_
    walk_at "st"
    refine i_twoF (by simp only [tyA]; decide) ?_
    exact h
  | ref a =>
    simp only [OkT] at ok
    obtain ⟨ds, e⟩ := ok
    refine i_twoF (by simp only [tyA, e]; decide) ?_
    exact h
  | ty n => simp only [OkT] at ok
  | _ =>
    refine i_twoF (by simp only [tyA]; decide) ?_
    exact h
/-! ## is_seen -/
def IsSeen (x : D) : Prop := ∃ n : Fin 4 → Int, x = seenD n ∧ ∀ k, 0 ≤ n k ∧ n k ≤ 255
theorem numB_iff {lo hi : Int} {x : D} : numB lo hi x = true ↔ ∃ i, x = .int i ∧ lo ≤ i ∧ i ≤ hi := by
  cases x with
  | int i => simp [numB]
  | _ => simp [numB]
def sp_is_seen : ASp := fun ds A Q _ => ∃ (x : D), ds = [x] ∧ OkT A x ∧ ∀ (b : Bool) A', (b = true ↔ IsSeen x) → Ext A A' → Q (.bl b) A'
def T_is_seen : TSA := sSeq (sIf (xOr (xNot (xTru (xCB isiA (xsCons (xVar 0) (xsCons (xC (.ty "tuple")) (xsNil)))))) (xTest (xBin (eqA not) (xCB lenA (xsCons (xVar 0) (xsNil))) (xC k_REPLICAS)))) (sRet (xC (.bl false))) (sNil)) (sRet (xCB allA (xsCons (xLc 1 (iT (xVar 0)) xYes (xCall sp_is_number (xsCons (xVar 1) (xsCons (xC (.int 0)) (xsCons (xC k_MAX_COUNT) (xsNil)))))) (xsNil))))
theorem l_is_seen : ∀ ds A Q E, sp_is_seen ds A Q E → ds.length = ["thing"].length := by
  rintro ds A Q E ⟨n, rfl, _⟩; rfl
theorem w_is_seen : ∀ ds A Q E, sp_is_seen ds A Q E → T_is_seen (fun _ c pl A' => E c pl A') (bodyE Q) (envA 2 ds) A := by
  rintro ds A Q E ⟨x, rfl, ok, h⟩
  unfold T_is_seen
  walk_at "st"
  refine i_isit ok ?_
  walk_at "st"
  have no : ¬ IsSeen x → Q (.bl false) A := fun z => h false A ⟨fun q => (by cases q), fun q => absurd q z⟩ (Ext.refl _)
  refine i_two (fun h1 => ?_) (fun h1 => ?_)
  · refine i_twoT rfl ?_
    walk_at "st"
    refine no fun ⟨n, e, _⟩ => ?_
    rw [e] at h1; simp [seenD, isTup] at h1
  have h1' : isTup x = true := by simpa using h1
  obtain ⟨ds, rfl⟩ := isTup_inv h1'
  walk_at "st"
  refine i_lent rfl ?_
  walk_at "st"
  refine i_two (fun h2 => ?_) (fun h2 => ?_)
  · walk_at "st"
    refine no fun ⟨n, e, _⟩ => ?_
    simp only [seenD, D.tup.injEq] at e
    rw [e] at h2; simp at h2
  have hl : ds.length = 4 := by
    have : (ds.length : Int) = 4 := by simpa using h2
    omega
  walk_at "st"
  refine i_iTK rfl ?_
  simp only [OkT] at ok
  refine lc_mapD (r := fun d => D.bl (numB 0 255 d)) (fun _ A' => A' = A) ds (by omega) (fun _ _ _ => trivial) (fun pre x post e A1 e1 K1 k1 => ?step) (fun A1 e => ?fin) rfl
  case step =>
    subst e1
    walk_at "st"
    exact ⟨_, 0, 255, rfl, ok.mem x (by rw [e]; simp), k1 _ rfl⟩
  case fin =>
    subst e
    intro p np
    walk_at "st"
    have em : ds.map (fun d => D.bl (numB 0 255 d)) = (ds.map (numB 0 255)).map D.bl := by rw [List.map_map]; rfl
    refine i_alll (by rw [ua_same, em]) ?_
    refine h _ _ ?_ (Ext.new np)
    rw [List.all_eq_true]
    constructor
    · intro ha
      have at_ : ∀ d ∈ ds, ∃ i, d = .int i ∧ 0 ≤ i ∧ i ≤ 255 := fun d hd => numB_iff.mp (ha _ (List.mem_map_of_mem hd))
      match ds, hl, at_ with
      | [a, b, c, d], _, at_ =>
        obtain ⟨i0, rfl, z0⟩ := at_ a (by simp)
        obtain ⟨i1, rfl, z1⟩ := at_ b (by simp)
        obtain ⟨i2, rfl, z2⟩ := at_ c (by simp)
        obtain ⟨i3, rfl, z3⟩ := at_ d (by simp)
        refine ⟨fun k => match k with | 0 => i0 | 1 => i1 | 2 => i2 | 3 => i3, rfl, fun k => ?_⟩
        match k with
        | 0 => exact z0
        | 1 => exact z1
        | 2 => exact z2
        | 3 => exact z3
    · rintro ⟨n, e, hn⟩ b hb
      obtain ⟨d, hd, rfl⟩ := List.mem_map.mp hb
      simp only [seenD, D.tup.injEq] at e
      rw [e] at hd
      simp only [List.mem_cons, List.not_mem_nil, or_false] at hd
      refine numB_iff.mpr ?_
      rcases hd with rfl | rfl | rfl | rfl
      · exact ⟨_, rfl, hn 0⟩
      · exact ⟨_, rfl, hn 1⟩
      · exact ⟨_, rfl, hn 2⟩
      · exact ⟨_, rfl, hn 3⟩
/-! ## is_version -/
def IsVer (n : Fin 4 → Int) (x : D) : Prop := ∃ (k : Fin 4) (c w : Int), x = tI [(k.val : Int), c, w] ∧ 1 ≤ c ∧ c ≤ n k ∧ 0 ≤ w ∧ w ≤ 255
def sp_is_version : ASp := fun ds A Q _ => ∃ (x : D) (n : Fin 4 → Int), ds = [x, seenD n] ∧ OkT A x ∧ ∀ (b : Bool), (b = true ↔ IsVer n x) → Q (.bl b) A
def T_is_version : TSA := sSeq (sIf (xOr (xNot (xTru (xCB isiA (xsCons (xVar 0) (xsCons (xC (.ty "tuple")) (xsNil)))))) (xTest (xBin (eqA not) (xCB lenA (xsCons (xVar 0) (xsNil))) (xC (.int 3))))) (sRet (xC (.bl false))) (sNil)) (sSeq (sIf (xOr (xNot (xTru (xCall sp_is_number (xsCons (xBin ixB (xVar 0) (xC (.int 0))) (xsCons (xC (.int 0)) (xsCons (xBin subA (xC k_REPLICAS) (xC (.int 1))) (xsNil))))))) (xNot (xTru (xCall sp_is_number (xsCons (xBin ixB (xVar 0) (xC (.int 2))) (xsCons (xC (.int 0)) (xsCons (xC k_MAX_VALUE) (xsNil)))))))) (sRet (xC (.bl false))) (sNil)) (sRet (xCall sp_is_number (xsCons (xBin ixB (xVar 0) (xC (.int 1))) (xsCons (xC (.int 1)) (xsCons (xBin ixB (xVar 1) (xBin ixB (xVar 0) (xC (.int 0)))) (xsNil)))))))
theorem l_is_version : ∀ ds A Q E, sp_is_version ds A Q E → ds.length = ["thing", "seen"].length := by
  rintro ds A Q E ⟨n, m, rfl, _⟩; rfl
theorem w_is_version : ∀ ds A Q E, sp_is_version ds A Q E → T_is_version (fun _ c pl A' => E c pl A') (bodyE Q) (envA 2 ds) A := by
  rintro ds A Q E ⟨x, n, rfl, ok, h⟩
  unfold T_is_version
  walk_at "st"
  refine i_isit ok ?_
  walk_at "st"
  have no : ¬ IsVer n x → Q (.bl false) A := fun z => h false ⟨fun q => (by cases q), fun q => absurd q z⟩
  refine i_two (fun h1 => ?_) (fun h1 => ?_)
  · refine i_twoT rfl ?_
    walk_at "st"
    refine no fun ⟨k, c, w, e, _⟩ => ?_
    rw [e] at h1; simp [tI, isTup] at h1
  have h1' : isTup x = true := by simpa using h1
  obtain ⟨ds, rfl⟩ := isTup_inv h1'
  walk_at "st"
  refine i_lent rfl ?_
  walk_at "st"
  refine i_two (fun h2 => ?_) (fun h2 => ?_)
  · walk_at "st"
    refine no fun ⟨k, c, w, e, _⟩ => ?_
    simp only [tI, D.tup.injEq] at e
    rw [e] at h2; simp at h2
  have hl : ds.length = 3 := by
    have : (ds.length : Int) = 3 := by simpa using h2
    omega
  simp only [OkT] at ok
  match ds, hl, ok, no, h with
  | [a, b, c], _, ok, no, h =>
  walk_at "st"
  refine ⟨_, 0, 3, rfl, ok.1, ?_⟩
  walk_at "st"
  refine i_two (fun h3 => ?_) (fun h3 => ?_)
  · refine i_twoT rfl ?_
    walk_at "st"
    refine no fun ⟨k, c', w, e, _⟩ => ?_
    simp only [tI, D.tup.injEq, List.map_cons, List.cons.injEq] at e
    have : numB 0 3 a = true := by rw [e.1]; have := k.isLt; exact numB_iff.mpr ⟨_, rfl, by omega, by omega⟩
    rw [this] at h3; cases h3
  have h3' : numB 0 3 a = true := by simpa using h3
  obtain ⟨i, rfl, i0, i3⟩ := numB_iff.mp h3'
  walk_at "st"
  refine ⟨_, 0, 255, rfl, ok.2.2.1, ?_⟩
  walk_at "st"
  refine i_two (fun h4 => ?_) (fun h4 => ?_)
  · walk_at "st"
    refine no fun ⟨k, c', w, e, _, _, w0, w1⟩ => ?_
    simp only [tI, D.tup.injEq, List.map_cons, List.cons.injEq] at e
    have : numB 0 255 c = true := by rw [e.2.2.1]; exact numB_iff.mpr ⟨_, rfl, by omega, by omega⟩
    rw [this] at h4; cases h4
  have h4' : numB 0 255 c = true := by simpa using h4
  obtain ⟨w, rfl, w0, w1⟩ := numB_iff.mp h4'
  walk_at "st"
  obtain ⟨k, rfl⟩ : ∃ k : Fin 4, i = (k.val : Int) := ⟨⟨i.toNat, by omega⟩, by show i = ((i.toNat : Nat) : Int); omega⟩
  refine i_ixt rfl (at4 n k) ?_
  walk_at "st"
  refine ⟨_, 1, n k, rfl, ok.2.1, ?_⟩
  refine h _ ⟨fun h5 => ?_, fun ⟨k', c', w', e, z⟩ => ?_⟩
  · obtain ⟨c, rfl, c0, c1⟩ := numB_iff.mp h5
    exact ⟨k, c, w, rfl, c0, c1, w0, w1⟩
  · simp only [tI, D.tup.injEq, List.map_cons, List.cons.injEq, D.int.injEq] at e
    have := (fin4 k k').mp e.1
    subst this
    rw [e.2.1]
    exact numB_iff.mpr ⟨_, rfl, z.1, z.2.1⟩
/-! ## is_state -/
def IsState (x : D) : Prop := ∃ s : Sta, StOk s ∧ x = stD s
/-- ascending versions are those of a state -/
theorem vers_of {n : Fin 4 → Int} : ∀ xs : List (List Int), (∀ x ∈ xs, ∃ (k : Fin 4) (c w : Int), x = [(k.val : Int), c, w] ∧ 1 ≤ c ∧ c ≤ n k ∧ 0 ≤ w ∧ w ≤ 255) → xs.Pairwise (fun x y => x.getD 0 0 < y.getD 0 0) →
    ∃ f : Fin 4 → Option (Int × Int), versOf f = xs ∧ ∀ k c w, f k = some (c, w) → 1 ≤ c ∧ c ≤ n k ∧ 0 ≤ w ∧ w ≤ 255 := by
  intro xs hx hp
  let f : Fin 4 → Option (Int × Int) := fun k => (xs.find? fun x => decide (x.getD 0 0 = (k.val : Int))).map fun x => (x.getD 1 0, x.getD 2 0)
  have hf : ∀ k c w, f k = some (c, w) ↔ [(k.val : Int), c, w] ∈ xs := by
    intro k c w
    constructor
    · intro h
      obtain ⟨x, h1, h2⟩ := Option.map_eq_some_iff.mp h
      have hm := List.mem_of_find?_eq_some h1
      have hq := List.find?_some h1
      obtain ⟨k', c', w', rfl, _⟩ := hx x hm
      simp only [decide_eq_true_eq] at hq
      have e : (k'.val : Int) = k.val := hq
      have e2 : c' = c ∧ w' = w := by
        have h2' : (c', w') = (c, w) := h2
        exact ⟨congrArg Prod.fst h2', congrArg Prod.snd h2'⟩
      rw [← e, ← e2.1, ← e2.2]; exact hm
    · intro h
      show (xs.find? _).map _ = _
      cases e : xs.find? fun x => decide (x.getD 0 0 = (k.val : Int)) with
      | none =>
        have := List.find?_eq_none.mp e _ h
        simp at this
      | some y =>
        have hm := List.mem_of_find?_eq_some e
        have hq := List.find?_some e
        simp only [decide_eq_true_eq] at hq
        have : y = [(k.val : Int), c, w] := by
          by_cases hne : y = [(k.val : Int), c, w]
          · exact hne
          · have tri : ∀ {l : List (List Int)}, l.Pairwise (fun x y => x.getD 0 0 < y.getD 0 0) → ∀ a ∈ l, ∀ b ∈ l, a.getD 0 0 = b.getD 0 0 → a = b := by
              intro l hl
              induction hl with
              | nil => intro a ha; cases ha
              | cons h1 h2 ih =>
                intro a ha b hb hab
                rcases List.mem_cons.mp ha with rfl | ha' <;> rcases List.mem_cons.mp hb with rfl | hb'
                · rfl
                · have := h1 b hb'; omega
                · have := h1 a ha'; omega
                · exact ih a ha' b hb' hab
            exact tri hp y hm _ h hq
        rw [this]; rfl
  refine ⟨f, ?_, fun k c w h => ?_⟩
  · have n1 := versOf_nodup f
    have n2 : xs.Nodup := hp.imp fun h e => by subst e; omega
    have p : (versOf f).Perm xs := (List.perm_ext_iff_of_nodup n1 n2).mpr fun x => by
      rw [mem_versOf]
      constructor
      · rintro ⟨k, q, h, rfl⟩; exact (hf k q.1 q.2).mp h
      · intro h
        obtain ⟨k, c, w, rfl, _⟩ := hx x h
        exact ⟨k, (c, w), (hf k c w).mpr h, rfl⟩
    refine List.Perm.eq_of_pairwise (le := fun x y => x.getD 0 0 < y.getD 0 0) (fun a b _ _ h1 h2 => by omega) (versOf_pair f) hp p
  · obtain ⟨k', c', w', e, z⟩ := hx _ ((hf k c w).mp h)
    simp only [List.cons.injEq, and_true] at e
    have := (fin4 k k').mp e.1
    subst this
    rw [e.2.1, e.2.2]; exact z
theorem vers_list {n : Fin 4 → Int} : ∀ vs : List D, (∀ d ∈ vs, IsVer n d) → ∃ xs : List (List Int), vs = xs.map tI
  | [], _ => ⟨[], rfl⟩
  | d :: vs, h => by
    obtain ⟨xs, e⟩ := vers_list vs fun d hd => h d (List.mem_cons_of_mem _ hd)
    obtain ⟨k, c, w, e2, _⟩ := h d List.mem_cons_self
    exact ⟨[(k.val : Int), c, w] :: xs, by rw [e, e2]; rfl⟩
theorem adj_pair : ∀ xs : List (List Int), (∀ i, i < xs.length - 1 → (xs.getD i []).getD 0 0 < (xs.getD (i + 1) []).getD 0 0) ↔ xs.Pairwise fun x y => x.getD 0 0 < y.getD 0 0
  | [] => by simp
  | a :: xs => by
    have ih := adj_pair xs
    constructor
    · intro ha
      have ih' := ih.mp fun i hi => ha (i + 1) (by simp only [List.length_cons]; omega)
      refine .cons (fun b hb => ?_) ih'
      cases xs with
      | nil => cases hb
      | cons c xs =>
        have h0 : a.getD 0 0 < c.getD 0 0 := ha 0 (by simp)
        rcases List.mem_cons.mp hb with rfl | hb
        · exact h0
        · cases ih' with | cons h7 _ => have := h7 b hb; omega
    · intro hp i hi
      cases hp with
      | cons h7 h8 =>
        cases i with
        | zero =>
          cases xs with
          | nil => simp at hi
          | cons c xs => exact h7 c List.mem_cons_self
        | succ i => exact ih.mpr h8 i (by simp only [List.length_cons] at hi; omega)
def sp_is_state : ASp := fun ds A Q _ => ∃ (x : D), ds = [x] ∧ OkT A x ∧ ∀ (b : Bool) A', (b = true ↔ IsState x) → Ext A A' → Q (.bl b) A'
def T_is_state : TSA := sSeq (sIf (xOr (xNot (xTru (xCB isiA (xsCons (xVar 0) (xsCons (xC (.ty "tuple")) (xsNil)))))) (xOr (xTest (xBin (eqA not) (xCB lenA (xsCons (xVar 0) (xsNil))) (xC (.int 2)))) (xNot (xTru (xCall sp_is_seen (xsCons (xBin ixB (xVar 0) (xC (.int 0))) (xsNil))))))) (sRet (xC (.bl false))) (sNil)) (sSeq (sSet 1 (xBin ixB (xVar 0) (xC (.int 1)))) (sSeq (sIf (xOr (xNot (xTru (xCB isiA (xsCons (xVar 1) (xsCons (xC (.ty "tuple")) (xsNil)))))) (xTest (xBin gtA (xCB lenA (xsCons (xVar 1) (xsNil))) (xC k_REPLICAS)))) (sRet (xC (.bl false))) (sNil)) (sSeq (sIf (xNot (xTru (xCB allA (xsCons (xLc 2 (iT (xVar 1)) xYes (xCall sp_is_version (xsCons (xVar 2) (xsCons (xBin ixB (xVar 0) (xC (.int 0))) (xsNil))))) (xsNil))))) (sRet (xC (.bl false))) (sNil)) (sRet (xCB allA (xsCons (xLc 3 (iR2 (xsCons (xC (.int 1)) (xsCons (xCB lenA (xsCons (xVar 1) (xsNil))) (xsNil)))) xYes (xBin ltA (xBin ixB (xBin ixB (xVar 1) (xBin subA (xVar 3) (xC (.int 1)))) (xC (.int 0))) (xBin ixB (xBin ixB (xVar 1) (xVar 3)) (xC (.int 0))))) (xsNil)))))))
theorem l_is_state : ∀ ds A Q E, sp_is_state ds A Q E → ds.length = ["thing"].length := by
  rintro ds A Q E ⟨n, rfl, _⟩; rfl
theorem getE {α : Type} {l : List α} {i : Nat} (h : i < l.length) : l[i]? = some l[i] := List.getElem?_eq_getElem h
theorem w_is_state : ∀ ds A Q E, sp_is_state ds A Q E → T_is_state (fun _ c pl A' => E c pl A') (bodyE Q) (envA 4 ds) A := by
  rintro ds A Q E ⟨x, rfl, ok, h⟩
  unfold T_is_state
  have no : ∀ A', ¬ IsState x → Ext A A' → Q (.bl false) A' := fun A' z e => h false A' ⟨fun q => (by cases q), fun q => absurd q z⟩ e
  walk_at "st"
  refine i_isit ok ?_
  walk_at "st"
  refine i_two (fun h1 => ?_) (fun h1 => ?_)
  · refine i_twoT rfl ?_
    walk_at "st"
    refine no _ (fun ⟨s, _, e⟩ => ?_) (Ext.refl _)
    rw [e] at h1; simp [stD, isTup] at h1
  have h1' : isTup x = true := by simpa using h1
  obtain ⟨ds, rfl⟩ := isTup_inv h1'
  walk_at "st"
  refine i_lent rfl ?_
  walk_at "st"
  refine i_two (fun h2 => ?_) (fun h2 => ?_)
  · refine i_twoT rfl ?_
    walk_at "st"
    refine no _ (fun ⟨s, _, e⟩ => ?_) (Ext.refl _)
    simp only [stD, D.tup.injEq] at e
    rw [e] at h2; simp at h2
  have hl : ds.length = 2 := by
    have : (ds.length : Int) = 2 := by simpa using h2
    omega
  simp only [OkT] at ok
  match ds, hl, ok, no, h with
  | [a, b], _, ok, no, h =>
  walk_at "st"
  refine ⟨a, rfl, ok.1, fun t A1 ht x1 => ?_⟩
  walk_at "st"
  refine i_two (fun h3 => ?_) (fun h3 => ?_)
  · walk_at "st"
    refine no _ (fun ⟨s, hs, e⟩ => ?_) x1
    simp only [stD, D.tup.injEq, List.cons.injEq, and_true] at e
    have : t = true := ht.mpr ⟨_, e.1, fun k => ⟨(hs k).lo, (hs k).hi⟩⟩
    rw [this] at h3; cases h3
  obtain ⟨n, rfl, hn⟩ := ht.mp (by simpa using h3)
  walk_at "st"
  have okb := (ok.2.1).ext x1
  refine i_isit okb ?_
  walk_at "st"
  refine i_two (fun h4 => ?_) (fun h4 => ?_)
  · refine i_twoT rfl ?_
    walk_at "st"
    refine no _ (fun ⟨s, _, e⟩ => ?_) x1
    simp only [stD, D.tup.injEq, List.cons.injEq, and_true] at e
    rw [e.2] at h4; simp [isTup] at h4
  obtain ⟨vs, rfl⟩ := isTup_inv (by simpa using h4 : isTup b = true)
  walk_at "st"
  refine i_lent rfl ?_
  walk_at "st"
  refine i_two (fun h5 => ?_) (fun h5 => ?_)
  · walk_at "st"
    refine no _ (fun ⟨s, _, e⟩ => ?_) x1
    simp only [stD, D.tup.injEq, List.cons.injEq, and_true] at e
    have h5' : (4 : Int) < (vs.length : Int) := by simpa using h5
    rw [e.2, List.length_map] at h5'
    have := versOf_len fun k => (s k).v
    have : (vers s).length ≤ 4 := this
    omega
  have hlen : vs.length ≤ 4 := by
    have : ¬ (4 : Int) < (vs.length : Int) := by simpa using h5
    omega
  walk_at "st"
  refine i_iTK rfl ?_
  simp only [OkT] at okb
  classical
  refine lc_mapD (r := fun d => D.bl (decide (IsVer n d))) (fun _ A' => A' = A1) vs (by omega) (fun _ _ _ => trivial) (fun pre x post e A2 e1 K1 k1 => ?step) (fun A2 e => ?fin) rfl
  case step =>
    subst e1
    walk_at "st"
    refine ⟨_, n, rfl, okb.mem x (by rw [e]; simp), fun b hb => ?_⟩
    have : b = decide (IsVer n x) := by
      cases b with
      | true => exact (decide_eq_true (hb.mp rfl)).symm
      | false => exact (decide_eq_false fun z => Bool.noConfusion (hb.mpr z)).symm
    rw [this]
    exact k1 _ rfl
  subst e
  intro p np
  walk_at "st"
  have em : vs.map (fun d => D.bl (decide (IsVer n d))) = (vs.map fun d => decide (IsVer n d)).map D.bl := by rw [List.map_map]; rfl
  refine i_alll (by rw [ua_same, em]) ?_
  walk_at "st"
  have x2 : Ext A (ua A2 p (.lst (vs.map fun d => D.bl (decide (IsVer n d))))) := x1.more np
  refine i_two (fun h6 => ?_) (fun h6 => ?_)
  · walk_at "st"
    refine no _ (fun ⟨s, hs, e⟩ => ?_) x2
    simp only [stD, D.tup.injEq, List.cons.injEq, and_true] at e
    have en := seenD_inj e.1
    have : (vs.map fun d => decide (IsVer n d)).all id = true := by
      rw [List.all_eq_true]
      intro b hb
      obtain ⟨d, hd, rfl⟩ := List.mem_map.mp hb
      rw [e.2] at hd
      obtain ⟨y, hy, rfl⟩ := List.mem_map.mp hd
      obtain ⟨k, c, w, rfl, hv⟩ := mem_vers hy
      have z := (hs k).ver c w hv
      exact decide_eq_true ⟨k, c, w, rfl, z.1, by rw [en]; exact z.2.1, z.2.2.1, z.2.2.2⟩
    rw [this] at h6; cases h6
  have hall : ∀ d ∈ vs, IsVer n d := fun d hd => by
    have h6' : (vs.map fun d => decide (IsVer n d)).all id = true := by simpa using h6
    exact of_decide_eq_true (List.all_eq_true.mp h6' _ (List.mem_map_of_mem hd))
  -- the versions as numbers
  obtain ⟨xs, rfl⟩ := vers_list vs hall
  rw [List.length_map] at hlen
  have hxs : ∀ x ∈ xs, ∃ (k : Fin 4) (c w : Int), x = [(k.val : Int), c, w] ∧ 1 ≤ c ∧ c ≤ n k ∧ 0 ≤ w ∧ w ≤ 255 := fun x hx => by
    obtain ⟨k, c, w, e, z⟩ := hall (tI x) (List.mem_map_of_mem hx)
    exact ⟨k, c, w, tI_inj e, z⟩
  walk_at "st"
  refine i_lent rfl ?_
  walk_at "st"
  refine i_iR2K ⟨by decide, by decide, by simp only [List.length_map]; omega, by simp only [List.length_map]; omega⟩ ?_
  have er : rngD 1 1 (((xs.map tI).length : Int) - 1).toNat = (List.range (xs.length - 1)).map fun i : Nat => D.int ((i : Int) + 1) := by
    rw [List.length_map]
    unfold rngD
    rw [show ((xs.length : Int) - 1).toNat = xs.length - 1 by omega]
    refine List.map_congr_left fun i _ => ?_
    rw [Int.mul_one, Int.add_comm]
  rw [er]
  have at_ : ∀ i : Nat, i < xs.length → ∀ k : Int, k = (i : Int) → atI (xs.map tI) k = some (tI (xs.getD i [])) := fun i hi k e => by
    rw [e]
    refine atI_nat ?_
    rw [List.getElem?_map, getE hi]
    simp [List.getD, getE hi]
  refine lc_map (f := fun i : Nat => D.int ((i : Int) + 1)) (r := fun i => D.bl (decide ((xs.getD i []).getD 0 0 < (xs.getD (i + 1) []).getD 0 0))) (fun _ A' => A' = ua A2 p (.lst ((xs.map tI).map fun d => D.bl (decide (IsVer n d))))) (List.range (xs.length - 1)) (by rw [List.length_range]; omega) (fun _ _ _ => trivial) (fun pre x post e A3 e1 K1 k1 => ?step2) (fun A3 e => ?fin2) rfl
  case step2 =>
    subst e1
    have hx : x < xs.length - 1 := by
      have : x ∈ List.range (xs.length - 1) := by rw [e]; simp
      simpa using this
    have g1 : xs.getD x [] ∈ xs := by simp only [List.getD, getE (show x < xs.length by omega), Option.getD_some]; exact List.getElem_mem _
    have g2 : xs.getD (x + 1) [] ∈ xs := by simp only [List.getD, getE (show x + 1 < xs.length by omega), Option.getD_some]; exact List.getElem_mem _
    obtain ⟨k, c, w, ea, _⟩ := hxs _ g1
    obtain ⟨k', c', w', eb, _⟩ := hxs _ g2
    walk_at "st"
    refine i_ixt rfl (at_ x (by omega) _ (by omega)) ?_
    walk_at "st"
    rw [ea]
    refine i_ixt rfl rfl ?_
    walk_at "st"
    refine i_ixt rfl (at_ (x + 1) (by omega) _ (by omega)) ?_
    walk_at "st"
    rw [eb]
    refine i_ixt rfl rfl ?_
    walk_at "st"
    rw [ea, eb] at k1
    exact k1 _ rfl
  subst e
  intro q nq
  walk_at "st"
  have em2 : (List.range (xs.length - 1)).map (fun i => D.bl (decide ((xs.getD i []).getD 0 0 < (xs.getD (i + 1) []).getD 0 0))) = ((List.range (xs.length - 1)).map fun i => decide ((xs.getD i []).getD 0 0 < (xs.getD (i + 1) []).getD 0 0)).map D.bl := by rw [List.map_map]; rfl
  refine i_alll (by rw [ua_same, em2]) ?_
  refine h _ _ ?_ (x2.more nq)
  have adj := adj_pair xs
  have key : ((List.range (xs.length - 1)).map fun i => decide ((xs.getD i []).getD 0 0 < (xs.getD (i + 1) []).getD 0 0)).all id = true ↔ xs.Pairwise fun x y => x.getD 0 0 < y.getD 0 0 := by
    rw [← adj, List.all_eq_true]
    constructor
    · intro ha i hi
      exact of_decide_eq_true (ha _ (List.mem_map_of_mem (List.mem_range.mpr hi)))
    · intro ha b hb
      obtain ⟨i, hi, rfl⟩ := List.mem_map.mp hb
      exact decide_eq_true (ha i (List.mem_range.mp hi))
  rw [key]
  constructor
  · intro hp
    obtain ⟨f, e, hf⟩ := vers_of xs hxs hp
    refine ⟨fun k => ⟨n k, f k⟩, fun k => ⟨(hn k).1, (hn k).2, fun c w hv => hf k c w hv⟩, ?_⟩
    rw [← e]; rfl
  · rintro ⟨s, hs, e⟩
    simp only [stD, D.tup.injEq, List.cons.injEq, and_true] at e
    rw [tIs_inj e.2]
    exact versOf_pair _
end Mu

namespace Mu
open PySem L2
local macro_rules | `(tactic| walk_at "st1") => `(tactic| first
  | with_reducible refine i_seq ?_ | with_reducible refine i_bin ?_ | with_reducible refine i_var rfl ?_ | with_reducible refine i_c ?_ | with_reducible refine i_cons ?_ | with_reducible refine i_nil ?_
  | with_reducible refine i_call ?_ | with_reducible refine i_cb ?_ | with_reducible refine i_test ?_ | with_reducible refine i_bl ?_ | with_reducible refine i_asg ?_ | with_reducible refine i_gname ?_
  | with_reducible refine i_sif ?_ | with_reducible refine i_ret ?_ | with_reducible refine i_drop ?_ | with_reducible refine i_lm ?_ | with_reducible refine i_snil ?_ | with_reducible refine i_retN ?_
  | with_reducible refine i_tup ?_ | with_reducible refine i_lst ?_ | with_reducible refine i_and ?_ | with_reducible refine i_or ?_ | with_reducible refine i_not ?_ | with_reducible refine i_andV ?_ | with_reducible refine i_orV ?_
  | with_reducible refine i_notV ?_ | with_reducible refine i_if ?_ | with_reducible refine i_chain ?_ | with_reducible refine i_tru ?_ | with_reducible refine i_trub ?_ | with_reducible refine i_yes ?_ | with_reducible refine i_sl ?_
  | with_reducible refine i_ono ?_ | with_reducible refine i_oso ?_ | with_reducible refine i_ex_int ?_ | with_reducible refine i_break ?_ | with_reducible refine i_aug rfl ?_ | with_reducible refine i_gtup rfl ?_
  | with_reducible refine i_gscons ?_ | with_reducible refine i_gsnil ?_ | with_reducible refine i_gsub ?_ | with_reducible refine i_for ?_ | with_reducible refine i_lc ?_ | with_reducible refine i_iT ?_ | with_reducible refine i_iL ?_ | with_reducible refine i_iR1 ?_ | with_reducible refine i_iR2 ?_ | with_reducible refine i_iR3 ?_
  | with_reducible refine i_dg ?_ | with_reducible refine i_din ?_ | with_reducible refine i_dnew ?_ | with_reducible refine i_dput ?_
  | with_reducible refine i_raise ?_ | with_reducible refine i_raiseK ?_ | with_reducible refine i_tryAs ?_ | with_reducible refine i_tryOnly ?_ | with_reducible refine i_err rfl ?_
  | with_reducible refine i_fld ?_ | with_reducible refine i_sfld ?_ | with_reducible refine i_meth ?_ | with_reducible refine i_new ?_ | with_reducible refine i_neg ?_
  | with_reducible refine i_add ?_ | with_reducible refine i_sub ?_ | with_reducible refine i_cmp ?_ | with_reducible refine i_int1 ?_ | with_reducible refine i_int2 ?_ | with_reducible refine i_isb ?_ | with_reducible refine i_eqi ?_ | with_reducible refine i_eqb ?_ | refine i_ixt rfl rfl ?_)
local macro_rules | `(tactic| walk_at "st") => `(tactic| repeat (walk_at "st1"))
local macro_rules | `(tactic| walk_at "tt") => `(tactic| repeat (first | walk_at "st1" | refine i_len (Nat.le_of_ble_eq_true rfl) ?_))
/-! ## the law's draws -/
def RowAt (A : AHp) (r : Addr) : Prop := ∃ (p : Int) (xs : List Int), A r = some (.lst ((p :: xs).map D.int)) ∧ 1 ≤ p
theorem RowAt.r {r q : Addr} {A A' : AHp} (h : RowAt A r) (x : ExtR q A A') (n : r ≠ q) : RowAt A' r := by
  obtain ⟨p, xs, h1, h2⟩ := h
  exact ⟨p, xs, x r _ n h1, h2⟩
theorem RowAt.e {r : Addr} {A A' : AHp} (h : RowAt A r) (x : Ext A A') : RowAt A' r := by
  obtain ⟨p, xs, h1, h2⟩ := h
  exact ⟨p, xs, x r _ h1, h2⟩
def sp_q_stream : ASp := fun ds A Q _ => ∃ ns : List Int, ds = [.fls (ns.map D.int)] ∧ ns.length ≤ 63 ∧ ∀ A' r, Ext A A' → A r = none → RowAt A' r → Q (.ref r) A'
def T_q_stream : TSA := sSeq (sSet 1 (xLst (xsCons (xC (.int 1)) (xsNil)))) (sSeq (sFor (iL (xSl (xVar 0) (oNone) (oSome (xC (.int 63))))) (gName 2) (sSeq (sSet 3 (xCB (int1A absI) (xsCons (xCB (int1A fun i => i) (xsCons (xVar 2) (xsNil))) (xsNil)))) (sFor (iR1 (xsCons (xC (.int 60)) (xsNil))) (gName 4) (sSeq (sDrop (xLM appA (xVar 1) (xsCons (xBin modA (xVar 3) (xC (.int 59))) (xsNil)))) (sSeq (sSet 3 (xBin divA (xVar 3) (xC (.int 59)))) (sIf (xTest (xBin (eqA id) (xVar 3) (xC (.int 0)))) (sBreak) (sNil))))))) (sSeq (sSet 5 (xC (.int 7))) (sSeq (sFor (iL (xSl (xVar 0) (oNone) (oSome (xC (.int 63))))) (gName 2) (sSet 5 (xBin modA (xCB (int1A fun i => i) (xsCons (xBin addA (xBin addA (xBin mulA (xVar 5) (xC (.int 131))) (xVar 2)) (xC (.int 17))) (xsNil))) (xC (.int 1000003))))) (sSeq (sFor (iR1 (xsCons (xC (.int 150)) (xsNil))) (gName 4) (sSeq (sSet 5 (xBin modA (xCB (int1A fun i => i) (xsCons (xBin addA (xBin addA (xBin mulA (xVar 5) (xC (.int 48271))) (xBin mulA (xVar 4) (xC (.int 69621)))) (xC (.int 11))) (xsNil))) (xC (.int 2147483647)))) (sDrop (xLM appA (xVar 1) (xsCons (xBin modA (xBin divA (xVar 5) (xC (.int 1009))) (xC (.int 59))) (xsNil)))))) (sRet (xVar 1))))))
theorem l_q_stream : ∀ ds A Q E, sp_q_stream ds A Q E → ds.length = ["_law_script"].length := by
  rintro ds A Q E ⟨n, rfl, _⟩; rfl
theorem cut_ints (ns : List Int) (lo hi : Option Int) : ∃ ms : List Int, cutD (ns.map D.int) lo hi = ms.map D.int ∧ ms.length ≤ ns.length :=
  ⟨(ns.drop (HT.sIx (ns.map D.int).length 0 lo)).take (HT.sIx (ns.map D.int).length (ns.map D.int).length hi - HT.sIx (ns.map D.int).length 0 lo), by unfold cutD; rw [List.map_take, List.map_drop], by
    rw [List.length_take, List.length_drop]; omega⟩
theorem app_int (p : Int) (xs : List Int) (y : Int) : (p :: xs).map D.int ++ [D.int y] = (p :: (xs ++ [y])).map D.int := by simp
theorem rng_nat {n : Nat} : rngD 0 1 n = (List.range n).map fun i : Nat => D.int (i : Int) := by
  unfold rngD
  refine List.map_congr_left fun i _ => ?_
  rw [Int.mul_one, Int.zero_add]
theorem w_q_stream : ∀ ds A Q E, sp_q_stream ds A Q E → T_q_stream (fun _ c pl A' => E c pl A') (bodyE Q) (envA 6 ds) A := by
  rintro ds A Q E ⟨ns, rfl, hl, h⟩
  unfold T_q_stream
  walk_at "st"
  refine ⟨by decide, fun r nr => ?_⟩
  walk_at "st"
  refine .inl ⟨_, .inr rfl, fun q nq => ?_⟩
  obtain ⟨ms, em, lm⟩ := cut_ints ns none (some 63)
  rw [em]
  have nrq : r ≠ q := ne_free ua_same nq
  refine i_iL_l ua_same ?_
  let J : Nat → AEnv → AHp → Prop := fun n ρ A' => ∃ (o2 o3 o4 o5 : Option D) (xs : List Int), ρ = [some (.fls (ns.map D.int)), some (.ref r), o2, o3, o4, o5] ∧ Ext A (ud A' r) ∧ A' q = some (.lst (ms.map D.int)) ∧ A' r = some (.lst ((1 :: xs).map D.int)) ∧ xs.length ≤ n
  have xud : ∀ {A1 : AHp}, Ext A A1 → Ext A (ud A1 r) := fun x a o e => by
    have ne : a ≠ r := ne_free e nr
    rw [ud_ne ne]; exact x a o e
  refine for_rule (f := D.int) (fun pre ρ A' => J (60 * pre.length) ρ A') ms (fun pre ρ A' ⟨_, _, _, _, _, _, _, h1, _, _⟩ => h1) (fun pre x post e ρ A1 hJ NX nx => ?step) (fun ρ A1 hJ => ?fin)
    ⟨none, none, none, none, [], rfl, xud ((Ext.new nr).more nq), ua_same, by rw [ua_ne nrq, ua_same]; rfl, by simp⟩
  case step =>
    obtain ⟨o2, o3, o4, o5, xs, rfl, x1, h1, h2, h3⟩ := hJ
    walk_at "st"
    refine i_iR1K (by decide) (by decide) ?_
    have fin : ∀ ρ' A', J (60 * (pre.length + 1)) ρ' A' → NX ρ' A' := fun ρ' A' hj => nx ρ' A' (by simpa using hj)
    rw [show rngD 0 1 (Int.toNat 60) = _ from rng_nat (n := 60)]
    refine for_rule (f := fun i : Nat => D.int (i : Int)) (fun pre' ρ' A' => (∃ v, ρ'[3]? = some (some (.int v))) ∧ J (60 * pre.length + pre'.length) ρ' A') (List.range 60) (fun _ _ _ _ => trivial) (fun pre' x' post' e' ρ' A' hJ' NX' nx' => ?step1) (fun ρ' A' hJ' => ?fin1)
      ⟨⟨_, rfl⟩, some (.int x), some _, o4, o5, xs, rfl, x1, h1, h2, by simpa using h3⟩
    case step1 =>
      obtain ⟨⟨v, hv⟩, o2, o3, o4, o5, xs, rfl, x1, h1, h2, h3⟩ := hJ'
      have hv' : o3 = some (.int v) := by simpa using hv
      subst hv'
      walk_at "st"
      refine i_lsr h2 ?_
      walk_at "st"
      refine i_mod (by decide) ?_
      walk_at "st"
      have lpre : pre.length + 1 ≤ ms.length := by rw [e]; simp
      have lpre' : pre'.length + 1 ≤ 60 := by
        have : (List.range 60).length = (pre' ++ x' :: post').length := by rw [← e']
        simp at this; omega
      refine i_app h2 (by simp only [List.length_map, List.length_cons]; rw [sizeLine_eq]; omega) ?_
      walk_at "st"
      refine i_div (by decide) (by decide) ?_
      walk_at "st"
      rw [app_int]
      have hJ2 : J (60 * pre.length + (pre' ++ [x']).length) [some (.fls (ns.map D.int)), some (.ref r), o2, some (.int (v / 59)), some (.int x'), o5] (ua A' r (.lst ((1 :: (xs ++ [v % 59])).map D.int))) :=
        ⟨o2, _, _, o5, xs ++ [v % 59], rfl, fun a o ea => by
          have ne : a ≠ r := ne_free ea nr
          have := x1 a o ea
          rw [ud_ne ne] at this
          rw [ud_ne ne, ua_ne ne]; exact this, by rw [ua_ne nrq.symm]; exact h1, ua_same, by simp only [List.length_append, List.length_singleton]; omega⟩
      refine i_two (fun hb => ?_) (fun hb => ?_)
      · walk_at "st"
        refine fin _ _ ?_
        obtain ⟨p2, p3, p4, p5, ys, e1, e2, e3, e4, e5⟩ := hJ2
        exact ⟨p2, p3, p4, p5, ys, e1, e2, e3, e4, by simp only [List.length_append, List.length_singleton] at e5; omega⟩
      · walk_at "st"
        exact nx' _ _ ⟨⟨_, rfl⟩, hJ2⟩
    case fin1 =>
      obtain ⟨_, hJ'⟩ := hJ'
      refine fin ρ' A' ?_
      obtain ⟨p2, p3, p4, p5, ys, e1, e2, e3, e4, e5⟩ := hJ'
      exact ⟨p2, p3, p4, p5, ys, e1, e2, e3, e4, by simp only [List.length_range] at e5; omega⟩
  case fin =>
    obtain ⟨o2, o3, o4, o5, xs, rfl, x1, h1, h2, h3⟩ := hJ
    walk_at "st"
    refine .inl ⟨_, .inr rfl, fun q2 nq2 => ?_⟩
    rw [em]
    have nrq2 : r ≠ q2 := ne_free h2 nq2
    refine i_iL_l ua_same ?_
    let J2 : AEnv → AHp → Prop := fun ρ A' => ∃ (o2 o3 o4 : Option D) (v : Int) (xs : List Int), ρ = [some (.fls (ns.map D.int)), some (.ref r), o2, o3, o4, some (.int v)] ∧ Ext A (ud A' r) ∧ A' q2 = some (.lst (ms.map D.int)) ∧ A' r = some (.lst ((1 :: xs).map D.int)) ∧ xs.length ≤ 60 * ms.length
    refine for_rule (f := D.int) (fun pre ρ A' => J2 ρ A') ms (fun pre ρ A' ⟨_, _, _, _, _, _, _, h1, _, _⟩ => h1) (fun pre x post e ρ A2 hJ NX nx => ?step2) (fun ρ A2 hJ => ?fin2)
      ⟨o2, o3, o4, 7, xs, rfl, fun a o ea => by
        have ne : a ≠ r := ne_free ea nr
        have h5 := x1 a o ea
        rw [ud_ne ne] at h5
        rw [ud_ne ne, ua_ne (ne_free h5 nq2)]; exact h5, ua_same, by rw [ua_ne nrq2]; exact h2, h3⟩
    case step2 =>
      obtain ⟨o2, o3, o4, v, xs, rfl, x1, h1, h2, h3⟩ := hJ
      walk_at "st"
      refine i_mul (.inl (.inr (by decide))) ?_
      walk_at "st"
      refine i_mod (by decide) ?_
      walk_at "st"
      exact nx _ _ ⟨_, _, _, _, xs, rfl, x1, h1, h2, h3⟩
    case fin2 =>
      obtain ⟨o2, o3, o4, v, xs, rfl, x1, h1, h2, h3⟩ := hJ
      walk_at "st"
      refine i_iR1K (by decide) (by decide) ?_
      rw [show rngD 0 1 (Int.toNat 150) = _ from rng_nat (n := 150)]
      let J3 : Nat → AEnv → AHp → Prop := fun n ρ A' => ∃ (o2 o3 o4 : Option D) (v : Int) (xs : List Int), ρ = [some (.fls (ns.map D.int)), some (.ref r), o2, o3, o4, some (.int v)] ∧ Ext A (ud A' r) ∧ A' r = some (.lst ((1 :: xs).map D.int)) ∧ xs.length ≤ 60 * ms.length + n
      refine for_rule (f := fun i : Nat => D.int (i : Int)) (fun pre' ρ' A' => J3 pre'.length ρ' A') (List.range 150) (fun _ _ _ _ => trivial) (fun pre' x' post' e' ρ' A' hJ' NX' nx' => ?step3) (fun ρ' A' hJ' => ?fin3)
        ⟨o2, o3, o4, v, xs, rfl, x1, h2, h3⟩
      case step3 =>
        obtain ⟨o2, o3, o4, v, xs, rfl, x1, h2, h3⟩ := hJ'
        walk_at "st"
        refine i_mul (.inl (.inr (by decide))) ?_
        walk_at "st"
        refine i_mul (.inl (.inr (by decide))) ?_
        walk_at "st"
        refine i_mod (by decide) ?_
        walk_at "st"
        refine i_lsr h2 ?_
        walk_at "st"
        refine i_div (by decide) (by decide) ?_
        walk_at "st"
        refine i_mod (by decide) ?_
        walk_at "st"
        have lpre' : pre'.length + 1 ≤ 150 := by
          have : (List.range 150).length = (pre' ++ x' :: post').length := by rw [← e']
          simp at this; omega
        refine i_app h2 (by simp only [List.length_map, List.length_cons]; rw [sizeLine_eq]; omega) ?_
        walk_at "st"
        rw [app_int]
        refine nx' _ _ ⟨_, _, _, _, _, rfl, fun a o ea => ?_, ua_same, by simp only [List.length_append, List.length_singleton]; omega⟩
        have ne : a ≠ r := ne_free ea nr
        have := x1 a o ea
        rw [ud_ne ne] at this
        rw [ud_ne ne, ua_ne ne]; exact this
      case fin3 =>
        obtain ⟨o2, o3, o4, v, xs, rfl, x1, h2, h3⟩ := hJ'
        walk_at "st"
        refine h _ r (fun a o ea => ?_) nr ⟨1, xs, h2, by decide⟩
        have ne : a ≠ r := ne_free ea nr
        have := x1 a o ea
        rw [ud_ne ne] at this
        exact this
/-! ## one draw -/
def sp_q_take : ASp := fun ds A Q _ => ∃ (r : Addr) (m : Int), ds = [.ref r, .int m] ∧ RowAt A r ∧ 0 < m ∧ ∀ (v : Int) A', 0 ≤ v → v < m → ExtR r A A' → RowAt A' r → Q (.int v) A'
def T_q_take : TSA := sSeq (sIf (xTest (xBin ltA (xBin ixB (xVar 0) (xC (.int 0))) (xCB lenA (xsCons (xVar 0) (xsNil))))) (sSeq (sAsg (xBin addA (xBin ixB (xVar 0) (xC (.int 0))) (xC (.int 1))) (gSubL (xVar 0) (xC (.int 0)))) (sRet (xBin modA (xCB (int1A fun i => i) (xsCons (xBin ixB (xVar 0) (xBin subA (xBin ixB (xVar 0) (xC (.int 0))) (xC (.int 1)))) (xsNil))) (xVar 1)))) (sNil)) (sRet (xC (.int 0)))
theorem l_q_take : ∀ ds A Q E, sp_q_take ds A Q E → ds.length = ["_law_row", "_law_many"].length := by
  rintro ds A Q E ⟨n, m, rfl, _⟩; rfl
theorem w_q_take : ∀ ds A Q E, sp_q_take ds A Q E → T_q_take (fun _ c pl A' => E c pl A') (bodyE Q) (envA 2 ds) A := by
  rintro ds A Q E ⟨r, m, rfl, ⟨p, xs, hr, hp⟩, hm, h⟩
  unfold T_q_take
  walk_at "st"
  refine i_ixl hr at_0 ?_
  walk_at "st"
  refine i_lenl hr ?_
  walk_at "st"
  refine i_two (fun h1 => ?_) (fun h1 => ?_)
  · have h1' : p < (((p :: xs).map D.int).length : Int) := of_decide_eq_true h1
    simp only [List.length_map, List.length_cons] at h1'
    walk_at "st"
    refine i_ixl hr at_0 ?_
    walk_at "st"
    refine i_gsubK (j := 0) hr (ixN_nat (j := 0) (by simp)) ?_
    walk_at "st"
    have e0 : ((p :: xs).map D.int).set 0 (.int (p + 1)) = ((p + 1) :: xs).map D.int := rfl
    rw [e0]
    refine i_ixl ua_same at_0 ?_
    walk_at "st"
    have hn : p.toNat < ((p + 1) :: xs).length := by simp only [List.length_cons]; omega
    have e1 : atI (((p + 1) :: xs).map D.int) (p + 1 - 1) = some (.int (((p + 1) :: xs)[p.toNat])) := by
      rw [show p + 1 - 1 = ((p.toNat : Nat) : Int) by omega]
      exact atI_nat (by rw [List.getElem?_map, List.getElem?_eq_getElem hn]; rfl)
    refine i_ixl ua_same e1 ?_
    walk_at "st"
    refine i_mod hm ?_
    exact h _ _ (Int.emod_nonneg _ (by omega)) (Int.emod_lt_of_pos _ hm) .set ⟨p + 1, xs, ua_same, by omega⟩
  · walk_at "st"
    exact h 0 A (by decide) hm (.refl _ _) ⟨p, xs, hr, hp⟩
/-! ## a drawn state -/
structure GenSl (k : Fin 4) (x : Sl) : Prop where
  lo : 0 ≤ x.n
  hi : x.n ≤ 6
  ver : ∀ c w, x.v = some (c, w) → 1 ≤ c ∧ c ≤ x.n ∧ w = ((k.val : Int) * 61 + c * 17) % 256
def GenSt (s : Sta) : Prop := ∀ k, GenSl k (s k)
theorem GenSl.ok {k : Fin 4} {x : Sl} (h : GenSl k x) : SlOk x := ⟨h.lo, by have := h.hi; omega, fun c w e => by
  obtain ⟨h1, h2, h3⟩ := h.ver c w e
  omega⟩
theorem GenSt.ok {s : Sta} (h : GenSt s) : StOk s := fun k => (h k).ok
def sp_q_state : ASp := fun ds A Q _ => ∃ (r : Addr), ds = [.ref r] ∧ RowAt A r ∧ ∀ (s : Sta) A', GenSt s → ExtR r A A' → RowAt A' r → Q (stD s) A'
def T_q_state : TSA := sSeq (sSet 1 (xLc 2 (iR1 (xsCons (xC (.int 4)) (xsNil))) xYes (xBin mulA (xCall sp_q_take (xsCons (xVar 0) (xsCons (xC (.int 4)) (xsNil)))) (xCall sp_q_take (xsCons (xVar 0) (xsCons (xC (.int 3)) (xsNil))))))) (sSeq (sSet 3 (xLst (xsNil))) (sSeq (sFor (iR1 (xsCons (xC (.int 4)) (xsNil))) (gName 2) (sIf (xAnd (xTest (xBin gtA (xBin ixB (xVar 1) (xVar 2)) (xC (.int 0)))) (xTest (xBin (eqA id) (xCall sp_q_take (xsCons (xVar 0) (xsCons (xC (.int 2)) (xsNil)))) (xC (.int 0))))) (sSeq (sSet 4 (xBin addA (xC (.int 1)) (xCall sp_q_take (xsCons (xVar 0) (xsCons (xBin ixB (xVar 1) (xVar 2)) (xsNil)))))) (sDrop (xLM appA (xVar 3) (xsCons (xTup (xsCons (xVar 2) (xsCons (xVar 4) (xsCons (xBin modA (xCB (int1A fun i => i) (xsCons (xBin addA (xBin mulA (xVar 2) (xC (.int 61))) (xBin mulA (xVar 4) (xC (.int 17)))) (xsNil))) (xC (.int 256))) (xsNil))))) (xsNil))))) (sNil))) (sRet (xTup (xsCons (xCB tupA (xsCons (xVar 1) (xsNil))) (xsCons (xCB tupA (xsCons (xVar 3) (xsNil))) (xsNil)))))))
theorem l_q_state : ∀ ds A Q E, sp_q_state ds A Q E → ds.length = ["_law_row"].length := by
  rintro ds A Q E ⟨n, rfl, _⟩; rfl
def upTo (f : Fin 4 → Option (Int × Int)) (l : List (Fin 4)) : List (List Int) := l.flatMap fun k => verO (k.val : Int) (f k)
theorem upTo_f4 (f : Fin 4 → Option (Int × Int)) : upTo f f4 = versOf f := by
  simp only [upTo, f4, versOf, List.flatMap_cons, List.flatMap_nil, List.append_nil]; rfl
theorem list4 {l : List Int} (h : l.length = 4) : ∃ n : Fin 4 → Int, l = [n 0, n 1, n 2, n 3] := by
  match l, h with
  | [a, b, c, d], _ => exact ⟨fun k => match k with | 0 => a | 1 => b | 2 => c | 3 => d, rfl⟩
theorem mul_draw {a b : Int} (h1 : 0 ≤ a) (h2 : a < 4) (h3 : 0 ≤ b) (h4 : b < 3) : 0 ≤ a * b ∧ a * b ≤ 6 := by
  have : a = 0 ∨ a = 1 ∨ a = 2 ∨ a = 3 := by omega
  rcases this with rfl | rfl | rfl | rfl <;> omega
theorem f4_nodup : f4.Nodup := by decide
theorem w_q_state : ∀ ds A Q E, sp_q_state ds A Q E → T_q_state (fun _ c pl A' => E c pl A') (bodyE Q) (envA 5 ds) A := by
  rintro ds A Q E ⟨r, rfl, hr, h⟩
  unfold T_q_state
  walk_at "st"
  refine i_iR1K (by decide) (by decide) ?_
  rw [rng4]
  refine lc_rel (fun k : Fin 4 => D.int (k.val : Int)) (fun pre acc A' => ExtR r A A' ∧ RowAt A' r ∧ ∃ l : List Int, acc = l.map D.int ∧ l.length = pre.length ∧ ∀ i ∈ l, 0 ≤ i ∧ i ≤ 6) f4 (by decide) (fun _ _ _ _ => trivial)
    (fun pre acc A' ⟨_, _, l, e, e2, _⟩ => by rw [e, List.length_map]; omega) (fun pre x post e acc A1 ⟨x1, r1, l, e1, e2, e3⟩ K1 K2 k1 _ => ?step) (fun acc A1 ⟨x1, r1, l, e1, e2, e3⟩ => ?fin)
    ⟨.refl _ _, hr, [], rfl, rfl, fun _ z => by cases z⟩
  case step =>
    subst e1
    walk_at "st"
    refine i_twoT rfl ?_
    walk_at "st"
    refine ⟨r, 4, rfl, r1, by decide, fun v A2 v0 v1 x2 r2 => ?_⟩
    walk_at "st"
    refine ⟨r, 3, rfl, r2, by decide, fun u A3 u0 u1 x3 r3 => ?_⟩
    walk_at "st"
    have hb := mul_draw v0 v1 u0 u1
    refine i_mul (.inl (.inl ⟨by omega, by omega⟩)) ?_
    refine k1 _ _ ⟨(x1.trans x2).trans x3, r3, l ++ [v * u], by simp, by simp [e2], fun i hi => ?_⟩
    rcases List.mem_append.mp hi with hi | hi
    · exact e3 i hi
    · rw [List.mem_singleton.mp hi]; exact hb
  case fin =>
    subst e1
    obtain ⟨n, rfl⟩ := list4 (by rw [e2]; rfl)
    have hn : ∀ k, 0 ≤ n k ∧ n k ≤ 6 := fun k => e3 (n k) (by
      match k with
      | 0 => simp
      | 1 => simp
      | 2 => simp
      | 3 => simp)
    intro p np
    walk_at "st"
    refine ⟨by decide, fun q nq => ?_⟩
    obtain ⟨p0, xs0, hr1, hp0⟩ := r1
    have nrp : r ≠ p := ne_free hr1 np
    have nrq : r ≠ q := ne_free (by rw [ua_ne nrp]; exact hr1) nq
    have npq : p ≠ q := ne_free ua_same nq
    walk_at "st"
    refine i_iR1K (by decide) (by decide) ?_
    rw [rng4]
    let L := [D.int (n 0), .int (n 1), .int (n 2), .int (n 3)]
    refine for_rule (f := fun k : Fin 4 => D.int (k.val : Int)) (fun pre ρ A' => ∃ (o2 o4 : Option D) (f : Fin 4 → Option (Int × Int)), ρ = [some (.ref r), some (.ref p), o2, some (.ref q), o4] ∧ (∀ a o, a ≠ r → A a = some o → A' a = some o ∧ a ≠ p ∧ a ≠ q) ∧ RowAt A' r ∧ A' p = some (.lst L) ∧
        A' q = some (.lst ((upTo f pre).map tI)) ∧ (∀ k c w, f k = some (c, w) → 1 ≤ c ∧ c ≤ n k ∧ w = ((k.val : Int) * 61 + c * 17) % 256) ∧ ∀ k, k ∉ pre → f k = none) f4 (fun _ _ _ _ => trivial)
      (fun pre x post e ρ A2 hI NX nx => ?step2) (fun ρ A2 hI => ?fin2) ⟨none, none, fun _ => none, rfl, fun a o ne ea => ?_, ⟨p0, xs0, by rw [ua_ne nrq, ua_ne nrp]; exact hr1, hp0⟩, by rw [ua_ne npq]; exact ua_same, ua_same, fun k c w z => (by cases z), fun _ _ => rfl⟩
    case step2 =>
      obtain ⟨o2, o4, f, rfl, x2, r2, h1, h2, h3, h4⟩ := hI
      walk_at "st"
      refine i_ixl h1 (at4 n x) ?_
      walk_at "st"
      have hxp : x ∉ pre := fun z => by
        have hd := f4_nodup
        rw [e, List.nodup_append] at hd
        exact hd.2.2 x z x List.mem_cons_self rfl
      have up1 : upTo f (pre ++ [x]) = upTo f pre := by
        simp only [upTo, List.flatMap_append, List.flatMap_cons, List.flatMap_nil, List.append_nil]
        rw [h4 x hxp]; simp [verO]
      have hno : ∀ (A' : AHp) (o4' : Option D), (∀ a o, a ≠ r → A a = some o → A' a = some o ∧ a ≠ p ∧ a ≠ q) → RowAt A' r → A' p = some (.lst L) → A' q = some (.lst ((upTo f pre).map tI)) → NX [some (.ref r), some (.ref p), some (.int (x.val : Int)), some (.ref q), o4'] A' :=
        fun A' o4' z1 z2 z3 z4 => nx _ _ ⟨_, o4', f, rfl, z1, z2, z3, by rw [up1]; exact z4, h3, fun k hk => h4 k fun z => hk (List.mem_append_left _ z)⟩
      refine i_two (fun h5 => ?_) (fun h5 => ?_)
      · have h5' : 0 < n x := of_decide_eq_true h5
        walk_at "st"
        refine ⟨r, 2, rfl, r2, by decide, fun v A3 v0 v1 x3 r3 => ?_⟩
        have g1 : A3 p = some (.lst L) := x3 _ _ nrp.symm h1
        have g2 := x3 _ _ nrq.symm h2
        have g0 : ∀ a o, a ≠ r → A a = some o → A3 a = some o ∧ a ≠ p ∧ a ≠ q := fun a o ne ea => ⟨x3 a o ne (x2 a o ne ea).1, (x2 a o ne ea).2⟩
        walk_at "st"
        refine i_two (fun h6 => ?_) (fun h6 => ?_)
        · walk_at "st"
          refine i_ixl g1 (at4 n x) ?_
          walk_at "st"
          refine ⟨r, n x, rfl, r3, h5', fun u A4 u0 u1 x4 r4 => ?_⟩
          have f1 : A4 p = some (.lst L) := x4 _ _ nrp.symm g1
          have f2 := x4 _ _ nrq.symm g2
          walk_at "st"
          refine i_lsr f2 ?_
          have := x.isLt
          walk_at "st"
          refine i_mul (.inl (.inr (by decide))) ?_
          walk_at "st"
          refine i_mul (.inl (.inr (by decide))) ?_
          walk_at "st"
          refine i_mod (by decide) ?_
          walk_at "st"
          refine ⟨by simp only [List.length_cons, List.length_nil, sizeLine_eq]; omega, ?_⟩
          walk_at "st"
          have lq : (upTo f pre).length ≤ pre.length := by
            clear h2 h3 h4 e up1 hno g2 f2 hxp nx
            induction pre with
            | nil => simp [upTo]
            | cons a l ih =>
              simp only [upTo, List.flatMap_cons, List.length_append, List.length_cons]
              have := verO_len (a.val : Int) (f a)
              simp only [upTo] at ih
              omega
          have lpre : pre.length ≤ 4 := by
            have : f4.length = (pre ++ x :: post).length := by rw [← e]
            simp [f4] at this; omega
          refine i_app f2 (by rw [List.length_map, sizeLine_eq]; omega) ?_
          walk_at "st"
          let f' : Fin 4 → Option (Int × Int) := fun k => if k = x then some (1 + u, ((x.val : Int) * 61 + (1 + u) * 17) % 256) else f k
          have up2 : upTo f' (pre ++ [x]) = upTo f pre ++ [[(x.val : Int), 1 + u, ((x.val : Int) * 61 + (1 + u) * 17) % 256]] := by
            simp only [upTo, List.flatMap_append, List.flatMap_cons, List.flatMap_nil, List.append_nil]
            have e1 : verO (x.val : Int) (f' x) = [[(x.val : Int), 1 + u, ((x.val : Int) * 61 + (1 + u) * 17) % 256]] := by simp [f', verO]
            rw [e1]
            congr 1
            clear h2 h3 h4 e up1 hno g2 f2 nx lq lpre
            induction pre with
            | nil => rfl
            | cons a l ih =>
              have hxa : ¬ a = x := fun z => hxp (by rw [z]; exact List.mem_cons_self)
              simp only [List.flatMap_cons]
              rw [ih fun z => hxp (List.mem_cons_of_mem _ z)]
              simp [f', hxa]
          refine nx _ _ ⟨_, _, f', rfl, fun a o ne ea => ?_, ?_, ?_, ?_, fun k c w hk => ?_, fun k hk => ?_⟩
          · have z := g0 a o ne ea
            exact ⟨by rw [ua_ne z.2.2]; exact x4 a o ne z.1, z.2⟩
          · obtain ⟨p1, xs1, z1, z2⟩ := r4
            exact ⟨p1, xs1, by rw [ua_ne nrq]; exact z1, z2⟩
          · rw [ua_ne npq]; exact f1
          · rw [ua_same, up2, List.map_append]; rfl
          · by_cases hkx : k = x
            · subst hkx
              simp only [f', if_true] at hk
              cases hk
              exact ⟨by omega, by omega, rfl⟩
            · simp only [f', if_neg hkx] at hk
              exact h3 k c w hk
          · have hkx : ¬ k = x := fun z => hk (by rw [z]; simp)
            simp only [f', if_neg hkx]
            exact h4 k fun z => hk (List.mem_append_left _ z)
        · walk_at "st"
          exact hno _ _ g0 r3 g1 g2
      · refine i_twoF rfl ?_
        walk_at "st"
        exact hno _ _ x2 r2 h1 h2
    case fin2 =>
      obtain ⟨o2, o4, f, rfl, x2, r2, h1, h2, h3, h4⟩ := hI
      walk_at "st"
      refine i_tupl h1 ?_
      walk_at "st"
      refine i_tupl h2 ?_
      walk_at "st"
      refine ⟨by simp only [List.length_cons, List.length_nil, sizeLine_eq]; omega, ?_⟩
      rw [upTo_f4]
      exact h (fun k => ⟨n k, f k⟩) A2 (fun k => ⟨(hn k).1, (hn k).2, fun c w hv => h3 k c w hv⟩) (fun a o ne ea => (x2 a o ne ea).1) r2
    · have z1 := x1 a o ne ea
      have z2 := ne_free z1 np
      have z3 := ne_free (show ua A1 p (.lst L) a = some o by rw [ua_ne z2]; exact z1) nq
      exact ⟨by rw [ua_ne z3, ua_ne z2]; exact z1, z2, z3⟩
end Mu

namespace Mu
open PySem L2
local macro_rules | `(tactic| walk_at "st1") => `(tactic| first
  | with_reducible refine i_seq ?_ | with_reducible refine i_bin ?_ | with_reducible refine i_var rfl ?_ | with_reducible refine i_c ?_ | with_reducible refine i_cons ?_ | with_reducible refine i_nil ?_
  | with_reducible refine i_call ?_ | with_reducible refine i_cb ?_ | with_reducible refine i_test ?_ | with_reducible refine i_bl ?_ | with_reducible refine i_asg ?_ | with_reducible refine i_gname ?_
  | with_reducible refine i_sif ?_ | with_reducible refine i_ret ?_ | with_reducible refine i_drop ?_ | with_reducible refine i_lm ?_ | with_reducible refine i_snil ?_ | with_reducible refine i_retN ?_
  | with_reducible refine i_tup ?_ | with_reducible refine i_lst ?_ | with_reducible refine i_and ?_ | with_reducible refine i_or ?_ | with_reducible refine i_not ?_ | with_reducible refine i_andV ?_ | with_reducible refine i_orV ?_
  | with_reducible refine i_notV ?_ | with_reducible refine i_if ?_ | with_reducible refine i_chain ?_ | with_reducible refine i_tru ?_ | with_reducible refine i_trub ?_ | with_reducible refine i_yes ?_ | with_reducible refine i_sl ?_
  | with_reducible refine i_ono ?_ | with_reducible refine i_oso ?_ | with_reducible refine i_ex_int ?_ | with_reducible refine i_break ?_ | with_reducible refine i_aug rfl ?_ | with_reducible refine i_gtup rfl ?_
  | with_reducible refine i_gscons ?_ | with_reducible refine i_gsnil ?_ | with_reducible refine i_gsub ?_ | with_reducible refine i_for ?_ | with_reducible refine i_lc ?_ | with_reducible refine i_iT ?_ | with_reducible refine i_iL ?_ | with_reducible refine i_iR1 ?_ | with_reducible refine i_iR2 ?_ | with_reducible refine i_iR3 ?_
  | with_reducible refine i_dg ?_ | with_reducible refine i_din ?_ | with_reducible refine i_dnew ?_ | with_reducible refine i_dput ?_
  | with_reducible refine i_raise ?_ | with_reducible refine i_raiseK ?_ | with_reducible refine i_tryAs ?_ | with_reducible refine i_tryOnly ?_ | with_reducible refine i_err rfl ?_
  | with_reducible refine i_fld ?_ | with_reducible refine i_sfld ?_ | with_reducible refine i_meth ?_ | with_reducible refine i_new ?_ | with_reducible refine i_neg ?_
  | with_reducible refine i_add ?_ | with_reducible refine i_sub ?_ | with_reducible refine i_cmp ?_ | with_reducible refine i_int1 ?_ | with_reducible refine i_int2 ?_ | with_reducible refine i_isb ?_ | with_reducible refine i_eqi ?_ | with_reducible refine i_eqb ?_ | refine i_ixt rfl rfl ?_)
local macro_rules | `(tactic| walk_at "st") => `(tactic| repeat (walk_at "st1"))
local macro_rules | `(tactic| walk_at "tt") => `(tactic| repeat (first | walk_at "st1" | refine i_len (Nat.le_of_ble_eq_true rfl) ?_))
/-! ## checked -/
def sp_checked : ASp := fun ds A Q EX => ∃ (x : D), ds = [x] ∧ OkT A x ∧ ∀ A', Ext A A' → (IsState x → Q x A') ∧ (¬ IsState x → EX "Invalid" (.str "state") A')
def T_checked : TSA := sSeq (sIf (xNot (xTru (xCall sp_is_state (xsCons (xVar 0) (xsNil))))) (sRaise "Invalid" (xsCons (xC (.str "state")) (xsNil))) (sNil)) (sRet (xVar 0))
theorem l_checked : ∀ ds A Q E, sp_checked ds A Q E → ds.length = ["state"].length := by
  rintro ds A Q E ⟨x, rfl, _⟩; rfl
theorem w_checked : ∀ ds A Q E, sp_checked ds A Q E → T_checked (fun _ c pl A' => E c pl A') (bodyE Q) (envA 1 ds) A := by
  rintro ds A Q E ⟨x, rfl, ok, h⟩
  unfold T_checked
  walk_at "st"
  refine ⟨x, rfl, ok, fun b A1 hb x1 => ?_⟩
  walk_at "st"
  cases b with
  | true =>
    refine i_twoF rfl ?_
    walk_at "st"
    exact (h A1 x1).1 (hb.mp rfl)
  | false =>
    refine i_twoT rfl ?_
    walk_at "st"
    exact (h A1 x1).2 fun z => by cases hb.mpr z
end Mu

namespace Mu
open PySem L2
local macro_rules | `(tactic| walk_at "st1") => `(tactic| first
  | with_reducible refine i_seq ?_ | with_reducible refine i_bin ?_ | with_reducible refine i_var rfl ?_ | with_reducible refine i_c ?_ | with_reducible refine i_cons ?_ | with_reducible refine i_nil ?_
  | with_reducible refine i_call ?_ | with_reducible refine i_cb ?_ | with_reducible refine i_test ?_ | with_reducible refine i_bl ?_ | with_reducible refine i_asg ?_ | with_reducible refine i_gname ?_
  | with_reducible refine i_sif ?_ | with_reducible refine i_ret ?_ | with_reducible refine i_drop ?_ | with_reducible refine i_lm ?_ | with_reducible refine i_snil ?_ | with_reducible refine i_retN ?_
  | with_reducible refine i_tup ?_ | with_reducible refine i_lst ?_ | with_reducible refine i_and ?_ | with_reducible refine i_or ?_ | with_reducible refine i_not ?_ | with_reducible refine i_andV ?_ | with_reducible refine i_orV ?_
  | with_reducible refine i_notV ?_ | with_reducible refine i_if ?_ | with_reducible refine i_chain ?_ | with_reducible refine i_tru ?_ | with_reducible refine i_trub ?_ | with_reducible refine i_yes ?_ | with_reducible refine i_sl ?_
  | with_reducible refine i_ono ?_ | with_reducible refine i_oso ?_ | with_reducible refine i_ex_int ?_ | with_reducible refine i_break ?_ | with_reducible refine i_aug rfl ?_ | with_reducible refine i_gtup rfl ?_
  | with_reducible refine i_gscons ?_ | with_reducible refine i_gsnil ?_ | with_reducible refine i_gsub ?_ | with_reducible refine i_for ?_ | with_reducible refine i_lc ?_ | with_reducible refine i_iT ?_ | with_reducible refine i_iL ?_ | with_reducible refine i_iR1 ?_ | with_reducible refine i_iR2 ?_ | with_reducible refine i_iR3 ?_
  | with_reducible refine i_dg ?_ | with_reducible refine i_din ?_ | with_reducible refine i_dnew ?_ | with_reducible refine i_dput ?_
  | with_reducible refine i_raise ?_ | with_reducible refine i_raiseK ?_ | with_reducible refine i_tryAs ?_ | with_reducible refine i_tryOnly ?_ | with_reducible refine i_err rfl ?_
  | with_reducible refine i_fld ?_ | with_reducible refine i_sfld ?_ | with_reducible refine i_meth ?_ | with_reducible refine i_new ?_ | with_reducible refine i_neg ?_
  | with_reducible refine i_add ?_ | with_reducible refine i_sub ?_ | with_reducible refine i_cmp ?_ | with_reducible refine i_int1 ?_ | with_reducible refine i_int2 ?_ | with_reducible refine i_isb ?_ | with_reducible refine i_eqi ?_ | with_reducible refine i_eqb ?_ | refine i_ixt rfl rfl ?_)
local macro_rules | `(tactic| walk_at "st") => `(tactic| repeat (walk_at "st1"))
local macro_rules | `(tactic| walk_at "tt") => `(tactic| repeat (first | walk_at "st1" | refine i_len (Nat.le_of_ble_eq_true rfl) ?_))
/-! ## sums, in plain numbers -/
abbrev PR : Int := 170141183460469231731687303715884105727
theorem pow_mod (a : Int) (n : Nat) : (a % PR) ^ n % PR = a ^ n % PR := by
  induction n with
  | zero => rw [Int.pow_zero, Int.pow_zero]
  | succ n ih => rw [Int.pow_succ, Int.pow_succ, Int.mul_emod, ih, Int.emod_emod, ← Int.mul_emod]
theorem mm (a : Int) (b : Int) : a % PR * b % PR = a * b % PR := by rw [Int.mul_emod, Int.emod_emod, ← Int.mul_emod]
theorem mm' (a : Int) (b : Int) : a * (b % PR) % PR = a * b % PR := by rw [Int.mul_emod, Int.emod_emod, ← Int.mul_emod]
def term (xs : List Int) (s : Int) (k : Nat) : Int := xs.getD k 0 * (s ^ k % PR) % PR
def rsum (f : Nat → Int) (lo n : Nat) : Int := ((List.range n).map fun j => f (lo + j)).sum
theorem rsum_add (f : Nat → Int) (lo a b : Nat) : rsum f lo (a + b) = rsum f lo a + rsum f (lo + a) b := by
  unfold rsum
  rw [List.range_add, List.map_append, List.sum_append, List.map_map]
  congr 2
  refine List.map_congr_left fun j _ => ?_
  simp only [Function.comp]
  rw [Nat.add_assoc]
structure NodesOk (n : Nat) (ns : List Int) (f : Nat → Int) : Prop where
  len : ns.length = 2 * n
  leaf : ∀ k, k < n → ns.getD (n + k) 0 = f k % PR
  node : ∀ i, 1 ≤ i → i < n → ns.getD i 0 = (ns.getD (2 * i) 0 + ns.getD (2 * i + 1) 0) % PR
theorem node_sum {n : Nat} {ns : List Int} {f : Nat → Int} (h : NodesOk n ns f) : ∀ e m q, n = 2 ^ e * m → q < m → ns.getD (m + q) 0 = rsum f (q * 2 ^ e) (2 ^ e) % PR := by
  intro e
  induction e with
  | zero =>
    intro m q hn hq
    simp only [Nat.pow_zero, Nat.one_mul] at hn
    subst hn
    rw [h.leaf q hq]
    simp [rsum]
  | succ e ih =>
    intro m q hn hq
    have hp : 0 < 2 ^ e := Nat.two_pow_pos e
    have hn2 : n = 2 ^ e * (2 * m) := by rw [hn, Nat.pow_succ, Nat.mul_assoc]
    have hlt : m + q < n := by
      have : 2 * m ≤ 2 ^ e * (2 * m) := Nat.le_mul_of_pos_left _ hp
      omega
    rw [h.node (m + q) (by omega) hlt, show 2 * (m + q) = 2 * m + 2 * q by omega, show 2 * m + 2 * q + 1 = 2 * m + (2 * q + 1) by omega,
      ih (2 * m) (2 * q) hn2 (by omega), ih (2 * m) (2 * q + 1) hn2 (by omega), ← Int.add_emod]
    congr 1
    rw [Nat.pow_succ, show 2 ^ e * 2 = 2 ^ e + 2 ^ e by omega, rsum_add]
    have e1 : 2 * q * 2 ^ e = q * (2 ^ e + 2 ^ e) := by rw [Nat.mul_add, Nat.mul_assoc, Nat.two_mul]
    have e2 : (2 * q + 1) * 2 ^ e = q * (2 ^ e + 2 ^ e) + 2 ^ e := by rw [Nat.add_mul, Nat.one_mul, e1]
    rw [e1, e2]

/-! ## power -/
abbrev k_PRIME : D := .int 170141183460469231731687303715884105727
def sp_power : ASp := fun ds A Q _ => ∃ (b : Int) (n : Nat), ds = [.int b, .int n] ∧ Q (.int (b ^ n % PR)) A
def T_power : TSA := sSeq (sSet 2 (xC (.int 1))) (sSeq (sSet 0 (xBin modA (xVar 0) (xC k_PRIME))) (sSeq (sWhile (xTest (xBin gtA (xVar 1) (xC (.int 0)))) (sSeq (sIf (xTest (xBin (eqA id) (xBin modA (xVar 1) (xC (.int 2))) (xC (.int 1)))) (sSet 2 (xBin modA (xBin mulA (xVar 2) (xVar 0)) (xC k_PRIME))) (sNil)) (sSeq (sSet 0 (xBin modA (xBin mulA (xVar 0) (xVar 0)) (xC k_PRIME))) (sSet 1 (xBin divA (xVar 1) (xC (.int 2))))))) (sRet (xVar 2))))
theorem l_power : ∀ ds A Q E, sp_power ds A Q E → ds.length = ["base", "exponent"].length := by
  rintro ds A Q E ⟨r, m, rfl, _⟩; rfl
theorem PR_pos : (0 : Int) < PR := by decide
theorem pr_mul {a b : Int} (h0 : 0 ≤ a) (h1 : a < PR) (h2 : 0 ≤ b) (h3 : b < PR) : MulOk a b := mulW (lt1000 h0 (Int.lt_trans h1 (by decide))) (lt1000 h2 (Int.lt_trans h3 (by decide)))
theorem pr_lo (a : Int) : 0 ≤ a % PR := Int.emod_nonneg _ (by decide)
theorem pr_hi (a : Int) : a % PR < PR := Int.emod_lt_of_pos _ PR_pos
theorem w_power : ∀ ds A Q E, sp_power ds A Q E → T_power (fun _ c pl A' => E c pl A') (bodyE Q) (envA 3 ds) A := by
  rintro ds A Q E ⟨b, n, rfl, h⟩
  unfold T_power
  walk_at "st"
  refine i_mod PR_pos ?_
  walk_at "st"
  refine wh_rule (fun m ρ A' => A' = A ∧ ∃ r c : Int, 0 ≤ r ∧ r < PR ∧ 0 ≤ c ∧ c < PR ∧ r * c ^ m % PR = b ^ n % PR ∧ ρ = [some (.int c), some (.int m), some (.int r)])
    (fun m ρ A' ⟨eA, r, c, r0, r1, c0, c1, e, er⟩ NX nx => ?step) (m := n) ⟨rfl, 1, b % PR, by decide, by decide, pr_lo _, pr_hi _, by rw [Int.one_mul, pow_mod], rfl⟩
  case step =>
    subst eA er
    walk_at "st"
    refine i_two (fun hm => ?_) (fun hm => ?_)
    · have hm' : 0 < m := by have := of_decide_eq_true hm; omega
      walk_at "st"
      refine i_mod (by decide) ?_
      walk_at "st"
      have key : r * c ^ m = r * c ^ (m % 2) * (c * c) ^ (m / 2) := by
        rw [Int.mul_assoc]
        congr 1
        rw [show c * c = c ^ 2 by rw [Int.pow_succ, Int.pow_succ, Int.pow_zero, Int.one_mul], ← Int.pow_mul, ← Int.pow_add]
        congr 1; omega
      have dv : ((m : Int) / 2) = ((m / 2 : Nat) : Int) := by omega
      refine i_two (fun h1 => ?_) (fun h1 => ?_)
      · have h1' : m % 2 = 1 := by
          have : ((m : Int) % 2 == 1) = true := h1
          have := beq_iff_eq.mp this; omega
        walk_at "st"
        refine i_mul (pr_mul r0 r1 c0 c1) ?_
        walk_at "st"
        refine i_mod PR_pos ?_
        walk_at "st"
        refine i_mul (pr_mul c0 c1 c0 c1) ?_
        walk_at "st"
        refine i_mod PR_pos ?_
        walk_at "st"
        refine i_div (by decide) (by decide) ?_
        walk_at "st"
        rw [dv]
        refine nx (m / 2) _ _ (by omega) ⟨rfl, _, _, pr_lo _, pr_hi _, pr_lo _, pr_hi _, ?_, rfl⟩
        rw [Int.mul_emod, pow_mod, ← Int.mul_emod, mm, ← e, key, h1', Int.pow_succ, Int.pow_zero, Int.one_mul]
      · have h1' : m % 2 = 0 := by
          have : ((m : Int) % 2 == 1) = false := h1
          have := beq_eq_false_iff_ne.mp this; omega
        walk_at "st"
        refine i_mul (pr_mul c0 c1 c0 c1) ?_
        walk_at "st"
        refine i_mod PR_pos ?_
        walk_at "st"
        refine i_div (by decide) (by decide) ?_
        walk_at "st"
        rw [dv]
        refine nx (m / 2) _ _ (by omega) ⟨rfl, _, _, r0, r1, pr_lo _, pr_hi _, ?_, rfl⟩
        rw [Int.mul_emod, pow_mod, ← Int.mul_emod, ← e, key, h1', Int.pow_zero, Int.mul_one]
    · have hm' : m = 0 := by have := of_decide_eq_false hm; omega
      subst hm'
      walk_at "st"
      have : r = b ^ n % PR := by
        rw [← e, Int.pow_zero, Int.mul_one]; exact (Int.emod_eq_of_lt r0 r1).symm
      rw [this]
      exact h
/-! ## trees -/
def TreeAt (A : AHp) (p q : Addr) (n : Nat) (f : Nat → Int) (s : Int) : Prop := ∃ ns : List Int, A p = some (.ins "Tree" [("size", .int n), ("salt", .int s), ("nodes", .ref q)]) ∧ A q = some (.lst (ns.map D.int)) ∧ NodesOk n ns f
def sp_Tree_total : ASp := fun ds A Q _ => ∃ (p q : Addr) (n w e m j : Nat) (f : Nat → Int) (s : Int), ds = [.ref p, .int ((j * w : Nat) : Int), .int ((j * w : Nat) + (w : Nat) : Int)] ∧ TreeAt A p q n f s ∧ w = 2 ^ e ∧ n = w * m ∧ j < m ∧ n ≤ 64 ∧ Q (.int (rsum f (j * w) w % PR)) A
def T_Tree_total : TSA := sRet (xBin ixB (xFld "Tree" (xVar 0) "nodes") (xBin divA (xBin addA (xFld "Tree" (xVar 0) "size") (xVar 1)) (xBin subA (xVar 2) (xVar 1))))
theorem l_Tree_total : ∀ ds A Q E, sp_Tree_total ds A Q E → ds.length = ["self", "low", "high"].length := by
  rintro ds A Q E ⟨p, q, n, w, e, m, j, f, s, rfl, _⟩; rfl
theorem getD_at {ns : List Int} {i : Nat} (h : i < ns.length) : atI (ns.map D.int) (i : Int) = some (.int (ns.getD i 0)) :=
  atI_nat (by rw [List.getElem?_map, List.getElem?_eq_getElem h, List.getD_eq_getElem?_getD, List.getElem?_eq_getElem h]; rfl)
theorem w_Tree_total : ∀ ds A Q E, sp_Tree_total ds A Q E → T_Tree_total (fun _ c pl A' => E c pl A') (bodyE Q) (envA 3 ds) A := by
  rintro ds A Q E ⟨p, q, n, w, e, m, j, f, s, rfl, ⟨ns, hp, hq, ok⟩, hw, hn, hj, hs, h⟩
  have wp : 0 < w := by rw [hw]; exact Nat.two_pow_pos e
  have mn : m ≤ n := by rw [hn]; exact Nat.le_mul_of_pos_left _ wp
  have wn : w ≤ n := by rw [hn]; exact Nat.le_mul_of_pos_right _ (by omega)
  unfold T_Tree_total
  walk_at "st"
  refine i_fldK hp rfl ?_
  walk_at "st"
  refine i_fldK hp rfl ?_
  walk_at "st"
  rw [show ((j * w : Nat) : Int) + (w : Nat) - ((j * w : Nat) : Int) = (w : Int) by omega]
  refine i_div (by omega) ?_ ?_
  · have e1 : ((w : Int)).natAbs = w := by omega
    rw [e1]
    by_cases z : w = 0
    · omega
    · exact (Nat.log2_lt z).mpr (Nat.lt_of_le_of_lt (Nat.le_trans wn hs) (Nat.lt_of_lt_of_le (show 64 < 2 ^ 7 by decide) (Nat.pow_le_pow_right (by decide) (by decide))))
  have ed : ((n : Int) + ((j * w : Nat) : Int)) / (w : Int) = ((m + j : Nat) : Int) := by
    have : ((n : Int) + ((j * w : Nat) : Int)) = (((m + j) * w : Nat) : Int) := by rw [hn, Nat.add_mul, Nat.mul_comm m w]; omega
    rw [this, Int.natCast_mul]
    exact Int.mul_ediv_cancel _ (by omega)
  rw [ed]
  refine i_ixl hq (getD_at (by rw [ok.len]; omega)) ?_
  rw [node_sum ok e m j (by rw [hn, hw]) hj, ← hw]
  exact h
def sp_Tree_change : ASp := fun ds A Q _ => ∃ (p q : Addr) (n k : Nat) (v : Int) (f : Nat → Int) (s : Int), ds = [.ref p, .int k, .int v] ∧ TreeAt A p q n f s ∧ k < n ∧ n ≤ 64 ∧ 0 ≤ v ∧ v < PR ∧
  ∀ A', ExtR q A A' → (∀ a, A' a = none ↔ A a = none) → TreeAt A' p q n (fun i => if i = k then v * s ^ k else f i) s → Q .non A'
def T_Tree_change : TSA := sSeq (sSet 3 (xBin addA (xFld "Tree" (xVar 0) "size") (xVar 1))) (sSeq (sAsg (xBin modA (xBin mulA (xVar 2) (xCall sp_power (xsCons (xFld "Tree" (xVar 0) "salt") (xsCons (xVar 1) (xsNil))))) (xC k_PRIME)) (gSubL (xFld "Tree" (xVar 0) "nodes") (xVar 3))) (sWhile (xTest (xBin gtA (xVar 3) (xC (.int 1)))) (sSeq (sSet 3 (xBin divA (xVar 3) (xC (.int 2)))) (sAsg (xBin modA (xBin addA (xBin ixB (xFld "Tree" (xVar 0) "nodes") (xBin mulA (xC (.int 2)) (xVar 3))) (xBin ixB (xFld "Tree" (xVar 0) "nodes") (xBin addA (xBin mulA (xC (.int 2)) (xVar 3)) (xC (.int 1))))) (xC k_PRIME)) (gSubL (xFld "Tree" (xVar 0) "nodes") (xVar 3))))))
theorem l_Tree_change : ∀ ds A Q E, sp_Tree_change ds A Q E → ds.length = ["self", "key", "number"].length := by
  rintro ds A Q E ⟨p, q, n, k, v, f, s, rfl, _⟩; rfl
theorem gset {ns : List Int} {i j : Nat} {v : Int} (h : i < ns.length) : (ns.set i v).getD j 0 = if i = j then v else ns.getD j 0 := by
  rw [List.getD_eq_getElem?_getD, List.getD_eq_getElem?_getD, List.getElem?_set]
  by_cases e : i = j
  · subst e; simp [h]
  · simp [e]
/-- right but for one node -/
structure NodesBut (n b : Nat) (ns : List Int) (f : Nat → Int) : Prop where
  len : ns.length = 2 * n
  leaf : ∀ k, k < n → ns.getD (n + k) 0 = f k % PR
  node : ∀ i, 1 ≤ i → i < n → i ≠ b → ns.getD i 0 = (ns.getD (2 * i) 0 + ns.getD (2 * i + 1) 0) % PR
theorem int_set (ns : List Int) (i : Nat) (v : Int) : (ns.map D.int).set i (.int v) = (ns.set i v).map D.int := by rw [List.map_set]
theorem w_Tree_change : ∀ ds A Q E, sp_Tree_change ds A Q E → T_Tree_change (fun _ c pl A' => E c pl A') (bodyE Q) (envA 4 ds) A := by
  rintro ds A Q E ⟨p, q, n, k, v, f, s, rfl, ⟨ns, hp, hq, ok⟩, hk, hn, v0, v1, h⟩
  have npq : p ≠ q := fun z => by rw [z, hq] at hp; cases hp
  unfold T_Tree_change
  walk_at "st"
  refine i_fldK hp rfl ?_
  walk_at "st"
  refine i_fldK hp rfl ?_
  walk_at "st"
  refine ⟨s, k, rfl, ?_⟩
  walk_at "st"
  refine i_mul (pr_mul v0 v1 (pr_lo _) (pr_hi _)) ?_
  walk_at "st"
  refine i_mod PR_pos ?_
  walk_at "st"
  refine i_fldK hp rfl ?_
  walk_at "st"
  have len := ok.len
  have eN : (n : Int) + (k : Int) = ((n + k : Nat) : Int) := by omega
  rw [eN]
  refine i_gsubK hq (ixN_nat (by rw [List.length_map, len]; omega)) ?_
  walk_at "st"
  rw [int_set, mm']
  let g : Nat → Int := fun i => if i = k then v * s ^ k else f i
  have ok1 : NodesBut n ((n + k) / 2) (ns.set (n + k) (v * s ^ k % PR)) g := ⟨by rw [List.length_set]; exact len, fun i hi => by
      rw [gset (by omega)]
      by_cases e : i = k
      · subst e; simp [g]
      · rw [if_neg (by omega), ok.leaf i hi]; simp [g, e], fun i h1 h2 h3 => by
      rw [gset (by omega), gset (by omega), gset (by omega), if_neg (by omega), if_neg (by omega), if_neg (by omega)]
      exact ok.node i h1 h2⟩
  refine wh_rule (fun m ρ A' => 1 ≤ m ∧ m < 2 * n ∧ ρ = [some (.ref p), some (.int k), some (.int v), some (.int m)] ∧ ∃ ns', NodesBut n (m / 2) ns' g ∧ A' = ua A q (.lst (ns'.map D.int)))
    (fun m ρ A' ⟨m1, m2, er, ns', ok', eA⟩ NX nx => ?step) (m := n + k) ⟨by omega, by omega, rfl, _, ok1, rfl⟩
  case step =>
    subst er eA
    have hp' : (ua A q (.lst (ns'.map D.int))) p = some (.ins "Tree" [("size", .int n), ("salt", .int s), ("nodes", .ref q)]) := by rw [ua_ne npq]; exact hp
    walk_at "st"
    refine i_two (fun hm => ?_) (fun hm => ?_)
    · have hm' : 1 < m := by have := of_decide_eq_true hm; omega
      walk_at "st"
      refine i_div (by decide) (by decide) ?_
      walk_at "st"
      rw [show ((m : Int) / 2) = ((m / 2 : Nat) : Int) by omega]
      refine i_fldK hp' rfl ?_
      walk_at "st"
      refine i_mul (.inl (.inl (by decide))) ?_
      walk_at "st"
      rw [show (2 : Int) * ((m / 2 : Nat) : Int) = ((2 * (m / 2) : Nat) : Int) by omega]
      refine i_ixl ua_same (getD_at (by rw [ok'.len]; omega)) ?_
      walk_at "st"
      refine i_fldK hp' rfl ?_
      walk_at "st"
      refine i_mul (.inl (.inl (by decide))) ?_
      walk_at "st"
      rw [show (2 : Int) * ((m / 2 : Nat) : Int) + 1 = ((2 * (m / 2) + 1 : Nat) : Int) by omega]
      refine i_ixl ua_same (getD_at (by rw [ok'.len]; omega)) ?_
      walk_at "st"
      refine i_mod PR_pos ?_
      walk_at "st"
      refine i_fldK hp' rfl ?_
      walk_at "st"
      refine i_gsubK ua_same (ixN_nat (by rw [List.length_map, ok'.len]; omega)) ?_
      rw [int_set, ua_ua]
      refine nx (m / 2) _ _ (by omega) ⟨by omega, by omega, rfl, _, ⟨by rw [List.length_set]; exact ok'.len, fun i hi => ?_, fun i h1 h2 h3 => ?_⟩, rfl⟩
      · rw [gset (by rw [ok'.len]; omega), if_neg (by omega)]; exact ok'.leaf i hi
      · rw [gset (by rw [ok'.len]; omega), gset (by rw [ok'.len]; omega), gset (by rw [ok'.len]; omega), if_neg (show ¬ m / 2 = 2 * i by omega), if_neg (show ¬ m / 2 = 2 * i + 1 by omega)]
        by_cases e : m / 2 = i
        · rw [if_pos e, e]
        · rw [if_neg e]; exact ok'.node i h1 h2 (Ne.symm e)
    · have hm' : m ≤ 1 := by have := of_decide_eq_false hm; omega
      refine h _ (fun a o ne ea => by rw [ua_ne ne]; exact ea) (fun a => ?_) ⟨ns', hp', ua_same, ok'.len, ok'.leaf, fun i h1 h2 => ok'.node i h1 h2 (by omega)⟩
      by_cases e : a = q
      · subst e; rw [ua_same, hq]; simp
      · rw [ua_ne e]
end Mu

namespace Mu
open PySem L2
local macro_rules | `(tactic| walk_at "st1") => `(tactic| first
  | with_reducible refine i_seq ?_ | with_reducible refine i_bin ?_ | with_reducible refine i_var rfl ?_ | with_reducible refine i_c ?_ | with_reducible refine i_cons ?_ | with_reducible refine i_nil ?_
  | with_reducible refine i_call ?_ | with_reducible refine i_cb ?_ | with_reducible refine i_test ?_ | with_reducible refine i_bl ?_ | with_reducible refine i_asg ?_ | with_reducible refine i_gname ?_
  | with_reducible refine i_sif ?_ | with_reducible refine i_ret ?_ | with_reducible refine i_drop ?_ | with_reducible refine i_lm ?_ | with_reducible refine i_snil ?_ | with_reducible refine i_retN ?_
  | with_reducible refine i_tup ?_ | with_reducible refine i_lst ?_ | with_reducible refine i_and ?_ | with_reducible refine i_or ?_ | with_reducible refine i_not ?_ | with_reducible refine i_andV ?_ | with_reducible refine i_orV ?_
  | with_reducible refine i_notV ?_ | with_reducible refine i_if ?_ | with_reducible refine i_chain ?_ | with_reducible refine i_tru ?_ | with_reducible refine i_trub ?_ | with_reducible refine i_yes ?_ | with_reducible refine i_sl ?_
  | with_reducible refine i_ono ?_ | with_reducible refine i_oso ?_ | with_reducible refine i_ex_int ?_ | with_reducible refine i_break ?_ | with_reducible refine i_aug rfl ?_ | with_reducible refine i_gtup rfl ?_
  | with_reducible refine i_gscons ?_ | with_reducible refine i_gsnil ?_ | with_reducible refine i_gsub ?_ | with_reducible refine i_for ?_ | with_reducible refine i_lc ?_ | with_reducible refine i_iT ?_ | with_reducible refine i_iL ?_ | with_reducible refine i_iR1 ?_ | with_reducible refine i_iR2 ?_ | with_reducible refine i_iR3 ?_
  | with_reducible refine i_dg ?_ | with_reducible refine i_din ?_ | with_reducible refine i_dnew ?_ | with_reducible refine i_dput ?_
  | with_reducible refine i_raise ?_ | with_reducible refine i_raiseK ?_ | with_reducible refine i_tryAs ?_ | with_reducible refine i_tryOnly ?_ | with_reducible refine i_err rfl ?_
  | with_reducible refine i_fld ?_ | with_reducible refine i_sfld ?_ | with_reducible refine i_meth ?_ | with_reducible refine i_new ?_ | with_reducible refine i_neg ?_
  | with_reducible refine i_add ?_ | with_reducible refine i_sub ?_ | with_reducible refine i_cmp ?_ | with_reducible refine i_int1 ?_ | with_reducible refine i_int2 ?_ | with_reducible refine i_isb ?_ | with_reducible refine i_eqi ?_ | with_reducible refine i_eqb ?_ | refine i_ixt rfl rfl ?_)
local macro_rules | `(tactic| walk_at "st") => `(tactic| repeat (walk_at "st1"))
local macro_rules | `(tactic| walk_at "tt") => `(tactic| repeat (first | walk_at "st1" | refine i_len (Nat.le_of_ble_eq_true rfl) ?_))
theorem rng_pre {n x : Nat} {pre post : List Nat} (e : List.range n = pre ++ x :: post) : x = pre.length ∧ pre.length < n := by
  have h1 : (List.range n)[pre.length]? = some x := by rw [e, List.getElem?_append_right (Nat.le_refl _), Nat.sub_self]; rfl
  have h2 : (List.range n).length = (pre ++ x :: post).length := by rw [← e]
  simp only [List.length_range, List.length_append, List.length_cons] at h2
  have lt : pre.length < n := by omega
  rw [List.getElem?_range lt] at h1
  exact ⟨(Option.some.inj h1).symm, lt⟩
def sp_Tree___init__ : ASp := fun ds A Q _ => ∃ (p l : Addr) (s : Int) (xs : List Int), ds = [.ref p, .ref l, .int s] ∧ A p = some (.ins "Tree" []) ∧ A l = some (.lst (xs.map D.int)) ∧ xs.length ≤ 64 ∧ (∀ x ∈ xs, 0 ≤ x ∧ x < PR) ∧
  ∀ A' q, A q = none → ExtR p A A' → TreeAt A' p q xs.length (fun k => xs.getD k 0 * s ^ k) s → Q .non A'
def T_Tree___init__ : TSA := sSeq (sFld "Tree" (xVar 0) (xCB lenA (xsCons (xVar 1) (xsNil))) "size") (sSeq (sFld "Tree" (xVar 0) (xVar 2) "salt") (sSeq (sFld "Tree" (xVar 0) (xBin mulA (xLst (xsCons (xC (.int 0)) (xsNil))) (xBin mulA (xC (.int 2)) (xFld "Tree" (xVar 0) "size"))) "nodes") (sSeq (sFor (iR1 (xsCons (xFld "Tree" (xVar 0) "size") (xsNil))) (gName 3) (sAsg (xBin modA (xBin mulA (xBin ixB (xVar 1) (xVar 3)) (xCall sp_power (xsCons (xVar 2) (xsCons (xVar 3) (xsNil))))) (xC k_PRIME)) (gSubL (xFld "Tree" (xVar 0) "nodes") (xBin addA (xFld "Tree" (xVar 0) "size") (xVar 3))))) (sFor (iR3 (xsCons (xBin subA (xFld "Tree" (xVar 0) "size") (xC (.int 1))) (xsCons (xC (.int 0)) (xsCons (xNeg (xC (.int 1))) (xsNil))))) (gName 4) (sAsg (xBin modA (xBin addA (xBin ixB (xFld "Tree" (xVar 0) "nodes") (xBin mulA (xC (.int 2)) (xVar 4))) (xBin ixB (xFld "Tree" (xVar 0) "nodes") (xBin addA (xBin mulA (xC (.int 2)) (xVar 4)) (xC (.int 1))))) (xC k_PRIME)) (gSubL (xFld "Tree" (xVar 0) "nodes") (xVar 4)))))))
theorem l_Tree___init__ : ∀ ds A Q E, sp_Tree___init__ ds A Q E → ds.length = ["self", "numbers", "salt"].length := by
  rintro ds A Q E ⟨p, l, s, xs, rfl, _⟩; rfl
theorem w_Tree___init__ : ∀ ds A Q E, sp_Tree___init__ ds A Q E → T_Tree___init__ (fun _ c pl A' => E c pl A') (bodyE Q) (envA 5 ds) A := by
  rintro ds A Q E ⟨p, l, s, xs, rfl, hp, hl, hn, hb, h⟩
  have nlp : l ≠ p := fun z => by rw [z, hp] at hl; cases hl
  let n := xs.length
  let f : Nat → Int := fun k => xs.getD k 0 * s ^ k
  unfold T_Tree___init__
  walk_at "st"
  refine i_lenl hl ?_
  walk_at "st"
  rw [List.length_map]
  refine i_sfldK hp (Nat.le_of_ble_eq_true rfl) rfl ?_
  walk_at "st"
  refine i_sfldK ua_same (Nat.le_of_ble_eq_true rfl) rfl ?_
  rw [ua_ua]
  walk_at "st"
  refine ⟨by decide, fun z nz => ?_⟩
  walk_at "st"
  have npz : p ≠ z := ne_free ua_same nz
  refine i_fldK (by rw [ua_ne npz]; exact ua_same) rfl ?_
  walk_at "st"
  refine i_mul (.inl (.inl (by decide))) ?_
  rw [show (2 : Int) * (xs.length : Int) = ((2 * n : Nat) : Int) by show _ = ((2 * xs.length : Nat) : Int); omega]
  refine i_mulL ua_same (by omega) (by show ((2 * xs.length : Nat) : Int) < _; omega) (by rw [Int.toNat_natCast, sizeLine_eq]; show 1 * (2 * xs.length) ≤ _; omega) fun q nq => ?_
  have npq : p ≠ q := ne_free (show (ua (ua A p _) z _) p = _ by rw [ua_ne npz]; exact ua_same) nq
  have nzq : z ≠ q := ne_free ua_same nq
  have nAz : A z = none := by rw [ua_ne npz.symm] at nz; exact nz
  have nAq : A q = none := by rw [ua_ne nzq.symm, ua_ne npq.symm] at nq; exact nq
  walk_at "st"
  refine i_sfldK (by rw [ua_ne npq, ua_ne npz]; exact ua_same) (Nat.le_of_ble_eq_true rfl) rfl ?_
  walk_at "st"
  rw [Int.toNat_natCast]
  have rep : (List.replicate (2 * n) [D.int 0]).flatten = (List.replicate (2 * n) (0 : Int)).map D.int := by
    generalize 2 * n = m
    induction m with
    | zero => rfl
    | succ m ih => rw [List.replicate_succ, List.flatten_cons, ih, List.replicate_succ]; rfl
  rw [rep]
  let Ok : AHp → List Int → Prop := fun A' ns => A' p = some (.ins "Tree" [("size", .int n), ("salt", .int s), ("nodes", .ref q)]) ∧ A' q = some (.lst (ns.map D.int)) ∧ ExtR p A A' ∧ ns.length = 2 * n
  refine i_fldK ua_same rfl ?_
  walk_at "st"
  refine i_iR1K (by omega) (by omega) ?_
  rw [Int.toNat_natCast, show rngD 0 1 xs.length = _ from rng_nat (n := xs.length)]
  refine for_rule (f := fun i : Nat => D.int (i : Int)) (fun pre ρ A' => (∃ o, ρ = [some (.ref p), some (.ref l), some (.int s), o, none]) ∧ ∃ ns, Ok A' ns ∧ ∀ k, k < pre.length → ns.getD (n + k) 0 = f k % PR) (List.range xs.length) (fun _ _ _ _ => trivial)
    (fun pre x post e ρ A1 hI NX nx => ?step) (fun ρ A1 hI => ?fin)
    ⟨⟨none, rfl⟩, List.replicate (2 * n) 0, ⟨ua_same, by rw [ua_ne npq.symm]; exact ua_same, fun a o ne ea => by
      have n1 : a ≠ q := ne_free ea nAq
      have n2 : a ≠ z := ne_free ea nAz
      rw [ua_ne ne, ua_ne n1, ua_ne n2, ua_ne ne]; exact ea, List.length_replicate⟩, fun k hk => by cases hk⟩
  case step =>
    obtain ⟨⟨o, rfl⟩, ns, ⟨h1, h2, h3, h4⟩, h5⟩ := hI
    obtain ⟨ex, lx⟩ := rng_pre e
    have hlx : l ≠ p := nlp
    have hl1 := h3 l _ hlx hl
    have hx := hb (xs.getD x 0) (by rw [List.getD_eq_getElem?_getD, List.getElem?_eq_getElem (by omega)]; exact List.getElem_mem _)
    walk_at "st"
    refine i_ixl hl1 (getD_at (by omega)) ?_
    walk_at "st"
    refine ⟨s, x, rfl, ?_⟩
    walk_at "st"
    refine i_mul (pr_mul hx.1 hx.2 (pr_lo _) (pr_hi _)) ?_
    walk_at "st"
    refine i_mod PR_pos ?_
    walk_at "st"
    refine i_fldK h1 rfl ?_
    walk_at "st"
    refine i_fldK h1 rfl ?_
    walk_at "st"
    rw [show (n : Int) + (x : Int) = ((n + x : Nat) : Int) by omega]
    have hln : n + x < ns.length := by rw [h4]; show xs.length + x < 2 * xs.length; omega
    refine i_gsubK h2 (ixN_nat (by rw [List.length_map]; exact hln)) ?_
    rw [int_set, mm']
    refine nx _ _ ⟨⟨_, rfl⟩, _, ⟨by rw [ua_ne npq]; exact h1, ua_same, fun a o ne ea => by
      rw [ua_ne (ne_free ea nAq)]; exact h3 a o ne ea, by rw [List.length_set]; exact h4⟩, fun k hk => ?_⟩
    rw [gset hln]
    simp only [List.length_append, List.length_singleton] at hk
    by_cases q2 : k = x
    · subst q2; rw [if_pos rfl]
    · rw [if_neg (by omega)]; exact h5 k (by omega)
  obtain ⟨⟨o, rfl⟩, ns, ⟨h1, h2, h3, h4⟩, h5⟩ := hI
  rw [List.length_range] at h5
  walk_at "st"
  refine i_fldK h1 rfl ?_
  walk_at "st"
  refine i_iR3K (RgC.neg (by omega) (by omega) (by decide) (by decide)) ?_
  have er : rngD ((n : Int) - 1) (-1) ((n : Int) - 1 - 0).toNat = (List.range (n - 1)).map fun j : Nat => D.int ((n : Int) - 1 + (j : Int) * (-1)) := by
    unfold rngD
    rw [show ((n : Int) - 1 - 0).toNat = n - 1 by omega]
  rw [er]
  refine for_rule (f := fun j : Nat => D.int ((n : Int) - 1 + (j : Int) * (-1))) (fun pre ρ A' => (∃ o o4, ρ = [some (.ref p), some (.ref l), some (.int s), o, o4]) ∧ ∃ ns, Ok A' ns ∧ (∀ k, k < n → ns.getD (n + k) 0 = f k % PR) ∧
      ∀ i, 1 ≤ i → i < n → n ≤ i + pre.length → ns.getD i 0 = (ns.getD (2 * i) 0 + ns.getD (2 * i + 1) 0) % PR) (List.range (n - 1)) (fun _ _ _ _ => trivial)
    (fun pre x post e ρ A2 hI NX nx => ?step2) (fun ρ A2 hI => ?fin2) ⟨⟨_, _, rfl⟩, ns, ⟨h1, h2, h3, h4⟩, h5, fun i i1 i2 i3 => by simp only [List.length_nil] at i3; omega⟩
  case step2 =>
    obtain ⟨⟨o, o4, rfl⟩, ns, ⟨h1, h2, h3, h4⟩, h5, h6⟩ := hI
    obtain ⟨ex, lx⟩ := rng_pre e
    walk_at "st"
    rw [show (n : Int) - 1 + (x : Int) * (-1) = ((n - 1 - x : Nat) : Int) by omega]
    refine i_fldK h1 rfl ?_
    walk_at "st"
    refine i_mul (.inl (.inl (by decide))) ?_
    walk_at "st"
    rw [show (2 : Int) * ((n - 1 - x : Nat) : Int) = ((2 * (n - 1 - x) : Nat) : Int) by omega]
    refine i_ixl h2 (getD_at (by rw [h4]; omega)) ?_
    walk_at "st"
    refine i_fldK h1 rfl ?_
    walk_at "st"
    refine i_mul (.inl (.inl (by decide))) ?_
    walk_at "st"
    rw [show (2 : Int) * ((n - 1 - x : Nat) : Int) + 1 = ((2 * (n - 1 - x) + 1 : Nat) : Int) by omega]
    refine i_ixl h2 (getD_at (by rw [h4]; omega)) ?_
    walk_at "st"
    refine i_mod PR_pos ?_
    walk_at "st"
    refine i_fldK h1 rfl ?_
    walk_at "st"
    have hln : n - 1 - x < ns.length := by rw [h4]; omega
    refine i_gsubK h2 (ixN_nat (by rw [List.length_map]; exact hln)) ?_
    rw [int_set]
    refine nx _ _ ⟨⟨_, _, rfl⟩, _, ⟨by rw [ua_ne npq]; exact h1, ua_same, fun a o ne ea => by
      rw [ua_ne (ne_free ea nAq)]; exact h3 a o ne ea, by rw [List.length_set]; exact h4⟩, fun k hk => ?_, fun i i1 i2 i3 => ?_⟩
    · rw [gset hln, if_neg (by omega)]; exact h5 k hk
    · simp only [List.length_append, List.length_singleton] at i3
      rw [gset hln, gset hln, gset hln, if_neg (show ¬ n - 1 - x = 2 * i by omega), if_neg (show ¬ n - 1 - x = 2 * i + 1 by omega)]
      by_cases q2 : n - 1 - x = i
      · rw [if_pos q2, q2]
      · rw [if_neg q2]; exact h6 i i1 i2 (by omega)
  obtain ⟨⟨o, o4, rfl⟩, ns, ⟨h1, h2, h3, h4⟩, h5, h6⟩ := hI
  rw [List.length_range] at h6
  exact h _ q nAq h3 ⟨ns, h1, h2, h4, h5, fun i i1 i2 => h6 i i1 i2 (by omega)⟩
theorem TreeAt.ext {A A' : AHp} {p q : Addr} {n : Nat} {f : Nat → Int} {s : Int} (h : TreeAt A p q n f s) (x : Ext A A') : TreeAt A' p q n f s := by
  obtain ⟨ns, h1, h2, h3⟩ := h
  exact ⟨ns, x _ _ h1, x _ _ h2, h3⟩
theorem TreeAt.r {r : Addr} {A A' : AHp} {p q : Addr} {n : Nat} {f : Nat → Int} {s : Int} (h : TreeAt A p q n f s) (x : ExtR r A A') (np : p ≠ r) (nq : q ≠ r) : TreeAt A' p q n f s := by
  obtain ⟨ns, h1, h2, h3⟩ := h
  exact ⟨ns, x _ _ np h1, x _ _ nq h2, h3⟩
theorem TreeAt.set {l : Addr} {o : AO} {A : AHp} {p q : Addr} {n : Nat} {f : Nat → Int} {s : Int} (h : TreeAt A p q n f s) (np : p ≠ l) (nq : q ≠ l) : TreeAt (ua A l o) p q n f s := h.r .set np nq
end Mu

namespace Mu
open PySem L2
local macro_rules | `(tactic| walk_at "st1") => `(tactic| first
  | with_reducible refine i_seq ?_ | with_reducible refine i_bin ?_ | with_reducible refine i_var rfl ?_ | with_reducible refine i_c ?_ | with_reducible refine i_cons ?_ | with_reducible refine i_nil ?_
  | with_reducible refine i_call ?_ | with_reducible refine i_cb ?_ | with_reducible refine i_test ?_ | with_reducible refine i_bl ?_ | with_reducible refine i_asg ?_ | with_reducible refine i_gname ?_
  | with_reducible refine i_sif ?_ | with_reducible refine i_ret ?_ | with_reducible refine i_drop ?_ | with_reducible refine i_lm ?_ | with_reducible refine i_snil ?_ | with_reducible refine i_retN ?_
  | with_reducible refine i_tup ?_ | with_reducible refine i_lst ?_ | with_reducible refine i_and ?_ | with_reducible refine i_or ?_ | with_reducible refine i_not ?_ | with_reducible refine i_andV ?_ | with_reducible refine i_orV ?_
  | with_reducible refine i_notV ?_ | with_reducible refine i_if ?_ | with_reducible refine i_chain ?_ | with_reducible refine i_tru ?_ | with_reducible refine i_trub ?_ | with_reducible refine i_yes ?_ | with_reducible refine i_sl ?_
  | with_reducible refine i_ono ?_ | with_reducible refine i_oso ?_ | with_reducible refine i_ex_int ?_ | with_reducible refine i_break ?_ | with_reducible refine i_aug rfl ?_ | with_reducible refine i_gtup rfl ?_
  | with_reducible refine i_gscons ?_ | with_reducible refine i_gsnil ?_ | with_reducible refine i_gsub ?_ | with_reducible refine i_for ?_ | with_reducible refine i_lc ?_ | with_reducible refine i_iT ?_ | with_reducible refine i_iL ?_ | with_reducible refine i_iR1 ?_ | with_reducible refine i_iR2 ?_ | with_reducible refine i_iR3 ?_
  | with_reducible refine i_dg ?_ | with_reducible refine i_din ?_ | with_reducible refine i_dnew ?_ | with_reducible refine i_dput ?_
  | with_reducible refine i_raise ?_ | with_reducible refine i_raiseK ?_ | with_reducible refine i_tryAs ?_ | with_reducible refine i_tryOnly ?_ | with_reducible refine i_err rfl ?_
  | with_reducible refine i_fld ?_ | with_reducible refine i_sfld ?_ | with_reducible refine i_meth ?_ | with_reducible refine i_new ?_ | with_reducible refine i_neg ?_
  | with_reducible refine i_add ?_ | with_reducible refine i_sub ?_ | with_reducible refine i_cmp ?_ | with_reducible refine i_int1 ?_ | with_reducible refine i_int2 ?_ | with_reducible refine i_isb ?_ | with_reducible refine i_eqi ?_ | with_reducible refine i_eqb ?_ | refine i_ixt rfl rfl ?_)
local macro_rules | `(tactic| walk_at "st") => `(tactic| repeat (walk_at "st1"))
local macro_rules | `(tactic| walk_at "tt") => `(tactic| repeat (first | walk_at "st1" | refine i_len (Nat.le_of_ble_eq_true rfl) ?_))
/-! ## codes, in plain numbers -/
def cdV (n : Int) (v : List Int) : Int := ((n * 4 + v.getD 0 0) * 256 + v.getD 1 0) * 256 + v.getD 2 0
def pad (s : Sta) (k : Nat) : List Int := (vers s).getD k [0, 0, 0]
def codeV (s : Sta) (m : Nat) : Int := (List.range m).foldl (fun n k => cdV n (pad s k)) ((vers s).length : Int)
def codeN (s : Sta) : Int := (((codeV s 4 * 256 + seen s 0) * 256 + seen s 1) * 256 + seen s 2) * 256 + seen s 3
theorem codeV_succ (s : Sta) (m : Nat) : codeV s (m + 1) = cdV (codeV s m) (pad s m) := by
  unfold codeV
  rw [List.range_succ, List.foldl_append]; rfl
theorem vers_len (s : Sta) : (vers s).length ≤ 4 := versOf_len _
theorem vers_mem3 {s : Sta} (ok : StOk s) {x : List Int} (h : x ∈ vers s) : ∃ k c w : Int, x = [k, c, w] ∧ 0 ≤ k ∧ k ≤ 3 ∧ 0 ≤ c ∧ c ≤ 255 ∧ 0 ≤ w ∧ w ≤ 255 := by
  obtain ⟨k, c, w, e, hv⟩ := mem_vers h
  have h1 := (ok k).ver c w hv
  have h2 := (ok k).hi
  have := k.isLt
  exact ⟨k.val, c, w, e, by omega, by omega, by omega, by omega, by omega, by omega⟩
theorem pad3 {s : Sta} (ok : StOk s) (i : Nat) : ∃ k c w : Int, pad s i = [k, c, w] ∧ 0 ≤ k ∧ k ≤ 3 ∧ 0 ≤ c ∧ c ≤ 255 ∧ 0 ≤ w ∧ w ≤ 255 := by
  unfold pad
  by_cases h : i < (vers s).length
  · rw [List.getD_eq_getElem?_getD, List.getElem?_eq_getElem h]
    exact vers_mem3 ok (List.getElem_mem h)
  · rw [List.getD_eq_getElem?_getD, List.getElem?_eq_none (by omega)]
    exact ⟨0, 0, 0, rfl, by decide, by decide, by decide, by decide, by decide, by decide⟩
def pop (x : Int) : Int := x / 256 / 256 / 4
def ver (x : Int) : List Int := [x / 256 / 256 % 4, x / 256 % 256, x % 256]
theorem pop_cd {n k c w : Int} (h : 0 ≤ k ∧ k ≤ 3 ∧ 0 ≤ c ∧ c ≤ 255 ∧ 0 ≤ w ∧ w ≤ 255) : pop (cdV n [k, c, w]) = n := by
  simp only [pop, cdV, List.getD_cons_zero, List.getD_cons_succ]; omega
theorem ver_cd {n k c w : Int} (h : 0 ≤ k ∧ k ≤ 3 ∧ 0 ≤ c ∧ c ≤ 255 ∧ 0 ≤ w ∧ w ≤ 255) : ver (cdV n [k, c, w]) = [k, c, w] := by
  simp only [ver, cdV, List.getD_cons_zero, List.getD_cons_succ, List.cons.injEq, and_true]; omega
theorem cd_bd {n k c w B : Int} (h : 0 ≤ k ∧ k ≤ 3 ∧ 0 ≤ c ∧ c ≤ 255 ∧ 0 ≤ w ∧ w ≤ 255) (h0 : 0 ≤ n) (h1 : n < B) : 0 ≤ cdV n [k, c, w] ∧ cdV n [k, c, w] < B * 262144 := by
  simp only [cdV, List.getD_cons_zero, List.getD_cons_succ]; omega
def decN (n : Int) : D :=
  let x := n / 256 / 256 / 256 / 256
  .tup [.tup [.int (n / 256 / 256 / 256 % 256), .int (n / 256 / 256 % 256), .int (n / 256 % 256), .int (n % 256)], .tup (([ver (pop (pop (pop x))), ver (pop (pop x)), ver (pop x), ver x].take (pop (pop (pop (pop x)))).toNat).map tI)]
theorem take_pad {L : List (List Int)} (h : L.length ≤ 4) (z : List Int) : [L.getD 0 z, L.getD 1 z, L.getD 2 z, L.getD 3 z].take L.length = L := by
  match L, h with
  | [], _ => rfl
  | [_], _ => rfl
  | [_, _], _ => rfl
  | [_, _, _], _ => rfl
  | [_, _, _, _], _ => rfl
  | _ :: _ :: _ :: _ :: _ :: _, h => simp at h
theorem code_pops {s : Sta} (ok : StOk s) : let x := codeV s 4; pop (pop (pop (pop x))) = ((vers s).length : Int) ∧ ver x = pad s 3 ∧ ver (pop x) = pad s 2 ∧ ver (pop (pop x)) = pad s 1 ∧ ver (pop (pop (pop x))) = pad s 0 := by
  obtain ⟨k0, c0, w0, e0, h0⟩ := pad3 ok 0
  obtain ⟨k1, c1, w1, e1, h1⟩ := pad3 ok 1
  obtain ⟨k2, c2, w2, e2, h2⟩ := pad3 ok 2
  obtain ⟨k3, c3, w3, e3, h3⟩ := pad3 ok 3
  simp only [codeV_succ, e0, e1, e2, e3, pop_cd h0, pop_cd h1, pop_cd h2, pop_cd h3, ver_cd h0, ver_cd h1, ver_cd h2, ver_cd h3, and_self, and_true]
  rfl
theorem code_cuts {s : Sta} (ok : StOk s) : codeN s / 256 / 256 / 256 / 256 = codeV s 4 ∧ codeN s / 256 / 256 / 256 % 256 = seen s 0 ∧ codeN s / 256 / 256 % 256 = seen s 1 ∧ codeN s / 256 % 256 = seen s 2 ∧ codeN s % 256 = seen s 3 := by
  have a0 : 0 ≤ seen s 0 ∧ seen s 0 ≤ 255 := ⟨(ok 0).lo, (ok 0).hi⟩
  have a1 : 0 ≤ seen s 1 ∧ seen s 1 ≤ 255 := ⟨(ok 1).lo, (ok 1).hi⟩
  have a2 : 0 ≤ seen s 2 ∧ seen s 2 ≤ 255 := ⟨(ok 2).lo, (ok 2).hi⟩
  have a3 : 0 ≤ seen s 3 ∧ seen s 3 ≤ 255 := ⟨(ok 3).lo, (ok 3).hi⟩
  unfold codeN
  omega
theorem dec_code {s : Sta} (ok : StOk s) : decN (codeN s) = stD s := by
  obtain ⟨h1, h2, h3, h4, h5⟩ := code_cuts ok
  obtain ⟨g1, g2, g3, g4, g5⟩ := code_pops ok
  simp only [decN]
  rw [h1, h2, h3, h4, h5, g1, g2, g3, g4, g5, Int.toNat_natCast]
  have := take_pad (vers_len s) [0, 0, 0]
  unfold pad
  rw [this]
  rfl
theorem codeN_inj {s t : Sta} (hs : StOk s) (ht : StOk t) (h : codeN s = codeN t) : s = t := stD_inj (by rw [← dec_code hs, ← dec_code ht, h])
theorem code_bd {s : Sta} (ok : StOk s) : 0 ≤ codeN s ∧ codeN s < 2 ^ 107 := by
  obtain ⟨k0, c0, w0, e0, h0⟩ := pad3 ok 0
  obtain ⟨k1, c1, w1, e1, h1⟩ := pad3 ok 1
  obtain ⟨k2, c2, w2, e2, h2⟩ := pad3 ok 2
  obtain ⟨k3, c3, w3, e3, h3⟩ := pad3 ok 3
  have a0 : 0 ≤ seen s 0 ∧ seen s 0 ≤ 255 := ⟨(ok 0).lo, (ok 0).hi⟩
  have a1 : 0 ≤ seen s 1 ∧ seen s 1 ≤ 255 := ⟨(ok 1).lo, (ok 1).hi⟩
  have a2 : 0 ≤ seen s 2 ∧ seen s 2 ≤ 255 := ⟨(ok 2).lo, (ok 2).hi⟩
  have a3 : 0 ≤ seen s 3 ∧ seen s 3 ≤ 255 := ⟨(ok 3).lo, (ok 3).hi⟩
  have l := vers_len s
  have b0 : 0 ≤ codeV s 0 ∧ codeV s 0 < 5 := by show 0 ≤ ((vers s).length : Int) ∧ ((vers s).length : Int) < 5; omega
  have b1 := cd_bd h0 b0.1 b0.2; rw [← e0, ← codeV_succ] at b1
  have b2 := cd_bd h1 b1.1 b1.2; rw [← e1, ← codeV_succ] at b2
  have b3 := cd_bd h2 b2.1 b2.2; rw [← e2, ← codeV_succ] at b3
  have b4 := cd_bd h3 b3.1 b3.2; rw [← e3, ← codeV_succ] at b4
  have b5 : 0 ≤ codeV s 4 ∧ codeV s 4 < 5 * 262144 * 262144 * 262144 * 262144 := b4
  unfold codeN
  omega
theorem code_zero {s : Sta} (ok : StOk s) : codeN s = 0 ↔ s = emp := ⟨fun h => codeN_inj ok emp_ok (h.trans rfl), fun h => by rw [h]; rfl⟩
/-! ## code -/
def sp_code : ASp := fun ds A Q _ => ∃ (s : Sta), ds = [stD s] ∧ StOk s ∧ Q (.int (codeN s)) A
def T_code : TSA := sSeq (sSet 1 (xCB lenA (xsCons (xBin ixB (xVar 0) (xC (.int 1))) (xsNil)))) (sSeq (sFor (iR1 (xsCons (xC k_REPLICAS) (xsNil))) (gName 2) (sSeq (sSet 3 (xTup (xsCons (xC (.int 0)) (xsCons (xC (.int 0)) (xsCons (xC (.int 0)) (xsNil)))))) (sSeq (sIf (xTest (xBin ltA (xVar 2) (xCB lenA (xsCons (xBin ixB (xVar 0) (xC (.int 1))) (xsNil))))) (sSet 3 (xBin ixB (xBin ixB (xVar 0) (xC (.int 1))) (xVar 2))) (sNil)) (sSet 1 (xBin addA (xBin mulA (xBin addA (xBin mulA (xBin addA (xBin mulA (xVar 1) (xC k_REPLICAS)) (xBin ixB (xVar 3) (xC (.int 0)))) (xBin addA (xC k_MAX_COUNT) (xC (.int 1)))) (xBin ixB (xVar 3) (xC (.int 1)))) (xBin addA (xC k_MAX_VALUE) (xC (.int 1)))) (xBin ixB (xVar 3) (xC (.int 2)))))))) (sSeq (sFor (iT (xBin ixB (xVar 0) (xC (.int 0)))) (gName 4) (sSet 1 (xBin addA (xBin mulA (xVar 1) (xBin addA (xC k_MAX_COUNT) (xC (.int 1)))) (xVar 4)))) (sRet (xVar 1))))
theorem l_code : ∀ ds A Q E, sp_code ds A Q E → ds.length = ["state"].length := by
  rintro ds A Q E ⟨s, rfl, _⟩; rfl
theorem w_code : ∀ ds A Q E, sp_code ds A Q E → T_code (fun _ c pl A' => E c pl A') (bodyE Q) (envA 5 ds) A := by
  rintro ds A Q E ⟨s, rfl, ok, h⟩
  unfold T_code
  walk_at "tt"
  refine i_lent rfl ?_
  walk_at "tt"
  refine i_iR1K (by decide) (by decide) ?_
  rw [show rngD 0 1 (Int.toNat 4) = _ from rng_nat (n := 4), List.length_map]
  refine for_rule (f := fun i : Nat => D.int (i : Int)) (fun pre ρ A' => A' = A ∧ ∃ o2 o3, ρ = [some (stD s), some (.int (codeV s pre.length)), o2, o3, none]) (List.range 4) (fun _ _ _ _ => trivial)
    (fun pre x post e ρ A1 hI NX nx => ?step) (fun ρ A1 hI => ?fin) ⟨rfl, none, none, rfl⟩
  case step =>
    obtain ⟨rfl, o2, o3, rfl⟩ := hI
    have ex : x = pre.length := by
      have h1 : (List.range 4)[pre.length]? = some x := by rw [e, List.getElem?_append_right (Nat.le_refl _), Nat.sub_self]; rfl
      have h2 : (List.range 4).length = (pre ++ x :: post).length := by rw [← e]
      simp only [List.length_range, List.length_append, List.length_cons] at h2
      rw [List.getElem?_range (by omega)] at h1
      exact (Option.some.inj h1).symm
    obtain ⟨k, c, w, ep, _⟩ := pad3 ok x
    have fin : ∀ ρ, ρ = [some (stD s), some (.int (cdV (codeV s pre.length) [k, c, w])), some (.int x), some (tI [k, c, w]), none] → NX ρ A1 := fun ρ er => by
      subst er
      exact nx _ _ ⟨rfl, some (.int x), some (tI [k, c, w]), by rw [List.length_append, List.length_singleton, codeV_succ, ← ex, ep]⟩
    walk_at "tt"
    refine i_lent rfl ?_
    walk_at "tt"
    rw [List.length_map]
    refine i_two (fun h1 => ?_) (fun h1 => ?_)
    · have hx : x < (vers s).length := by have := of_decide_eq_true h1; omega
      have ev : (vers s)[x] = [k, c, w] := by
        unfold pad at ep
        rw [List.getD_eq_getElem?_getD, List.getElem?_eq_getElem hx] at ep
        exact ep
      walk_at "tt"
      refine i_ixt (d := tI [k, c, w]) rfl (atI_nat (by rw [List.getElem?_map, List.getElem?_eq_getElem hx, ev]; rfl)) ?_
      walk_at "tt"
      refine i_mul (.inl (.inr (by decide))) ?_
      walk_at "tt"
      refine i_mul (.inl (.inr (by decide))) ?_
      walk_at "tt"
      refine i_mul (.inl (.inr (by decide))) ?_
      walk_at "tt"
      exact fin _ rfl
    · have hx : (vers s).length ≤ x := by have := of_decide_eq_false h1; omega
      have ev : [k, c, w] = [0, 0, 0] := by
        unfold pad at ep
        rw [List.getD_eq_getElem?_getD, List.getElem?_eq_none hx] at ep
        exact ep.symm
      simp only [List.cons.injEq, and_true] at ev
      obtain ⟨rfl, rfl, rfl⟩ := ev
      walk_at "tt"
      refine i_mul (.inl (.inr (by decide))) ?_
      walk_at "tt"
      refine i_mul (.inl (.inr (by decide))) ?_
      walk_at "tt"
      refine i_mul (.inl (.inr (by decide))) ?_
      walk_at "tt"
      exact fin _ rfl
  obtain ⟨rfl, o2, o3, rfl⟩ := hI
  rw [List.length_range]
  walk_at "tt"
  refine i_iTK (ds := [.int (seen s 0), .int (seen s 1), .int (seen s 2), .int (seen s 3)]) rfl ?_
  refine i_f1 (still := fun _ => True) trivial ?_
  walk_at "tt"
  refine i_mul (.inl (.inr (by decide))) ?_
  walk_at "tt"
  refine i_f1 (still := fun _ => True) trivial ?_
  walk_at "tt"
  refine i_mul (.inl (.inr (by decide))) ?_
  walk_at "tt"
  refine i_f1 (still := fun _ => True) trivial ?_
  walk_at "tt"
  refine i_mul (.inl (.inr (by decide))) ?_
  walk_at "tt"
  refine i_f1 (still := fun _ => True) trivial ?_
  walk_at "tt"
  refine i_mul (.inl (.inr (by decide))) ?_
  walk_at "tt"
  refine ⟨trivial, ?_⟩
  walk_at "tt"
  exact h
end Mu

namespace Mu
open PySem L2
local macro_rules | `(tactic| walk_at "st1") => `(tactic| first
  | with_reducible refine i_seq ?_ | with_reducible refine i_bin ?_ | with_reducible refine i_var rfl ?_ | with_reducible refine i_c ?_ | with_reducible refine i_cons ?_ | with_reducible refine i_nil ?_
  | with_reducible refine i_call ?_ | with_reducible refine i_cb ?_ | with_reducible refine i_test ?_ | with_reducible refine i_bl ?_ | with_reducible refine i_asg ?_ | with_reducible refine i_gname ?_
  | with_reducible refine i_sif ?_ | with_reducible refine i_ret ?_ | with_reducible refine i_drop ?_ | with_reducible refine i_lm ?_ | with_reducible refine i_snil ?_ | with_reducible refine i_retN ?_
  | with_reducible refine i_tup ?_ | with_reducible refine i_lst ?_ | with_reducible refine i_and ?_ | with_reducible refine i_or ?_ | with_reducible refine i_not ?_ | with_reducible refine i_andV ?_ | with_reducible refine i_orV ?_
  | with_reducible refine i_notV ?_ | with_reducible refine i_if ?_ | with_reducible refine i_chain ?_ | with_reducible refine i_tru ?_ | with_reducible refine i_trub ?_ | with_reducible refine i_yes ?_ | with_reducible refine i_sl ?_
  | with_reducible refine i_ono ?_ | with_reducible refine i_oso ?_ | with_reducible refine i_ex_int ?_ | with_reducible refine i_break ?_ | with_reducible refine i_aug rfl ?_ | with_reducible refine i_gtup rfl ?_
  | with_reducible refine i_gscons ?_ | with_reducible refine i_gsnil ?_ | with_reducible refine i_gsub ?_ | with_reducible refine i_for ?_ | with_reducible refine i_lc ?_ | with_reducible refine i_iT ?_ | with_reducible refine i_iL ?_ | with_reducible refine i_iR1 ?_ | with_reducible refine i_iR2 ?_ | with_reducible refine i_iR3 ?_
  | with_reducible refine i_dg ?_ | with_reducible refine i_din ?_ | with_reducible refine i_dnew ?_ | with_reducible refine i_dput ?_
  | with_reducible refine i_raise ?_ | with_reducible refine i_raiseK ?_ | with_reducible refine i_tryAs ?_ | with_reducible refine i_tryOnly ?_ | with_reducible refine i_err rfl ?_
  | with_reducible refine i_fld ?_ | with_reducible refine i_sfld ?_ | with_reducible refine i_meth ?_ | with_reducible refine i_new ?_ | with_reducible refine i_neg ?_
  | with_reducible refine i_add ?_ | with_reducible refine i_sub ?_ | with_reducible refine i_cmp ?_ | with_reducible refine i_int1 ?_ | with_reducible refine i_int2 ?_ | with_reducible refine i_isb ?_ | with_reducible refine i_eqi ?_ | with_reducible refine i_eqb ?_ | refine i_ixt rfl rfl ?_)
local macro_rules | `(tactic| walk_at "st") => `(tactic| repeat (walk_at "st1"))
local macro_rules | `(tactic| walk_at "tt") => `(tactic| repeat (first | walk_at "st1" | refine i_len (Nat.le_of_ble_eq_true rfl) ?_))
/-! ## stores -/
abbrev hf (hs : List Sta) (x : Int) : Nat → Int := fun k => codeN (hs.getD k emp) * x ^ k
/-- a store at p, its list at l, its dict at d, its trees ts: salt, object, nodes -/
structure StF (A : AHp) (p l d : Addr) (hs : List Sta) (ts : List (Int × Addr × Addr)) : Prop where
  ins : A p = some (.ins "Store" [("size", .int hs.length), ("held", .ref l), ("trees", .ref d)])
  held : A l = some (.lst (hs.map stD))
  dk : A d = some (.dk (ts.map fun t => (.inl t.1, .ref t.2.1)))
  tree : ∀ t ∈ ts, TreeAt A t.2.1 t.2.2 hs.length (hf hs t.1) t.1
  salts : (ts.map (·.1)).Nodup
  nodes : (ts.map (·.2.2)).Nodup
  nl : ∀ t ∈ ts, t.2.2 ≠ l
  ok : ∀ s ∈ hs, StOk s
  size : ∃ h, h ≤ 6 ∧ hs.length = 2 ^ h
  few : ∀ t ∈ ts, 0 ≤ t.1 ∧ t.1 < 10000
def foot (p l d : Addr) (ts : List (Int × Addr × Addr)) : Addr → Prop := fun a => a = p ∨ a = l ∨ a = d ∨ ∃ t ∈ ts, a = t.2.1 ∨ a = t.2.2
def StoreIn (A : AHp) (p : Addr) (hs : List Sta) (F : Addr → Prop) : Prop := ∃ l d ts, StF A p l d hs ts ∧ ∀ a, F a ↔ foot p l d ts a
/-- all but F as it was -/
def Out (F : Addr → Prop) (A A' : AHp) : Prop := ∀ a o, A a = some o → ¬ F a → A' a = some o
theorem StF.mono {A A' : AHp} {p l d : Addr} {hs : List Sta} {ts : List (Int × Addr × Addr)} (s : StF A p l d hs ts) (x : ∀ a o, foot p l d ts a → A a = some o → A' a = some o) : StF A' p l d hs ts where
  ins := x _ _ (.inl rfl) s.ins
  held := x _ _ (.inr (.inl rfl)) s.held
  dk := x _ _ (.inr (.inr (.inl rfl))) s.dk
  tree := fun t ht => by
    obtain ⟨ns, h1, h2, h3⟩ := s.tree t ht
    exact ⟨ns, x _ _ (.inr (.inr (.inr ⟨t, ht, .inl rfl⟩))) h1, x _ _ (.inr (.inr (.inr ⟨t, ht, .inr rfl⟩))) h2, h3⟩
  salts := s.salts
  nodes := s.nodes
  nl := s.nl
  ok := s.ok
  size := s.size
  few := s.few
theorem StoreIn.mono {A A' : AHp} {p : Addr} {hs : List Sta} {F : Addr → Prop} (s : StoreIn A p hs F) (x : ∀ a o, F a → A a = some o → A' a = some o) : StoreIn A' p hs F := by
  obtain ⟨l, d, ts, h, e⟩ := s
  exact ⟨l, d, ts, h.mono fun a o f => x a o ((e a).mpr f), e⟩
theorem StoreIn.ext {A A' : AHp} {p : Addr} {hs : List Sta} {F : Addr → Prop} (s : StoreIn A p hs F) (x : Ext A A') : StoreIn A' p hs F := s.mono fun a o _ => x a o
theorem StoreIn.used {A : AHp} {p : Addr} {hs : List Sta} {F : Addr → Prop} (s : StoreIn A p hs F) {a : Addr} (h : F a) : A a ≠ none := by
  obtain ⟨l, d, ts, st, e⟩ := s
  rcases (e a).mp h with rfl | rfl | rfl | ⟨t, ht, rfl | rfl⟩
  · rw [st.ins]; simp
  · rw [st.held]; simp
  · rw [st.dk]; simp
  · obtain ⟨ns, h1, h2, h3⟩ := st.tree t ht; rw [h1]; simp
  · obtain ⟨ns, h1, h2, h3⟩ := st.tree t ht; rw [h2]; simp
theorem StoreIn.n64 {A : AHp} {p : Addr} {hs : List Sta} {F : Addr → Prop} (s : StoreIn A p hs F) : hs.length ≤ 64 := by
  obtain ⟨l, d, ts, st, e⟩ := s
  obtain ⟨h, h1, h2⟩ := st.size
  rw [h2]; exact Nat.le_trans (Nat.pow_le_pow_right (by decide) h1) (by decide)
theorem held_at {hs : List Sta} {k : Nat} (h : k < hs.length) : atI (hs.map stD) (k : Int) = some (stD (hs.getD k emp)) :=
  atI_nat (by rw [List.getElem?_map, List.getElem?_eq_getElem h, List.getD_eq_getElem?_getD, List.getElem?_eq_getElem h]; rfl)
theorem nodup_len : ∀ (n : Nat) (l : List Nat), l.Nodup → (∀ x ∈ l, x < n) → l.length ≤ n := fun n l hd hb => by
  have := (List.nodup_range (n := n))
  have hs : l ⊆ List.range n := fun x hx => List.mem_range.mpr (hb x hx)
  have := hd.length_le_of_subset hs
  simpa using this
theorem few_len {ts : List (Int × Addr × Addr)} (h : (ts.map (·.1)).Nodup) (f : ∀ t ∈ ts, 0 ≤ t.1 ∧ t.1 < 10000) : ts.length ≤ 10000 := by
  have hd : (ts.map fun t => t.1.toNat).Nodup := by
    have e : (ts.map fun t => t.1.toNat) = (ts.map (·.1)).map Int.toNat := by rw [List.map_map]; rfl
    rw [e]
    refine List.Pairwise.map _ (S := fun a b => a ≠ b) (R := fun a b => a ≠ b ∧ a ∈ ts.map (·.1) ∧ b ∈ ts.map (·.1)) (fun a b ⟨hne, ha, hb⟩ z => ?_) ?_
    · obtain ⟨t, ht, rfl⟩ := List.mem_map.mp ha
      obtain ⟨u, hu, rfl⟩ := List.mem_map.mp hb
      have := f t ht; have := f u hu; omega
    · have := h
      rw [List.nodup_iff_pairwise_ne] at this
      exact List.Pairwise.imp_of_mem (fun ha hb hne => ⟨hne, ha, hb⟩) this
  have := nodup_len 10000 _ hd (fun x hx => by
    obtain ⟨t, ht, rfl⟩ := List.mem_map.mp hx
    have := f t ht; omega)
  simpa using this
/-! ### state -/
def sp_Store_state : ASp := fun ds A Q _ => ∃ (p : Addr) (k : Nat) (hs : List Sta) (F : Addr → Prop), ds = [.ref p, .int k] ∧ StoreIn A p hs F ∧ k < hs.length ∧ Q (stD (hs.getD k emp)) A
def T_Store_state : TSA := sRet (xBin ixB (xFld "Store" (xVar 0) "held") (xVar 1))
theorem l_Store_state : ∀ ds A Q E, sp_Store_state ds A Q E → ds.length = ["self", "key"].length := by
  rintro ds A Q E ⟨p, k, hs, F, rfl, _⟩; rfl
theorem w_Store_state : ∀ ds A Q E, sp_Store_state ds A Q E → T_Store_state (fun _ c pl A' => E c pl A') (bodyE Q) (envA 2 ds) A := by
  rintro ds A Q E ⟨p, k, hs, F, rfl, ⟨l, d, ts, st, _⟩, hk, h⟩
  unfold T_Store_state
  walk_at "st"
  refine i_fldK st.ins rfl ?_
  walk_at "st"
  refine i_ixl st.held (held_at hk) ?_
  exact h
/-! ### total -/
theorem val_in {ts : List (Int × Addr × Addr)} {x : Int} : (∃ t ∈ ts, t.1 = x ∧ valD (ts.map fun t => (.inl t.1, .ref t.2.1)) (.inl x) = some (.ref t.2.1)) ∨ ((∀ t ∈ ts, t.1 ≠ x) ∧ valD (ts.map fun t => (Sum.inl t.1, D.ref t.2.1)) (.inl x) = none) := by
  induction ts with
  | nil => exact .inr ⟨fun _ h => (by cases h), rfl⟩
  | cons t ts ih =>
    by_cases q : t.1 = x
    · exact .inl ⟨t, List.mem_cons_self, q, by simp [valD, q]⟩
    · have e : valD ((t :: ts).map fun t => (Sum.inl t.1, D.ref t.2.1)) (.inl x) = valD (ts.map fun t => (Sum.inl t.1, D.ref t.2.1)) (.inl x) := by
        simp [valD, List.find?_cons, q]
      rcases ih with ⟨u, h1, h2, h3⟩ | ⟨h1, h2⟩
      · exact .inl ⟨u, List.mem_cons_of_mem _ h1, h2, by rw [e]; exact h3⟩
      · refine .inr ⟨fun u hu => ?_, by rw [e]; exact h2⟩
        rcases List.mem_cons.mp hu with rfl | hu
        · exact q
        · exact h1 u hu
theorem put_new {ts : List (Int × Addr × Addr)} {x : Int} {v : D} (h : ∀ t ∈ ts, t.1 ≠ x) : putKD (ts.map fun t => (Sum.inl t.1, D.ref t.2.1)) (.inl x) v = (ts.map fun t => (Sum.inl t.1, D.ref t.2.1)) ++ [(.inl x, v)] := by
  unfold putKD
  rw [if_neg]
  intro z
  obtain ⟨kv, h1, h2⟩ := List.any_eq_true.mp z
  obtain ⟨t, ht, rfl⟩ := List.mem_map.mp h1
  exact h t ht (by simpa using h2)
theorem map_code (hs : List Sta) (k : Nat) : (hs.map codeN).getD k 0 = codeN (hs.getD k emp) := by
  rw [List.getD_eq_getElem?_getD, List.getD_eq_getElem?_getD, List.getElem?_map]
  cases hs[k]? with
  | none => rfl
  | some s => rfl
theorem code_pr {s : Sta} (h : StOk s) : 0 ≤ codeN s ∧ codeN s < PR := ⟨(code_bd h).1, Int.lt_trans (code_bd h).2 (by decide)⟩
def sp_Store_total : ASp := fun ds A Q _ => ∃ (p : Addr) (hs : List Sta) (F : Addr → Prop) (lo hi x : Int) (w e m j : Nat), ds = [.ref p, .int lo, .int hi, .int x] ∧ StoreIn A p hs F ∧ 0 ≤ x ∧ x < 10000 ∧ lo = ((j * w : Nat) : Int) ∧ hi = ((j * w : Nat) : Int) + (w : Nat) ∧ w = 2 ^ e ∧ hs.length = w * m ∧ j < m ∧
  ∀ A' F', StoreIn A' p hs F' → Out F A A' → (∀ a, F' a → F a ∨ A a = none) → Q (.int (rsum (hf hs x) (j * w) w % PR)) A'
def T_Store_total : TSA := sSeq (sIf (xTest (xDnin (xVar 3) (xFld "Store" (xVar 0) "trees"))) (sDput (xFld "Store" (xVar 0) "trees") (xVar 3) (xNew "Tree" sp_Tree___init__ (xsCons (xLc 4 (iL (xFld "Store" (xVar 0) "held")) xYes (xCall sp_code (xsCons (xVar 4) (xsNil)))) (xsCons (xVar 3) (xsNil))))) (sNil)) (sRet (xMeth "Tree" "total" sp_Tree_total (xDg (xFld "Store" (xVar 0) "trees") (xVar 3)) (xsCons (xVar 1) (xsCons (xVar 2) (xsNil)))))
theorem l_Store_total : ∀ ds A Q E, sp_Store_total ds A Q E → ds.length = ["self", "low", "high", "salt"].length := by
  rintro ds A Q E ⟨p, hs, F, lo, hi, x, w, e, m, j, rfl, _⟩; rfl
theorem w_Store_total : ∀ ds A Q E, sp_Store_total ds A Q E → T_Store_total (fun _ c pl A' => E c pl A') (bodyE Q) (envA 5 ds) A := by
  rintro ds A Q E ⟨p, hs, F, lo, hi, x, w, e, m, j, rfl, ⟨l, d, ts, st, eF⟩, x0, x1, rfl, rfl, hw, hm, hj, h⟩
  have n64 := StoreIn.n64 ⟨l, d, ts, st, eF⟩
  unfold T_Store_total
  walk_at "st"
  refine i_fldK st.ins rfl ?_
  refine i_dinK st.dk ?_
  walk_at "st"
  rcases val_in (ts := ts) (x := x) with ⟨t, ht, e1, e2⟩ | ⟨e1, e2⟩
  · rw [e2]
    refine i_twoF rfl ?_
    walk_at "st"
    refine i_fldK st.ins rfl ?_
    walk_at "st"
    refine i_dgK st.dk e2 ?_
    walk_at "st"
    have tr := st.tree t ht
    obtain ⟨ns, t1, t2, t3⟩ := id tr
    refine i_methK t1 rfl ?_
    walk_at "st"
    refine ⟨t.2.1, t.2.2, hs.length, w, e, m, j, hf hs t.1, t.1, rfl, tr, hw, hm, hj, n64, ?_⟩
    rw [e1]
    exact h A F ⟨l, d, ts, st, eF⟩ (fun a o ea _ => ea) fun a fa => .inl fa
  · rw [e2]
    refine i_twoT rfl ?_
    walk_at "st"
    refine i_fldK st.ins rfl ?_
    walk_at "st"
    refine i_iL_l st.held ?_
    refine lc_map stD (fun s => .int (codeN s)) (fun _ A' => A' = A) hs (by omega) (fun _ A' e => by rw [e]; exact st.held) (fun pre s post e3 A1 eA K1 k1 => ?step) (fun A1 eA => ?fin) rfl
    case step =>
      subst eA
      walk_at "st"
      exact ⟨s, rfl, st.ok s (by rw [e3]; simp), k1 _ rfl⟩
    subst eA
    intro cl ncl
    walk_at "st"
    intro p2 np2
    have ec : (hs.map fun s => D.int (codeN s)) = (hs.map codeN).map D.int := by rw [List.map_map]; rfl
    have ncp : cl ≠ p2 := ne_free ua_same np2
    refine ⟨p2, cl, x, hs.map codeN, rfl, ua_same, by rw [ua_ne ncp, ua_same, ec], by rw [List.length_map]; exact n64, fun y hy => ?_, fun A2 q nq x2 tr => ⟨rfl, ?_⟩⟩
    · obtain ⟨s, hs', rfl⟩ := List.mem_map.mp hy
      exact code_pr (st.ok s hs')
    rw [List.length_map, show (fun k => (hs.map codeN).getD k 0 * x ^ k) = hf hs x from funext fun k => by rw [map_code]] at tr
    -- what was, is
    have np2A : A1 p2 = none := by rw [ua_ne ncp.symm] at np2; exact np2
    have old : ∀ a o, A1 a = some o → A2 a = some o := fun a o ea => by
      have n1 := ne_free ea ncl
      have n2 := ne_free ea np2A
      exact x2 a o n2 (by rw [ua_ne n2, ua_ne n1]; exact ea)
    have nqA : A1 q = none := by
      cases z : A1 q with
      | none => rfl
      | some o =>
        have n1 := ne_free z ncl
        have n2 := ne_free z np2A
        rw [ua_ne n2, ua_ne n1, z] at nq; cases nq
    have st2 := st.mono (A' := A2) fun a o _ ea => old a o ea
    walk_at "st"
    refine i_fldK st2.ins rfl ?_
    walk_at "st"
    refine i_dputK st2.dk (by rw [List.length_map, sizeLine_eq]; have := few_len st2.salts st2.few; omega) ?_
    rw [put_new e1]
    obtain ⟨ns, t1, t2, t3⟩ := tr
    have d2 : d ≠ p2 := ne_free st.dk np2A
    have dq : d ≠ q := ne_free st.dk nqA
    have lq : l ≠ q := ne_free st.held nqA
    have ld : l ≠ d := fun z => by have := st.held; rw [z, st.dk] at this; cases this
    have pd : p ≠ d := fun z => by have := st.ins; rw [z, st.dk] at this; cases this
    let ts' := ts ++ [(x, p2, q)]
    have em : (ts.map fun t => ((Sum.inl t.1 : Key), D.ref t.2.1)) ++ [((Sum.inl x : Key), D.ref p2)] = ts'.map fun t => ((Sum.inl t.1 : Key), D.ref t.2.1) := by rw [List.map_append]; rfl
    rw [em]
    have st3 : StF (ua A2 d (.dk (ts'.map fun t => (.inl t.1, .ref t.2.1)))) p l d hs ts' := {
      ins := by rw [ua_ne pd]; exact st2.ins
      held := by rw [ua_ne ld]; exact st2.held
      dk := ua_same
      tree := fun t ht => by
        rcases List.mem_append.mp ht with ht | ht
        · obtain ⟨ms, g1, g2, g3⟩ := st2.tree t ht
          refine ⟨ms, ?_, ?_, g3⟩
          · rw [ua_ne fun z => by rw [z, st2.dk] at g1; cases g1]; exact g1
          · rw [ua_ne fun z => by rw [z, st2.dk] at g2; cases g2]; exact g2
        · rw [List.mem_singleton.mp ht]
          exact ⟨ns, by rw [ua_ne d2.symm]; exact t1, by rw [ua_ne dq.symm]; exact t2, t3⟩
      salts := by
        rw [List.map_append, List.nodup_append]
        refine ⟨st.salts, by simp, fun a ha b hb z => ?_⟩
        obtain ⟨t, ht, rfl⟩ := List.mem_map.mp ha
        exact e1 t ht (z.trans (by simpa using hb))
      nodes := by
        rw [List.map_append, List.nodup_append]
        refine ⟨st.nodes, by simp, fun a ha b hb z => ?_⟩
        obtain ⟨t, ht, rfl⟩ := List.mem_map.mp ha
        obtain ⟨ms, g1, g2, g3⟩ := st.tree t ht
        have hb' : b = q := by simpa using hb
        rw [z, hb', nqA] at g2; cases g2
      nl := fun t ht => by
        rcases List.mem_append.mp ht with ht | ht
        · exact st.nl t ht
        · rw [List.mem_singleton.mp ht]; exact lq.symm
      ok := st.ok
      size := st.size
      few := fun t ht => by
        rcases List.mem_append.mp ht with ht | ht
        · exact st.few t ht
        · rw [List.mem_singleton.mp ht]; exact ⟨x0, x1⟩ }
    have hout : Out F A1 (ua A2 d (.dk (ts'.map fun t => (.inl t.1, .ref t.2.1)))) := fun a o ea nf => by
      have na : a ≠ d := fun z => nf ((eF a).mpr (.inr (.inr (.inl z))))
      rw [ua_ne na]; exact old a o ea
    have hF : ∀ a, foot p l d ts' a → F a ∨ A1 a = none := fun a fa => by
      rcases fa with z | z | z | ⟨t, ht, z⟩
      · exact .inl ((eF a).mpr (.inl z))
      · exact .inl ((eF a).mpr (.inr (.inl z)))
      · exact .inl ((eF a).mpr (.inr (.inr (.inl z))))
      · rcases List.mem_append.mp ht with ht | ht
        · exact .inl ((eF a).mpr (.inr (.inr (.inr ⟨t, ht, z⟩))))
        · rw [List.mem_singleton.mp ht] at z
          rcases z with z | z
          · rw [z]; exact .inr np2A
          · rw [z]; exact .inr nqA
    generalize ua A2 d (.dk (ts'.map fun t => (.inl t.1, .ref t.2.1))) = A3 at st3 hout ⊢
    walk_at "st"
    refine i_fldK st3.ins rfl ?_
    walk_at "st"
    rcases val_in (ts := ts') (x := x) with ⟨t, ht, g1, g2⟩ | ⟨g1, _⟩
    · refine i_dgK st3.dk g2 ?_
      walk_at "st"
      have tr := st3.tree t ht
      obtain ⟨ms, m1, m2, m3⟩ := id tr
      refine i_methK m1 rfl ?_
      walk_at "st"
      refine ⟨t.2.1, t.2.2, hs.length, w, e, m, j, hf hs t.1, t.1, rfl, tr, hw, hm, hj, n64, ?_⟩
      rw [g1]
      exact h A3 (foot p l d ts') ⟨l, d, ts', st3, fun _ => Iff.rfl⟩ hout hF
    · exact absurd rfl (g1 _ (List.mem_append_right _ List.mem_cons_self))
/-! ### place -/
theorem hset {hs : List Sta} {k i : Nat} {s : Sta} (h : k < hs.length) : (hs.set k s).getD i emp = if k = i then s else hs.getD i emp := by
  rw [List.getD_eq_getElem?_getD, List.getD_eq_getElem?_getD, List.getElem?_set]
  by_cases e : k = i
  · subst e; simp [h]
  · simp [e]
theorem hf_set {hs : List Sta} {k : Nat} {s : Sta} {x : Int} (h : k < hs.length) : (fun i => if i = k then codeN s * x ^ k else hf hs x i) = hf (hs.set k s) x := by
  funext i
  show _ = codeN ((hs.set k s).getD i emp) * x ^ i
  rw [hset h]
  by_cases e : i = k
  · subst e; simp
  · rw [if_neg e, if_neg (Ne.symm e)]
def sp_Store_place : ASp := fun ds A Q _ => ∃ (p : Addr) (k : Nat) (s : Sta) (hs : List Sta) (F : Addr → Prop), ds = [.ref p, .int k, stD s] ∧ StoreIn A p hs F ∧ k < hs.length ∧ StOk s ∧ ∀ A', StoreIn A' p (hs.set k s) F → Out F A A' → Q .non A'
def T_Store_place : TSA := sSeq (sAsg (xCall sp_checked (xsCons (xVar 2) (xsNil))) (gSubL (xFld "Store" (xVar 0) "held") (xVar 1))) (sForV (xFld "Store" (xVar 0) "trees") (gName 3) (sDrop (xMeth "Tree" "change" sp_Tree_change (xVar 3) (xsCons (xVar 1) (xsCons (xCall sp_code (xsCons (xVar 2) (xsNil))) (xsNil))))))
theorem l_Store_place : ∀ ds A Q E, sp_Store_place ds A Q E → ds.length = ["self", "key", "state"].length := by
  rintro ds A Q E ⟨p, k, s, hs, F, rfl, _⟩; rfl
theorem w_Store_place : ∀ ds A Q E, sp_Store_place ds A Q E → T_Store_place (fun _ c pl A' => E c pl A') (bodyE Q) (envA 4 ds) A := by
  rintro ds A Q E ⟨p, k, s, hs, F, rfl, ⟨l, d, ts, st, eF⟩, hk, ok, h⟩
  have n64 := StoreIn.n64 ⟨l, d, ts, st, eF⟩
  have ld : l ≠ d := fun z => by have := st.held; rw [z, st.dk] at this; cases this
  have pd : p ≠ d := fun z => by have := st.ins; rw [z, st.dk] at this; cases this
  have pl : p ≠ l := fun z => by have := st.ins; rw [z, st.held] at this; cases this
  unfold T_Store_place
  walk_at "st"
  refine ⟨stD s, rfl, okT_stD _ s, fun A1 x1 => ⟨fun _ => ?_, fun n => absurd ⟨s, ok, rfl⟩ n⟩⟩
  have st1 := st.mono (A' := A1) fun a o _ ea => x1 a o ea
  walk_at "st"
  refine i_fldK st1.ins rfl ?_
  walk_at "st"
  refine i_gsubK st1.held (ixN_nat (by rw [List.length_map]; exact hk)) ?_
  rw [show (hs.map stD).set k (stD s) = (hs.set k s).map stD by rw [List.map_set]]
  have hl2 : (ua A1 l (.lst ((hs.set k s).map stD))) l = some (.lst ((hs.set k s).map stD)) := ua_same
  have o2 : ∀ a o, a ≠ l → A1 a = some o → (ua A1 l (.lst ((hs.set k s).map stD))) a = some o := fun a o ne ea => by rw [ua_ne ne]; exact ea
  generalize ua A1 l (.lst ((hs.set k s).map stD)) = A2 at hl2 o2 ⊢
  have hd2 := o2 d _ ld.symm st1.dk
  have hp2 := o2 p _ pl st1.ins
  have tl : ∀ t ∈ ts, t.2.1 ≠ l ∧ t.2.1 ≠ d ∧ t.2.2 ≠ d := fun t ht => by
    obtain ⟨ns, g1, g2, g3⟩ := st1.tree t ht
    exact ⟨fun z => (by rw [z, st1.held] at g1; cases g1), fun z => (by rw [z, st1.dk] at g1; cases g1), fun z => (by rw [z, st1.dk] at g2; cases g2)⟩
  have tr2 : ∀ t ∈ ts, TreeAt (ud A2 d) t.2.1 t.2.2 hs.length (hf hs t.1) t.1 := fun t ht => by
    obtain ⟨ns, g1, g2, g3⟩ := st1.tree t ht
    obtain ⟨n1, n2, n3⟩ := tl t ht
    exact ⟨ns, by rw [ud_ne n2]; exact o2 _ _ n1 g1, by rw [ud_ne n3]; exact o2 _ _ (st.nl t ht) g2, g3⟩
  with_reducible refine i_forV hd2 ?_
  walk_at "st"
  refine i_fldK (by rw [ud_ne pd]; exact hp2) rfl ?_
  refine ⟨rfl, ?_⟩
  rw [List.map_map, show ((fun x : Key × D => x.2) ∘ fun t : Int × Addr × Addr => ((Sum.inl t.1 : Key), D.ref t.2.1)) = fun t : Int × Addr × Addr => D.ref t.2.1 from rfl]
  refine for_rule (f := fun t : Int × Addr × Addr => D.ref t.2.1) (fun pre ρ A' => (∃ o, ρ = [some (.ref p), some (.int k), some (stD s), o]) ∧ (∀ a o, (ud A2 d) a = some o → (∀ t ∈ ts, a ≠ t.2.2) → A' a = some o) ∧ (∀ t ∈ pre, TreeAt A' t.2.1 t.2.2 hs.length (hf (hs.set k s) t.1) t.1) ∧
      ∀ t ∈ ts, t ∉ pre → TreeAt A' t.2.1 t.2.2 hs.length (hf hs t.1) t.1) ts (fun _ _ _ _ => trivial)
    (fun pre t post e ρ A3 hI NX nx => ?step) (fun ρ A3 hI => ?fin) ⟨⟨none, rfl⟩, fun a o ea _ => ea, fun t ht => (by cases ht), fun t ht _ => tr2 t ht⟩
  case step =>
    obtain ⟨⟨o, rfl⟩, h1, h2, h3⟩ := hI
    have ht : t ∈ ts := by rw [e]; simp
    have nd := st.nodes
    rw [e, List.map_append, List.map_cons, List.nodup_append] at nd
    have npre : t ∉ pre := fun z => nd.2.2 t.2.2 (List.mem_map.mpr ⟨t, z, rfl⟩) t.2.2 List.mem_cons_self rfl
    have tr := h3 t ht npre
    obtain ⟨ns, g1, g2, g3⟩ := id tr
    walk_at "st"
    refine i_methK g1 rfl ?_
    walk_at "st"
    refine ⟨s, rfl, ok, ?_⟩
    walk_at "st"
    refine ⟨t.2.1, t.2.2, hs.length, k, codeN s, hf hs t.1, t.1, rfl, tr, hk, n64, (code_pr ok).1, (code_pr ok).2, fun A4 xq _ tr' => ?_⟩
    rw [hf_set hk] at tr'
    have ins_ne : ∀ u ∈ ts, u.2.1 ≠ t.2.2 := fun u hu z => by
      have := tr2 u hu
      obtain ⟨ms, m1, m2, m3⟩ := this
      have q1 := tr2 t ht
      obtain ⟨ms', m1', m2', m3'⟩ := q1
      rw [z, m2'] at m1; cases m1
    have nodes_ne : ∀ u ∈ ts, u ≠ t → u.2.2 ≠ t.2.2 := fun u hu hne z => by
      rw [e] at hu
      rcases List.mem_append.mp hu with hu | hu
      · exact nd.2.2 u.2.2 (List.mem_map.mpr ⟨u, hu, rfl⟩) t.2.2 List.mem_cons_self z
      · rcases List.mem_cons.mp hu with hu | hu
        · exact hne hu
        · exact (List.nodup_cons.mp nd.2.1).1 (by rw [← z]; exact List.mem_map.mpr ⟨u, hu, rfl⟩)
    walk_at "st"
    refine nx _ _ ⟨⟨_, rfl⟩, fun a o ea na => xq a o (na t ht) (h1 a o ea na), fun u hu => ?_, fun u hu hn => ?_⟩
    · rcases List.mem_append.mp hu with hu | hu
      · have hne : u ≠ t := fun z => npre (by rw [← z]; exact hu)
        have hu' : u ∈ ts := by rw [e]; exact List.mem_append_left _ hu
        exact (h2 u hu).r xq (ins_ne u hu') (nodes_ne u hu' hne)
      · rw [List.mem_singleton.mp hu]; exact tr'
    · have hne : u ≠ t := fun z => hn (by rw [z]; simp)
      exact (h3 u hu fun z => hn (List.mem_append_left _ z)).r xq (ins_ne u hu) (nodes_ne u hu hne)
  obtain ⟨⟨o, rfl⟩, h1, h2, h3⟩ := hI
  have keep : ∀ a o, a ≠ d → a ≠ l → (∀ t ∈ ts, a ≠ t.2.2) → A1 a = some o → A3 a = some o := fun a o nd nl nt ea => h1 a o (by rw [ud_ne nd]; exact o2 a o nl ea) nt
  have ps : ∀ t ∈ ts, p ≠ t.2.2 := fun t ht z => by
    obtain ⟨ns, g1, g2, g3⟩ := st.tree t ht
    have := st.ins
    rw [z, g2] at this; cases this
  have len : (hs.set k s).length = hs.length := List.length_set
  refine h _ ⟨l, d, ts, ?_, eF⟩ ?_
  · exact {
      ins := by rw [ua_ne pd, len]; exact keep p _ pd pl ps st1.ins
      held := by rw [ua_ne ld]; exact h1 l _ (by rw [ud_ne ld]; exact hl2) fun t ht => (st.nl t ht).symm
      dk := ua_same
      tree := fun t ht => by
        rw [len]
        exact (h2 t ht).set (tl t ht).2.1 (tl t ht).2.2
      salts := st.salts
      nodes := st.nodes
      nl := st.nl
      ok := fun u hu => by
        rcases List.mem_or_eq_of_mem_set hu with hu | rfl
        · exact st.ok u hu
        · exact ok
      size := by rw [len]; exact st.size
      few := st.few }
  · intro a o ea nf
    have nd : a ≠ d := fun z => nf ((eF a).mpr (.inr (.inr (.inl z))))
    rw [ua_ne nd]
    exact keep a o nd (fun z => nf ((eF a).mpr (.inr (.inl z)))) (fun t ht z => nf ((eF a).mpr (.inr (.inr (.inr ⟨t, ht, .inr z⟩))))) (x1 a o ea)
end Mu

namespace Mu
open PySem L2
local macro_rules | `(tactic| walk_at "st1") => `(tactic| first
  | with_reducible refine i_seq ?_ | with_reducible refine i_bin ?_ | with_reducible refine i_var rfl ?_ | with_reducible refine i_c ?_ | with_reducible refine i_cons ?_ | with_reducible refine i_nil ?_
  | with_reducible refine i_call ?_ | with_reducible refine i_cb ?_ | with_reducible refine i_test ?_ | with_reducible refine i_bl ?_ | with_reducible refine i_asg ?_ | with_reducible refine i_gname ?_
  | with_reducible refine i_sif ?_ | with_reducible refine i_ret ?_ | with_reducible refine i_drop ?_ | with_reducible refine i_lm ?_ | with_reducible refine i_snil ?_ | with_reducible refine i_retN ?_
  | with_reducible refine i_tup ?_ | with_reducible refine i_lst ?_ | with_reducible refine i_and ?_ | with_reducible refine i_or ?_ | with_reducible refine i_not ?_ | with_reducible refine i_andV ?_ | with_reducible refine i_orV ?_
  | with_reducible refine i_notV ?_ | with_reducible refine i_if ?_ | with_reducible refine i_chain ?_ | with_reducible refine i_tru ?_ | with_reducible refine i_trub ?_ | with_reducible refine i_yes ?_ | with_reducible refine i_sl ?_
  | with_reducible refine i_ono ?_ | with_reducible refine i_oso ?_ | with_reducible refine i_ex_int ?_ | with_reducible refine i_break ?_ | with_reducible refine i_aug rfl ?_ | with_reducible refine i_gtup rfl ?_
  | with_reducible refine i_gscons ?_ | with_reducible refine i_gsnil ?_ | with_reducible refine i_gsub ?_ | with_reducible refine i_for ?_ | with_reducible refine i_lc ?_ | with_reducible refine i_iT ?_ | with_reducible refine i_iL ?_ | with_reducible refine i_iR1 ?_ | with_reducible refine i_iR2 ?_ | with_reducible refine i_iR3 ?_
  | with_reducible refine i_dg ?_ | with_reducible refine i_din ?_ | with_reducible refine i_dnew ?_ | with_reducible refine i_dput ?_
  | with_reducible refine i_raise ?_ | with_reducible refine i_raiseK ?_ | with_reducible refine i_tryAs ?_ | with_reducible refine i_tryOnly ?_ | with_reducible refine i_err rfl ?_
  | with_reducible refine i_fld ?_ | with_reducible refine i_sfld ?_ | with_reducible refine i_meth ?_ | with_reducible refine i_new ?_ | with_reducible refine i_neg ?_
  | with_reducible refine i_add ?_ | with_reducible refine i_sub ?_ | with_reducible refine i_cmp ?_ | with_reducible refine i_int1 ?_ | with_reducible refine i_int2 ?_ | with_reducible refine i_isb ?_ | with_reducible refine i_eqi ?_ | with_reducible refine i_eqb ?_ | refine i_ixt rfl rfl ?_)
local macro_rules | `(tactic| walk_at "st") => `(tactic| repeat (walk_at "st1"))
local macro_rules | `(tactic| walk_at "tt") => `(tactic| repeat (first | walk_at "st1" | refine i_len (Nat.le_of_ble_eq_true rfl) ?_))
/-! ### learn -/
theorem join_st {s t : Sta} (hs : StOk s) (ht : StOk t) : StOk (join s t) := fun k => join_ok hs ht k
theorem set_same {hs : List Sta} {k : Nat} (h : k < hs.length) : hs.set k (hs.getD k emp) = hs := by
  rw [List.getD_eq_getElem?_getD, List.getElem?_eq_getElem h]
  exact List.set_getElem_self h
theorem StoreIn.okAt {A : AHp} {p : Addr} {hs : List Sta} {F : Addr → Prop} (s : StoreIn A p hs F) {k : Nat} (h : k < hs.length) : StOk (hs.getD k emp) := by
  obtain ⟨l, d, ts, st, _⟩ := s
  rw [List.getD_eq_getElem?_getD, List.getElem?_eq_getElem h]
  exact st.ok _ (List.getElem_mem h)
def sp_Store_learn : ASp := fun ds A Q _ => ∃ (p : Addr) (k : Nat) (s : Sta) (hs : List Sta) (F : Addr → Prop), ds = [.ref p, .int k, stD s] ∧ StoreIn A p hs F ∧ k < hs.length ∧ StOk s ∧
  ∀ A', StoreIn A' p (hs.set k (join (hs.getD k emp) s)) F → Out F A A' → Q (.bl (decide (join (hs.getD k emp) s ≠ hs.getD k emp))) A'
def T_Store_learn : TSA := sSeq (sSet 3 (xCall sp_join (xsCons (xBin ixB (xFld "Store" (xVar 0) "held") (xVar 1)) (xsCons (xCall sp_checked (xsCons (xVar 2) (xsNil))) (xsNil))))) (sSeq (sIf (xTest (xBin (eqA id) (xVar 3) (xBin ixB (xFld "Store" (xVar 0) "held") (xVar 1)))) (sRet (xC (.bl false))) (sNil)) (sSeq (sDrop (xMeth "Store" "place" sp_Store_place (xVar 0) (xsCons (xVar 1) (xsCons (xVar 3) (xsNil))))) (sRet (xC (.bl true)))))
theorem l_Store_learn : ∀ ds A Q E, sp_Store_learn ds A Q E → ds.length = ["self", "key", "state"].length := by
  rintro ds A Q E ⟨p, k, s, hs, F, rfl, _⟩; rfl
theorem w_Store_learn : ∀ ds A Q E, sp_Store_learn ds A Q E → T_Store_learn (fun _ c pl A' => E c pl A') (bodyE Q) (envA 4 ds) A := by
  rintro ds A Q E ⟨p, k, s, hs, F, rfl, si, hk, ok, h⟩
  have oh := si.okAt hk
  obtain ⟨l, d, ts, st, eF⟩ := id si
  unfold T_Store_learn
  walk_at "st"
  refine i_fldK st.ins rfl ?_
  walk_at "st"
  refine i_ixl st.held (held_at hk) ?_
  walk_at "st"
  refine ⟨stD s, rfl, okT_stD _ s, fun A1 x1 => ⟨fun _ => ?_, fun n => absurd ⟨s, ok, rfl⟩ n⟩⟩
  walk_at "st"
  refine ⟨hs.getD k emp, s, rfl, oh, ok, fun A2 x2 => ?_⟩
  have s2 := (si.ext x1).ext x2
  have st2 := (st.mono (A' := A1) fun a o _ ea => x1 a o ea).mono (A' := A2) fun a o _ ea => x2 a o ea
  walk_at "st"
  refine i_fldK st2.ins rfl ?_
  walk_at "st"
  refine i_ixl st2.held (held_at hk) ?_
  walk_at "st"
  refine i_eq (cmp_stD _) (cmp_stD _) fun b hb => ?_
  rw [stD_eq] at hb
  walk_at "st"
  refine i_two (fun h1 => ?_) (fun h1 => ?_)
  · have e := hb.mp h1
    walk_at "st"
    have := h A2 (by rw [e, set_same hk]; exact s2) fun a o ea _ => x2 a o (x1 a o ea)
    rw [decide_eq_false (by rw [e]; simp)] at this
    exact this
  · have ne : join (hs.getD k emp) s ≠ hs.getD k emp := fun z => by rw [hb.mpr z] at h1; cases h1
    walk_at "st"
    refine i_methK st2.ins rfl ?_
    walk_at "st"
    refine ⟨p, k, join (hs.getD k emp) s, hs, F, rfl, s2, hk, join_st oh ok, fun A3 s3 o3 => ?_⟩
    walk_at "st"
    have := h A3 s3 fun a o ea nf => o3 a o (x2 a o (x1 a o ea)) nf
    rw [decide_eq_true ne] at this
    exact this
/-! ### rows -/
def rowsD (hs : List Sta) : List D := ((List.range hs.length).filter fun k => decide (hs.getD k emp ≠ emp)).map fun k : Nat => D.tup [.int (k : Int), stD (hs.getD k emp)]
def sp_Store_rows : ASp := fun ds A Q _ => ∃ (p : Addr) (hs : List Sta) (F : Addr → Prop), ds = [.ref p] ∧ StoreIn A p hs F ∧ ∀ q A', Ext A A' → A q = none → A' q = some (.lst (rowsD hs)) → Q (.ref q) A'
def T_Store_rows : TSA := sRet (xLc 1 (iR1 (xsCons (xFld "Store" (xVar 0) "size") (xsNil))) (xTest (xBin (eqA not) (xBin ixB (xFld "Store" (xVar 0) "held") (xVar 1)) (xC k_EMPTY))) (xTup (xsCons (xVar 1) (xsCons (xBin ixB (xFld "Store" (xVar 0) "held") (xVar 1)) (xsNil)))))
theorem l_Store_rows : ∀ ds A Q E, sp_Store_rows ds A Q E → ds.length = ["self"].length := by
  rintro ds A Q E ⟨p, hs, F, rfl, _⟩; rfl
theorem w_Store_rows : ∀ ds A Q E, sp_Store_rows ds A Q E → T_Store_rows (fun _ c pl A' => E c pl A') (bodyE Q) (envA 2 ds) A := by
  rintro ds A Q E ⟨p, hs, F, rfl, si, h⟩
  have n64 := si.n64
  obtain ⟨l, d, ts, st, eF⟩ := si
  unfold T_Store_rows
  walk_at "st"
  refine i_fldK st.ins rfl ?_
  walk_at "st"
  refine i_iR1K (by omega) (by omega) ?_
  rw [Int.toNat_natCast, show rngD 0 1 hs.length = _ from rng_nat (n := hs.length)]
  refine lc_rule (fun i : Nat => D.int (i : Int)) (fun k : Nat => D.tup [.int (k : Int), stD (hs.getD k emp)]) (fun k => decide (hs.getD k emp ≠ emp)) (fun _ A' => A' = A) (List.range hs.length) (by rw [List.length_range]; omega) (fun _ _ _ => trivial)
    (fun pre x post e A1 eA K1 K2 k1 k2 => ?step) (fun A1 eA q nq => ?fin) rfl
  case step =>
    subst eA
    obtain ⟨ex, lx⟩ := rng_pre e
    have hx : x < hs.length := by omega
    walk_at "st"
    refine i_fldK st.ins rfl ?_
    walk_at "st"
    refine i_ixl st.held (held_at hx) ?_
    walk_at "st"
    refine i_eq (cmp_stD _) (cmp_stD emp) fun b hb => ?_
    have hb' : b = true ↔ hs.getD x emp = emp := hb.trans (show stD (hs.getD x emp) = stD emp ↔ _ from stD_eq)
    walk_at "st"
    refine i_two (fun h1 => ?_) (fun h1 => ?_)
    · have ne : hs.getD x emp ≠ emp := fun z => by rw [hb'.mpr z] at h1; cases h1
      walk_at "st"
      refine i_fldK st.ins rfl ?_
      walk_at "st"
      refine i_ixl st.held (held_at hx) ?_
      walk_at "tt"
      exact k1 (decide_eq_true ne) _ rfl
    · have e1 : hs.getD x emp = emp := hb'.mp (by cases b with
        | true => rfl
        | false => cases h1)
      exact k2 (decide_eq_false fun z => z e1) _ rfl
  subst eA
  exact h q _ (Ext.new nq) nq ua_same
/-! ### a new store -/
abbrev k_SIZES : D := .tup [.int 1, .int 2, .int 4, .int 8, .int 16, .int 32, .int 64]
def okSize (x : D) : Prop := ∃ h, h ≤ 6 ∧ x = .int ((2 ^ h : Nat) : Int)
def sp_Store___init__ : ASp := fun ds A Q EX => ∃ (p : Addr) (x : D), ds = [.ref p, x] ∧ A p = some (.ins "Store" []) ∧ ((∃ n, x = .int n) ∨ ∃ b, x = .bl b) ∧
  (∀ h, h ≤ 6 → x = .int ((2 ^ h : Nat) : Int) → ∀ A' F, StoreIn A' p (List.replicate (2 ^ h) emp) F → ExtR p A A' → (∀ a, F a → a = p ∨ A a = none) → Q .non A') ∧ (¬ okSize x → EX "Invalid" (.str "size") A)
def T_Store___init__ : TSA := sSeq (sIf (xOr (xTru (xCB isiA (xsCons (xVar 1) (xsCons (xC (.ty "bool")) (xsNil))))) (xTest (xBin (inA not) (xVar 1) (xC k_SIZES)))) (sRaise "Invalid" (xsCons (xC (.str "size")) (xsNil))) (sNil)) (sSeq (sFld "Store" (xVar 0) (xVar 1) "size") (sSeq (sFld "Store" (xVar 0) (xBin mulA (xLst (xsCons (xC k_EMPTY) (xsNil))) (xVar 1)) "held") (sFld "Store" (xVar 0) (xDnew) "trees")))
theorem l_Store___init__ : ∀ ds A Q E, sp_Store___init__ ds A Q E → ds.length = ["self", "size"].length := by
  rintro ds A Q E ⟨p, x, rfl, _⟩; rfl
theorem sizes_iff (n : Int) : (D.int n ∈ [D.int 1, .int 2, .int 4, .int 8, .int 16, .int 32, .int 64]) ↔ ∃ h, h ≤ 6 ∧ n = ((2 ^ h : Nat) : Int) := by
  constructor
  · intro z
    simp only [List.mem_cons, D.int.injEq, List.not_mem_nil, or_false] at z
    rcases z with rfl | rfl | rfl | rfl | rfl | rfl | rfl
    · exact ⟨0, by decide, rfl⟩
    · exact ⟨1, by decide, rfl⟩
    · exact ⟨2, by decide, rfl⟩
    · exact ⟨3, by decide, rfl⟩
    · exact ⟨4, by decide, rfl⟩
    · exact ⟨5, by decide, rfl⟩
    · exact ⟨6, by decide, rfl⟩
  · rintro ⟨h, h6, rfl⟩
    have : h = 0 ∨ h = 1 ∨ h = 2 ∨ h = 3 ∨ h = 4 ∨ h = 5 ∨ h = 6 := by omega
    rcases this with rfl | rfl | rfl | rfl | rfl | rfl | rfl <;> simp
theorem w_Store___init__ : ∀ ds A Q E, sp_Store___init__ ds A Q E → T_Store___init__ (fun _ c pl A' => E c pl A') (bodyE Q) (envA 2 ds) A := by
  rintro ds A Q E ⟨p, x, rfl, hp, hx, h, he⟩
  unfold T_Store___init__
  walk_at "st"
  rcases hx with ⟨n, rfl⟩ | ⟨b, rfl⟩
  · refine i_isi (show "int" ∈ _ by decide) (by decide) ?_
    walk_at "st"
    refine i_twoF rfl ?_
    walk_at "st"
    refine i_in (.inr rfl) (x := .int n) (cmp_int n) (by rfl) fun b hb => ?_
    rw [sizes_iff] at hb
    walk_at "st"
    cases b with
    | false =>
      refine i_twoT rfl ?_
      walk_at "st"
      refine he fun ⟨g, g1, g2⟩ => ?_
      cases hb.mpr ⟨g, g1, D.int.inj g2⟩
    | true =>
      obtain ⟨g, g1, rfl⟩ := hb.mp rfl
      refine i_twoF rfl ?_
      walk_at "st"
      have p64 : 2 ^ g ≤ 64 := Nat.le_trans (Nat.pow_le_pow_right (by decide) g1) (by decide)
      have p0 : (0 : Int) ≤ ((2 ^ g : Nat) : Int) := Int.natCast_nonneg _
      have p1 : ((2 ^ g : Nat) : Int) ≤ 64 := Int.ofNat_le.mpr p64
      refine i_sfldK hp (Nat.le_of_ble_eq_true rfl) rfl ?_
      walk_at "st"
      refine ⟨by decide, fun z nz => ?_⟩
      have npz : p ≠ z := ne_free ua_same nz
      walk_at "st"
      refine i_mulL ua_same p0 (Int.lt_of_le_of_lt p1 (by decide)) (by rw [Int.toNat_natCast, sizeLine_eq]; simp; omega) fun l nl => ?_
      have npl : p ≠ l := ne_free (show (ua (ua A p _) z _) p = _ by rw [ua_ne npz]; exact ua_same) nl
      have nzl : z ≠ l := ne_free ua_same nl
      have nAz : A z = none := by rw [ua_ne npz.symm] at nz; exact nz
      have nAl : A l = none := by rw [ua_ne nzl.symm, ua_ne npl.symm] at nl; exact nl
      walk_at "st"
      refine i_sfldK (by rw [ua_ne npl, ua_ne npz]; exact ua_same) (Nat.le_of_ble_eq_true rfl) rfl ?_
      walk_at "st"
      intro d nd
      have npd : p ≠ d := ne_free ua_same nd
      have nld : l ≠ d := ne_free (by rw [ua_ne npl.symm]; exact ua_same) nd
      have nAd : A d = none := by
        cases q : A d with
        | none => rfl
        | some o =>
          have d1 : d ≠ z := ne_free q nAz
          have d2 : d ≠ l := ne_free q nAl
          rw [ua_ne npd.symm, ua_ne d2, ua_ne d1, ua_ne npd.symm, q] at nd; cases nd
      walk_at "st"
      refine i_sfldK (by rw [ua_ne npd]; exact ua_same) (Nat.le_of_ble_eq_true rfl) rfl ?_
      have rep : (List.replicate (((2 ^ g : Nat) : Int)).toNat [k_EMPTY]).flatten = (List.replicate (2 ^ g) emp).map stD := by
        rw [Int.toNat_natCast]
        generalize 2 ^ g = m
        induction m with
        | zero => rfl
        | succ m ih => rw [List.replicate_succ, List.flatten_cons, ih, List.replicate_succ]; rfl
      rw [rep]
      have len : (List.replicate (2 ^ g) emp).length = 2 ^ g := List.length_replicate
      refine h g g1 rfl _ (foot p l d []) ⟨l, d, [], { ins := (by rw [len]; exact ua_same), held := ?_, dk := ?_, tree := fun t ht => (by cases ht), salts := (by simp), nodes := (by simp), nl := fun t ht => (by cases ht), ok := fun s hs => (by rw [(List.mem_replicate.mp hs).2]; exact emp_ok), size := ⟨g, g1, len⟩, few := fun t ht => (by cases ht) }, fun _ => Iff.rfl⟩ (fun a o ne ea => ?_) (fun a fa => ?_)
      · rw [ua_ne npl.symm, ua_ne nld, ua_ne npl.symm]; exact ua_same
      · rw [ua_ne npd.symm]; exact ua_same
      · rw [ua_ne ne, ua_ne (ne_free ea nAd), ua_ne ne, ua_ne (ne_free ea nAl), ua_ne (ne_free ea nAz), ua_ne ne]; exact ea
      · rcases fa with z | z | z | ⟨t, ht, _⟩
        · exact .inl z
        · exact .inr (by rw [z]; exact nAl)
        · exact .inr (by rw [z]; exact nAd)
        · cases ht
  · refine i_isi (show "bool" ∈ _ by decide) (by decide) ?_
    walk_at "st"
    refine i_twoT rfl ?_
    refine i_twoT rfl ?_
    walk_at "st"
    exact he fun ⟨g, g1, g2⟩ => by cases g2
end Mu


namespace Mu
open PySem L2
local macro_rules | `(tactic| walk_at "st1") => `(tactic| first
  | with_reducible refine i_seq ?_ | with_reducible refine i_bin ?_ | with_reducible refine i_var rfl ?_ | with_reducible refine i_c ?_ | with_reducible refine i_cons ?_ | with_reducible refine i_nil ?_
  | with_reducible refine i_call ?_ | with_reducible refine i_cb ?_ | with_reducible refine i_test ?_ | with_reducible refine i_bl ?_ | with_reducible refine i_asg ?_ | with_reducible refine i_gname ?_
  | with_reducible refine i_sif ?_ | with_reducible refine i_ret ?_ | with_reducible refine i_drop ?_ | with_reducible refine i_lm ?_ | with_reducible refine i_snil ?_ | with_reducible refine i_retN ?_
  | with_reducible refine i_tup ?_ | with_reducible refine i_lst ?_ | with_reducible refine i_and ?_ | with_reducible refine i_or ?_ | with_reducible refine i_not ?_ | with_reducible refine i_andV ?_ | with_reducible refine i_orV ?_
  | with_reducible refine i_notV ?_ | with_reducible refine i_if ?_ | with_reducible refine i_chain ?_ | with_reducible refine i_tru ?_ | with_reducible refine i_trub ?_ | with_reducible refine i_yes ?_ | with_reducible refine i_sl ?_
  | with_reducible refine i_ono ?_ | with_reducible refine i_oso ?_ | with_reducible refine i_ex_int ?_ | with_reducible refine i_break ?_ | with_reducible refine i_aug rfl ?_ | with_reducible refine i_gtup rfl ?_
  | with_reducible refine i_gscons ?_ | with_reducible refine i_gsnil ?_ | with_reducible refine i_gsub ?_ | with_reducible refine i_for ?_ | with_reducible refine i_lc ?_ | with_reducible refine i_iT ?_ | with_reducible refine i_iL ?_ | with_reducible refine i_iR1 ?_ | with_reducible refine i_iR2 ?_ | with_reducible refine i_iR3 ?_
  | with_reducible refine i_dg ?_ | with_reducible refine i_din ?_ | with_reducible refine i_dnew ?_ | with_reducible refine i_dput ?_
  | with_reducible refine i_raise ?_ | with_reducible refine i_raiseK ?_ | with_reducible refine i_tryAs ?_ | with_reducible refine i_tryOnly ?_ | with_reducible refine i_err rfl ?_
  | with_reducible refine i_fld ?_ | with_reducible refine i_sfld ?_ | with_reducible refine i_meth ?_ | with_reducible refine i_new ?_ | with_reducible refine i_neg ?_
  | with_reducible refine i_add ?_ | with_reducible refine i_sub ?_ | with_reducible refine i_cmp ?_ | with_reducible refine i_int1 ?_ | with_reducible refine i_int2 ?_ | with_reducible refine i_isb ?_ | with_reducible refine i_eqi ?_ | with_reducible refine i_eqb ?_ | refine i_ixt rfl rfl ?_)
local macro_rules | `(tactic| walk_at "st") => `(tactic| repeat (walk_at "st1"))
local macro_rules | `(tactic| walk_at "tt") => `(tactic| repeat (first | walk_at "st1" | refine i_len (Nat.le_of_ble_eq_true rfl) ?_))
/-! ## stores, rows of draws as pieces -/
section
variable {L : List SP} {A : AHp}
def StoreS (p : Addr) (hs : List Sta) : SP := ⟨fun h => ∃ F, StoreIn h p hs F, fun ⟨F, s⟩ x => ⟨F, s.ext x⟩⟩
def Row (r : Addr) : SP := ⟨fun h => RowAt h r, fun s x => s.e x⟩
theorem Hs.store {p : Addr} {hs : List Sta} (S : Hs (StoreS p hs :: L) A) : ∃ F, StoreIn A p hs F ∧ ∀ A' hs' F', StoreIn A' p hs' F' → Out F A A' → (∀ a, F' a → F a ∨ A a = none) → Hs (StoreS p hs' :: L) A' := by
  obtain ⟨k, ⟨F, s⟩, x, back⟩ := S.un
  have S2 := back ⟨fun h => StoreIn h p hs F, fun s x => s.ext x⟩ s
  exact ⟨F, s.ext x, fun A' hs' F' s' o f => S2.frame F F' (fun k s _ a fa => s.used fa) o f fun k hk => ⟨F', s'.mono hk⟩⟩
theorem Hs.row {r : Addr} (S : Hs (Row r :: L) A) : RowAt A r ∧ ∀ A', ExtR r A A' → RowAt A' r → Hs (Row r :: L) A' :=
  ⟨S.head, fun A' x r' => S.frame (· = r) (· = r) (fun k s _ a fa => by obtain ⟨p, xs, e, _⟩ := s; rw [fa, e]; simp) (fun a o ea n => x a o n ea) (fun a fa => .inl fa) fun k hk => by
    obtain ⟨p, xs, e, h⟩ := r'
    exact ⟨p, xs, hk r _ rfl e, h⟩⟩
theorem StoreS.n64 {p : Addr} {hs : List Sta} (s : (StoreS p hs).P A) : hs.length ≤ 64 := by obtain ⟨F, s⟩ := s; exact s.n64
theorem StoreS.okAt {p : Addr} {hs : List Sta} (s : (StoreS p hs).P A) {k : Nat} (h : k < hs.length) : StOk (hs.getD k emp) := by obtain ⟨F, s⟩ := s; exact s.okAt h
theorem StoreS.ins {p : Addr} {hs : List Sta} (s : (StoreS p hs).P A) : ∃ l d, A p = some (.ins "Store" [("size", .int hs.length), ("held", .ref l), ("trees", .ref d)]) := by obtain ⟨F, l, d, ts, st, _⟩ := s; exact ⟨l, d, st.ins⟩
theorem StoreS.size {p : Addr} {hs : List Sta} (s : (StoreS p hs).P A) : ∃ h, h ≤ 6 ∧ hs.length = 2 ^ h := by obtain ⟨F, l, d, ts, st, _⟩ := s; exact st.size
end
/-! the promises over pieces -/
section
variable {A : AHp} {Q : AK} {EX : String → D → AHp → Prop} {L : List SP} {n : Nat}
theorem c_take (S : Hs L A) (n : Nat) {r : Addr} {m : Int} (e : nth L n = Row r) (hm : 0 < m) (k : ∀ (v : Int) A', 0 ≤ v → v < m → Hs (setN L n (Row r)) A' → Q (.int v) A') : sp_q_take [.ref r, .int m] A Q EX := by
  have S1 := S.f n; rw [e] at S1
  obtain ⟨r1, b⟩ := S1.row
  exact ⟨r, m, rfl, r1, hm, fun v A' v0 v1 x r' => k v A' v0 v1 ((b A' x r').b n)⟩
theorem c_state_ (S : Hs L A) (n : Nat) {r : Addr} (e : nth L n = Row r) (k : ∀ (s : Sta) A', GenSt s → Hs (setN L n (Row r)) A' → Q (stD s) A') : sp_q_state [.ref r] A Q EX := by
  have S1 := S.f n; rw [e] at S1
  obtain ⟨r1, b⟩ := S1.row
  exact ⟨r, rfl, r1, fun s A' g x r' => k s A' g ((b A' x r').b n)⟩
theorem c_sstate (S : Hs L A) (n : Nat) {p : Addr} {hs : List Sta} {i : Nat} (e : nth L n = StoreS p hs) (hi : i < hs.length) (k : Q (stD (hs.getD i emp)) A) : sp_Store_state [.ref p, .int i] A Q EX := by
  have S1 := S.f n; rw [e] at S1
  obtain ⟨F, s, b⟩ := S1.store
  exact ⟨p, i, hs, F, rfl, s, hi, k⟩
theorem c_total (S : Hs L A) (n : Nat) {p : Addr} {hs : List Sta} {lo hi x : Int} (w e m j : Nat) (eL : nth L n = StoreS p hs) (x0 : 0 ≤ x) (x1 : x < 10000) (h1 : lo = ((j * w : Nat) : Int)) (h2 : hi = ((j * w : Nat) : Int) + (w : Nat)) (h3 : w = 2 ^ e) (h4 : hs.length = w * m) (h5 : j < m)
    (k : ∀ A', Hs (setN L n (StoreS p hs)) A' → Q (.int (rsum (hf hs x) (j * w) w % PR)) A') : sp_Store_total [.ref p, .int lo, .int hi, .int x] A Q EX := by
  have S1 := S.f n; rw [eL] at S1
  obtain ⟨F, s, b⟩ := S1.store
  exact ⟨p, hs, F, lo, hi, x, w, e, m, j, rfl, s, x0, x1, h1, h2, h3, h4, h5, fun A' F' s' o f => k A' ((b A' _ F' s' o f).b n)⟩
theorem c_place (S : Hs L A) (n : Nat) {p : Addr} {hs : List Sta} {i : Nat} {s : Sta} (eL : nth L n = StoreS p hs) (hi : i < hs.length) (ok : StOk s) (k : ∀ A', Hs (setN L n (StoreS p (hs.set i s))) A' → Q .non A') : sp_Store_place [.ref p, .int i, stD s] A Q EX := by
  have S1 := S.f n; rw [eL] at S1
  obtain ⟨F, si, b⟩ := S1.store
  exact ⟨p, i, s, hs, F, rfl, si, hi, ok, fun A' s' o => k A' ((b A' _ F s' o fun a fa => .inl fa).b n)⟩
theorem c_learn (S : Hs L A) (n : Nat) {p : Addr} {hs : List Sta} {i : Nat} {s : Sta} (eL : nth L n = StoreS p hs) (hi : i < hs.length) (ok : StOk s)
    (k : ∀ A', Hs (setN L n (StoreS p (hs.set i (join (hs.getD i emp) s)))) A' → Q (.bl (decide (join (hs.getD i emp) s ≠ hs.getD i emp))) A') : sp_Store_learn [.ref p, .int i, stD s] A Q EX := by
  have S1 := S.f n; rw [eL] at S1
  obtain ⟨F, si, b⟩ := S1.store
  exact ⟨p, i, s, hs, F, rfl, si, hi, ok, fun A' s' o => k A' ((b A' _ F s' o fun a fa => .inl fa).b n)⟩
theorem Hs.newX (S : Hs L A) {q : Addr} {o : AO} {A' : AHp} (n : A q = none) (x : Ext A A') (h : A' q = some o) : Hs (pt q o :: L) A' := by
  have S1 := S.top
  exact S1.frame (fun _ => False) (· = q) (fun _ _ _ _ z => z.elim) (fun a o e _ => x a o e) (fun a e => .inr (by rw [e]; exact n)) fun k hk => hk q _ rfl h
theorem c_rows (S : Hs L A) (n : Nat) {p : Addr} {hs : List Sta} (eL : nth L n = StoreS p hs) (k : ∀ q A', Hs (pt q (.lst (rowsD hs)) :: L) A' → Q (.ref q) A') : sp_Store_rows [.ref p] A Q EX := by
  have S1 := S.f n; rw [eL] at S1
  obtain ⟨F, si, b⟩ := S1.store
  exact ⟨p, hs, F, rfl, si, fun q A' x nq h => k q A' (S.newX nq x h)⟩
theorem c_stream {ns : List Int} (S : Hs L A) (hl : ns.length ≤ 63) (k : ∀ r A', Hs (Row r :: L) A' → Q (.ref r) A') : sp_q_stream [.fls (ns.map D.int)] A Q EX := by
  refine ⟨ns, rfl, hl, fun A' r x nr h => k r A' ?_⟩
  obtain ⟨p, xs, e, h1⟩ := h
  exact (S.newX nr x e).imp fun k hk => ⟨p, xs, hk, h1⟩
/-- a store is made -/
theorem c_storeN (S : Hs L A) (h : Nat) (h6 : h ≤ 6) {m : Int} (e : m = ((2 ^ h : Nat) : Int)) {p : Addr} (np : A p = none) {EX : String → D → AHp → Prop} {P : AHp → Prop} (k : ∀ A', Hs (StoreS p (List.replicate (2 ^ h) emp) :: L) A' → P A') : sp_Store___init__ [.ref p, .int m] (ua A p (.ins "Store" [])) (fun d A2 => d = .non ∧ P A2) EX := by
  subst e
  refine ⟨p, _, rfl, ua_same, .inl ⟨_, rfl⟩, fun g h1 e A' F s x f => ⟨rfl, k A' ?_⟩, fun no => absurd ⟨h, h6, rfl⟩ no⟩
  have e2 : 2 ^ g = 2 ^ h := (Int.ofNat.inj (D.int.inj e)).symm
  rw [e2] at s
  refine (S.new (o := .ins "Store" []) np).frame (· = p) F (fun k s _ a fa => by rw [fa, show k p = some _ from s]; simp) (fun a o ea n => x a o n ea) (fun a fa => ?_) fun k hk => ⟨F, s.mono hk⟩
  rcases f a fa with q | q
  · exact .inl q
  · exact .inr q
end
/-! ## halves of halves -/
def Rng (n lo w : Nat) : Prop := ∃ e m j, w = 2 ^ e ∧ n = w * m ∧ j < m ∧ lo = j * w
theorem Rng.half {n lo w : Nat} (h : Rng n lo w) (h1 : w ≠ 1) : Rng n lo (w / 2) ∧ Rng n (lo + w / 2) (w / 2) ∧ w = w / 2 + w / 2 := by
  obtain ⟨e, m, j, rfl, hn, hj, rfl⟩ := h
  cases e with
  | zero => exact absurd rfl h1
  | succ e =>
    have e2 : 2 ^ (e + 1) / 2 = 2 ^ e := by rw [Nat.pow_succ]; omega
    have e3 : 2 ^ (e + 1) = 2 ^ e + 2 ^ e := by rw [Nat.pow_succ]; omega
    rw [e2]
    refine ⟨⟨e, 2 * m, 2 * j, rfl, by rw [hn, Nat.pow_succ, Nat.mul_assoc], by omega, ?_⟩, ⟨e, 2 * m, 2 * j + 1, rfl, by rw [hn, Nat.pow_succ, Nat.mul_assoc], by omega, ?_⟩, e3⟩
    · rw [e3, Nat.mul_add, Nat.mul_comm 2 j, Nat.mul_assoc, Nat.two_mul, Nat.mul_add]
    · rw [e3, Nat.add_mul, Nat.one_mul, Nat.mul_add, Nat.mul_comm 2 j, Nat.mul_assoc, Nat.two_mul, Nat.mul_add]
theorem Rng.all {h : Nat} : Rng (2 ^ h) 0 (2 ^ h) := ⟨h, 1, 0, rfl, by omega, by decide, by omega⟩
theorem Rng.le {n lo w : Nat} (h : Rng n lo w) : lo + w ≤ n ∧ 0 < w := by
  obtain ⟨e, m, j, rfl, hn, hj, rfl⟩ := h
  refine ⟨?_, Nat.two_pow_pos e⟩
  have : (j + 1) * 2 ^ e ≤ m * 2 ^ e := Nat.mul_le_mul_right _ hj
  rw [hn, Nat.mul_comm (2 ^ e) m]
  rw [Nat.add_mul] at this; omega
/-- the sum of a range -/
def tot (hs : List Sta) (x : Int) (lo w : Nat) : Int := rsum (hf hs x) lo w % PR
theorem c_tot {A : AHp} {Q : AK} {EX : String → D → AHp → Prop} {L : List SP} (S : Hs L A) (n : Nat) {p : Addr} {hs : List Sta} {lo hi x : Int} {l w : Nat} (eL : nth L n = StoreS p hs) (x0 : 0 ≤ x) (x1 : x < 10000) (hr : Rng hs.length l w) (h1 : lo = (l : Int)) (h2 : hi = (l : Int) + (w : Int))
    (k : ∀ A', Hs (setN L n (StoreS p hs)) A' → Q (.int (tot hs x l w)) A') : sp_Store_total [.ref p, .int lo, .int hi, .int x] A Q EX := by
  obtain ⟨e, m, j, hw, hn, hj, rfl⟩ := hr
  exact c_total S n w e m j eL x0 x1 h1 h2 hw hn hj k
end Mu

namespace Mu
open PySem L2
local macro_rules | `(tactic| walk_at "sj1") => `(tactic| first
  | with_reducible refine i_seq ?_ | with_reducible refine i_bin ?_ | with_reducible refine i_var rfl ?_ | with_reducible refine i_c ?_ | with_reducible refine i_cons ?_ | with_reducible refine i_nil ?_
  | with_reducible refine i_call ?_ | with_reducible refine i_cb ?_ | with_reducible refine i_test ?_ | with_reducible refine i_bl ?_ | with_reducible refine i_asg ?_ | with_reducible refine i_gname ?_
  | with_reducible refine i_sif ?_ | with_reducible refine i_ret ?_ | with_reducible refine i_drop ?_ | with_reducible refine i_lm ?_ | with_reducible refine i_snil ?_ | with_reducible refine i_retN ?_
  | with_reducible refine i_tup ?_ | with_reducible refine j_lst ?_ | with_reducible refine i_and ?_ | with_reducible refine i_or ?_ | with_reducible refine i_not ?_ | with_reducible refine i_andV ?_ | with_reducible refine i_orV ?_
  | with_reducible refine i_notV ?_ | with_reducible refine i_if ?_ | with_reducible refine i_chain ?_ | with_reducible refine i_tru ?_ | with_reducible refine i_trub ?_ | with_reducible refine i_yes ?_ | with_reducible refine i_sl ?_
  | with_reducible refine i_ono ?_ | with_reducible refine i_oso ?_ | with_reducible refine i_ex_int ?_ | with_reducible refine i_break ?_ | with_reducible refine i_aug rfl ?_ | with_reducible refine i_gtup rfl ?_
  | with_reducible refine i_gscons ?_ | with_reducible refine i_gsnil ?_ | with_reducible refine i_gsub ?_ | with_reducible refine i_for ?_ | with_reducible refine j_lc ?_ | with_reducible refine i_iT ?_ | with_reducible refine i_iL ?_ | with_reducible refine i_iR1 ?_ | with_reducible refine i_iR2 ?_ | with_reducible refine i_iR3 ?_
  | with_reducible refine i_dg ?_ | with_reducible refine i_din ?_ | with_reducible refine j_dnew ?_ | with_reducible refine i_dput ?_
  | with_reducible refine i_raise ?_ | with_reducible refine i_raiseK ?_ | with_reducible refine i_tryAs ?_ | with_reducible refine i_tryOnly ?_ | with_reducible refine i_err rfl ?_
  | with_reducible refine i_fld ?_ | with_reducible refine i_sfld ?_ | with_reducible refine i_meth ?_ | with_reducible refine i_new ?_ | with_reducible refine i_neg ?_
  | with_reducible refine i_add ?_ | with_reducible refine i_sub ?_ | with_reducible refine i_cmp ?_ | with_reducible refine i_int1 ?_ | with_reducible refine i_int2 ?_ | with_reducible refine i_isb ?_ | with_reducible refine i_eqi ?_ | with_reducible refine i_eqb ?_ | refine i_ixt rfl rfl ?_)
local macro_rules | `(tactic| walk_at "sj") => `(tactic| repeat (walk_at "sj1"))
local macro_rules | `(tactic| walk_at "tj") => `(tactic| repeat (first | walk_at "sj1" | refine i_len (Nat.le_of_ble_eq_true rfl) ?_))
/-! ## letters -/
inductive Lt where
  | ask (s r : Nat) (x : Int) (lo w : Nat) (t : Int)
  | give (s r : Nat) (k : Nat) (st : Sta) (wt : Int)
def Lt.d : Lt → D
  | .ask s r x lo w t => .tup [.str "ask", .int (s : Int), .int (r : Int), .int x, .int (lo : Int), .int ((lo : Int) + (w : Int)), .int t]
  | .give s r k st wt => .tup [.str "give", .int (s : Int), .int (r : Int), .int (k : Int), stD st, .int wt]
def Lt.ok (n : Nat) : Lt → Prop
  | .ask _ _ x lo w _ => 0 ≤ x ∧ x < 10000 ∧ Rng n lo w
  | .give _ _ k st _ => k < n ∧ StOk st
def ansOf (hs : List Sta) : Lt → List Lt
  | .ask s r x lo w t => if tot hs x lo w = t then [] else if w = 1 then [.give r s lo (hs.getD lo emp) 1] else [.ask r s x lo (w / 2) (tot hs x lo (w / 2)), .ask r s x (lo + w / 2) (w / 2) (tot hs x (lo + w / 2) (w / 2))]
  | .give s r k st wt => if wt = 1 ∧ join (hs.getD k emp) st ≠ st then [.give r s k (join (hs.getD k emp) st) 0] else []
def aftOf (hs : List Sta) : Lt → List Sta
  | .ask _ _ _ _ _ _ => hs
  | .give _ _ k st _ => hs.set k (join (hs.getD k emp) st)
section
variable {A : AHp} {Q : AK} {EX : String → D → AHp → Prop} {L : List SP}
theorem jmeth (S : Hs L A) (n : Nat) {p : Addr} {hs : List Sta} {m : Str} {P : Addr → Prop} (e : nth L n = StoreS p hs) (hm : ∀ n l d, List.lookup m [("size", D.int n), ("held", .ref l), ("trees", .ref d)] = none) (k : P p) :
    ∃ q fs, D.ref p = .ref q ∧ A q = some (.ins "Store" fs) ∧ fs.lookup m = none ∧ P q := by
  have s := S.at_ n; rw [e] at s
  obtain ⟨l, d, h⟩ := StoreS.ins s
  exact ⟨p, _, rfl, h, hm _ _ _, k⟩
theorem jsize (S : Hs L A) (n : Nat) {p : Addr} {hs : List Sta} {P : D → Prop} (e : nth L n = StoreS p hs) (k : P (.int hs.length)) : ∃ a fs d, D.ref p = .ref a ∧ A a = some (.ins "Store" fs) ∧ fs.lookup ("size" : Str) = some d ∧ P d := by
  have s := S.at_ n; rw [e] at s
  obtain ⟨l, d, h⟩ := StoreS.ins s
  exact ⟨p, _, _, rfl, h, rfl, k⟩
end
theorem getD_set {hs : List Sta} {k : Nat} {s : Sta} (h : k < hs.length) : (hs.set k s).getD k emp = s := by rw [hset h, if_pos rfl]
/-! ### opening -/
def sp_opening : ASp := fun ds A Q _ => ∃ (p : Addr) (hs : List Sta) (L : List SP) (s r : Nat) (x : Int), ds = [.ref p, .int (s : Int), .int (r : Int), .int x] ∧ Hs (StoreS p hs :: L) A ∧ 0 ≤ x ∧ x < 10000 ∧ ∀ A', Hs (StoreS p hs :: L) A' → Q (Lt.d (.ask s r x 0 hs.length (tot hs x 0 hs.length))) A'
def T_opening : TSA := sRet (xTup (xsCons (xC (.str "ask")) (xsCons (xVar 1) (xsCons (xVar 2) (xsCons (xVar 3) (xsCons (xC (.int 0)) (xsCons (xFld "Store" (xVar 0) "size") (xsCons (xMeth "Store" "total" sp_Store_total (xVar 0) (xsCons (xC (.int 0)) (xsCons (xFld "Store" (xVar 0) "size") (xsCons (xVar 3) (xsNil))))) (xsNil)))))))))
theorem l_opening : ∀ ds A Q E, sp_opening ds A Q E → ds.length = ["store", "sender", "receiver", "salt"].length := by
  rintro ds A Q E ⟨p, hs, L, s, r, x, rfl, _⟩; rfl
theorem StoreS.all {A : AHp} {p : Addr} {hs : List Sta} (s : (StoreS p hs).P A) : Rng hs.length 0 hs.length := by
  obtain ⟨h, _, e⟩ := StoreS.size s
  rw [e]; exact Rng.all
theorem w_opening : ∀ ds A Q E, sp_opening ds A Q E → T_opening (fun _ c pl A' => E c pl A') (bodyE Q) (envA 4 ds) A := by
  rintro ds A Q E ⟨p, hs, L, s, r, x, rfl, S, x0, x1, h⟩
  unfold T_opening
  walk_at "sj"
  refine jsize S 0 rfl ?_
  walk_at "sj"
  refine jmeth S 0 rfl (fun _ _ _ => rfl) ?_
  walk_at "sj"
  refine jsize S 0 rfl ?_
  walk_at "sj"
  refine c_tot S 0 (l := 0) (w := hs.length) rfl x0 x1 (StoreS.all (S.at_ 0)) rfl (by omega) fun A1 S => ?_
  walk_at "tj"
  have := h A1 S
  simp only [Lt.d, Int.natCast_zero, Int.zero_add] at this
  exact this
/-! ### the answers -/
def sp_answer_ask : ASp := fun ds A Q _ => ∃ (p : Addr) (hs : List Sta) (L : List SP) (s r : Nat) (x : Int) (lo w : Nat) (t : Int), ds = [.ref p, Lt.d (.ask s r x lo w t)] ∧ Hs (StoreS p hs :: L) A ∧ 0 ≤ x ∧ x < 10000 ∧ Rng hs.length lo w ∧
  ∀ q A', Hs (pt q (.lst ((ansOf hs (.ask s r x lo w t)).map Lt.d)) :: StoreS p hs :: L) A' → Q (.ref q) A'
def T_answer_ask : TSA := sSeq (sAsg (xVar 1) (gTup 7 (gsCons (gName 2) (gsCons (gName 3) (gsCons (gName 4) (gsCons (gName 5) (gsCons (gName 6) (gsCons (gName 7) (gsCons (gName 8) (gsNil)))))))))) (sSeq (sIf (xTest (xBin (eqA id) (xMeth "Store" "total" sp_Store_total (xVar 0) (xsCons (xVar 6) (xsCons (xVar 7) (xsCons (xVar 5) (xsNil))))) (xVar 8))) (sRet (xLst (xsNil))) (sNil)) (sSeq (sIf (xTest (xBin (eqA id) (xBin subA (xVar 7) (xVar 6)) (xC (.int 1)))) (sRet (xLst (xsCons (xTup (xsCons (xC (.str "give")) (xsCons (xVar 4) (xsCons (xVar 3) (xsCons (xVar 6) (xsCons (xMeth "Store" "state" sp_Store_state (xVar 0) (xsCons (xVar 6) (xsNil))) (xsCons (xC (.int 1)) (xsNil)))))))) (xsNil)))) (sNil)) (sSeq (sSet 9 (xBin divA (xBin addA (xVar 6) (xVar 7)) (xC (.int 2)))) (sSeq (sSet 10 (xTup (xsCons (xC (.str "ask")) (xsCons (xVar 4) (xsCons (xVar 3) (xsCons (xVar 5) (xsCons (xVar 6) (xsCons (xVar 9) (xsCons (xMeth "Store" "total" sp_Store_total (xVar 0) (xsCons (xVar 6) (xsCons (xVar 9) (xsCons (xVar 5) (xsNil))))) (xsNil)))))))))) (sSeq (sSet 11 (xTup (xsCons (xC (.str "ask")) (xsCons (xVar 4) (xsCons (xVar 3) (xsCons (xVar 5) (xsCons (xVar 9) (xsCons (xVar 7) (xsCons (xMeth "Store" "total" sp_Store_total (xVar 0) (xsCons (xVar 9) (xsCons (xVar 7) (xsCons (xVar 5) (xsNil))))) (xsNil)))))))))) (sRet (xLst (xsCons (xVar 10) (xsCons (xVar 11) (xsNil))))))))))
theorem l_answer_ask : ∀ ds A Q E, sp_answer_ask ds A Q E → ds.length = ["store", "letter"].length := by
  rintro ds A Q E ⟨p, hs, L, s, r, x, lo, w, t, rfl, _⟩; rfl
set_option maxHeartbeats 2000000 in
theorem w_answer_ask : ∀ ds A Q E, sp_answer_ask ds A Q E → T_answer_ask (fun _ c pl A' => E c pl A') (bodyE Q) (envA 12 ds) A := by
  rintro ds A Q E ⟨p, hs, L, s, r, x, lo, w, t, rfl, S, x0, x1, hr, h⟩
  unfold T_answer_ask
  simp only [Lt.d]
  walk_at "sj"
  refine jmeth S 0 rfl (fun _ _ _ => rfl) ?_
  walk_at "sj"
  refine c_tot S 0 rfl x0 x1 hr rfl rfl fun A1 S => ?_
  walk_at "sj"
  simp only [ansOf] at h
  refine i_two (fun hb => ?_) (fun hb => ?_)
  · have e : tot hs x lo w = t := by simpa using hb
    rw [if_pos e] at h
    walk_at "tj"
    exact jnew S h
  · have e : ¬ tot hs x lo w = t := by simpa using hb
    rw [if_neg e] at h
    walk_at "sj"
    refine i_two (fun hb => ?_) (fun hb => ?_)
    · have e1 : w = 1 := by have := beq_iff_eq.mp hb; omega
      rw [if_pos e1] at h
      walk_at "sj"
      refine jmeth S 0 rfl (fun _ _ _ => rfl) ?_
      walk_at "sj"
      refine c_sstate S 0 rfl (by have := hr.le; omega) ?_
      walk_at "tj"
      exact jnew S h
    · have e1 : w ≠ 1 := fun z => by
        subst z
        have := beq_eq_false_iff_ne.mp hb; omega
      rw [if_neg e1] at h
      obtain ⟨h1, h2, h3⟩ := hr.half e1
      walk_at "sj"
      refine i_div (by decide) (by decide) ?_
      have em : ((lo : Int) + ((lo : Int) + (w : Int))) / 2 = ((lo + w / 2 : Nat) : Int) := by omega
      rw [em]
      walk_at "sj"
      refine jmeth S 0 rfl (fun _ _ _ => rfl) ?_
      walk_at "sj"
      refine c_tot S 0 (l := lo) (w := w / 2) rfl x0 x1 h1 rfl (by omega) fun A2 S => ?_
      walk_at "tj"
      refine jmeth S 0 rfl (fun _ _ _ => rfl) ?_
      walk_at "sj"
      refine c_tot S 0 (l := lo + w / 2) (w := w / 2) rfl x0 x1 h2 rfl (by omega) fun A3 S => ?_
      walk_at "tj"
      refine jnew S fun q A4 S => h q A4 ?_
      simp only [List.map_cons, List.map_nil, Lt.d]
      rw [show ((lo : Int) + ((w / 2 : Nat) : Int)) = ((lo + w / 2 : Nat) : Int) by omega, show (((lo + w / 2 : Nat) : Int) + ((w / 2 : Nat) : Int)) = (lo : Int) + (w : Int) by omega]
      exact S
def sp_answer_give : ASp := fun ds A Q _ => ∃ (p : Addr) (hs : List Sta) (L : List SP) (s r : Nat) (k : Nat) (st : Sta) (wt : Int), ds = [.ref p, Lt.d (.give s r k st wt)] ∧ Hs (StoreS p hs :: L) A ∧ k < hs.length ∧ StOk st ∧
  ∀ q A', Hs (pt q (.lst ((ansOf hs (.give s r k st wt)).map Lt.d)) :: StoreS p (aftOf hs (.give s r k st wt)) :: L) A' → Q (.ref q) A'
def T_answer_give : TSA := sSeq (sAsg (xVar 1) (gTup 6 (gsCons (gName 2) (gsCons (gName 3) (gsCons (gName 4) (gsCons (gName 5) (gsCons (gName 6) (gsCons (gName 7) (gsNil))))))))) (sSeq (sDrop (xMeth "Store" "learn" sp_Store_learn (xVar 0) (xsCons (xVar 5) (xsCons (xVar 6) (xsNil))))) (sSeq (sIf (xAnd (xTest (xBin (eqA id) (xVar 7) (xC (.int 1)))) (xTest (xBin (eqA not) (xMeth "Store" "state" sp_Store_state (xVar 0) (xsCons (xVar 5) (xsNil))) (xVar 6)))) (sRet (xLst (xsCons (xTup (xsCons (xC (.str "give")) (xsCons (xVar 4) (xsCons (xVar 3) (xsCons (xVar 5) (xsCons (xMeth "Store" "state" sp_Store_state (xVar 0) (xsCons (xVar 5) (xsNil))) (xsCons (xC (.int 0)) (xsNil)))))))) (xsNil)))) (sNil)) (sRet (xLst (xsNil)))))
theorem l_answer_give : ∀ ds A Q E, sp_answer_give ds A Q E → ds.length = ["store", "letter"].length := by
  rintro ds A Q E ⟨p, hs, L, s, r, k, st, wt, rfl, _⟩; rfl
theorem w_answer_give : ∀ ds A Q E, sp_answer_give ds A Q E → T_answer_give (fun _ c pl A' => E c pl A') (bodyE Q) (envA 8 ds) A := by
  rintro ds A Q E ⟨p, hs, L, s, r, k, st, wt, rfl, S, hk, ok, h⟩
  unfold T_answer_give
  simp only [Lt.d]
  walk_at "sj"
  refine jmeth S 0 rfl (fun _ _ _ => rfl) ?_
  walk_at "sj"
  refine c_learn S 0 rfl hk ok fun A1 S => ?_
  have hk2 : k < (hs.set k (join (hs.getD k emp) st)).length := by rw [List.length_set]; exact hk
  have eg := getD_set (s := join (hs.getD k emp) st) hk
  simp only [ansOf, aftOf] at h
  walk_at "sj"
  refine i_two (fun hb => ?_) (fun hb => ?_)
  · have e : wt = 1 := by simpa using hb
    walk_at "sj"
    refine jmeth S 0 rfl (fun _ _ _ => rfl) ?_
    walk_at "sj"
    refine c_sstate S 0 rfl hk2 ?_
    rw [eg]
    walk_at "sj"
    refine i_eq (cmp_stD _) (cmp_stD _) fun b hb => ?_
    rw [stD_eq] at hb
    walk_at "sj"
    refine i_two (fun h1 => ?_) (fun h1 => ?_)
    · have ne : join (hs.getD k emp) st ≠ st := fun z => by rw [hb.mpr z] at h1; cases h1
      rw [if_pos ⟨e, ne⟩] at h
      walk_at "sj"
      refine jmeth S 0 rfl (fun _ _ _ => rfl) ?_
      walk_at "sj"
      refine c_sstate S 0 rfl hk2 ?_
      rw [eg]
      walk_at "tj"
      exact jnew S h
    · have eq : join (hs.getD k emp) st = st := hb.mp (by cases b with
        | true => rfl
        | false => cases h1)
      rw [if_neg fun z => z.2 eq] at h
      walk_at "tj"
      exact jnew S h
  · have e : ¬ wt = 1 := by simpa using hb
    rw [if_neg fun z => e z.1] at h
    refine i_twoF rfl ?_
    walk_at "tj"
    exact jnew S h
def sp_answer : ASp := fun ds A Q _ => ∃ (p : Addr) (hs : List Sta) (L : List SP) (l : Lt), ds = [.ref p, l.d] ∧ Hs (StoreS p hs :: L) A ∧ l.ok hs.length ∧ ∀ q A', Hs (pt q (.lst ((ansOf hs l).map Lt.d)) :: StoreS p (aftOf hs l) :: L) A' → Q (.ref q) A'
def T_answer : TSA := sSeq (sIf (xTest (xBin (eqA id) (xBin ixB (xVar 1) (xC (.int 0))) (xC (.str "ask")))) (sRet (xCall sp_answer_ask (xsCons (xVar 0) (xsCons (xVar 1) (xsNil))))) (sNil)) (sRet (xCall sp_answer_give (xsCons (xVar 0) (xsCons (xVar 1) (xsNil)))))
theorem l_answer : ∀ ds A Q E, sp_answer ds A Q E → ds.length = ["store", "letter"].length := by
  rintro ds A Q E ⟨p, hs, L, l, rfl, _⟩; rfl
theorem w_answer : ∀ ds A Q E, sp_answer ds A Q E → T_answer (fun _ c pl A' => E c pl A') (bodyE Q) (envA 2 ds) A := by
  rintro ds A Q E ⟨p, hs, L, l, rfl, S, hl, h⟩
  unfold T_answer
  cases l with
  | ask s r x lo w t =>
    simp only [Lt.d]
    walk_at "sj"
    refine i_eq (cmp_str (by decide +kernel)) (cmp_str (by decide +kernel)) fun b hb => ?_
    walk_at "sj"
    refine i_twoT (hb.mpr rfl) ?_
    walk_at "sj"
    exact ⟨p, hs, L, s, r, x, lo, w, t, rfl, S, hl.1, hl.2.1, hl.2.2, h⟩
  | give s r k st wt =>
    simp only [Lt.d]
    walk_at "sj"
    refine i_eq (cmp_str (by decide +kernel)) (cmp_str (by decide +kernel)) fun b hb => ?_
    walk_at "sj"
    have hne : b = false := by
      cases b with
      | false => rfl
      | true => exact absurd (D.str.inj (hb.mp rfl)) (by decide +kernel)
    refine i_twoF hne ?_
    walk_at "sj"
    exact ⟨p, hs, L, s, r, k, st, wt, rfl, S, hl.1, hl.2, h⟩
theorem c_answer {A : AHp} {Q : AK} {EX : String → D → AHp → Prop} {L : List SP} (S : Hs L A) (n : Nat) {p : Addr} {hs : List Sta} (l : Lt) {d : D} (eL : nth L n = StoreS p hs) (ed : d = l.d) (hl : l.ok hs.length)
    (k : ∀ q A', Hs (pt q (.lst ((ansOf hs l).map Lt.d)) :: setN L n (StoreS p (aftOf hs l))) A' → Q (.ref q) A') : sp_answer [.ref p, d] A Q EX := by
  have S1 := S.f n; rw [eL] at S1
  exact ⟨p, hs, _, l, by rw [ed], S1, hl, fun q A' S2 => k q A' (S2.perm ((set_perm L n _).cons _))⟩
end Mu

namespace Mu
open PySem L2
local macro_rules | `(tactic| walk_at "sj1") => `(tactic| first
  | with_reducible refine i_seq ?_ | with_reducible refine i_bin ?_ | with_reducible refine i_var rfl ?_ | with_reducible refine i_c ?_ | with_reducible refine i_cons ?_ | with_reducible refine i_nil ?_
  | with_reducible refine i_call ?_ | with_reducible refine i_cb ?_ | with_reducible refine i_test ?_ | with_reducible refine i_bl ?_ | with_reducible refine i_asg ?_ | with_reducible refine i_gname ?_
  | with_reducible refine i_sif ?_ | with_reducible refine i_ret ?_ | with_reducible refine i_drop ?_ | with_reducible refine i_lm ?_ | with_reducible refine i_snil ?_ | with_reducible refine i_retN ?_
  | with_reducible refine i_tup ?_ | with_reducible refine j_lst ?_ | with_reducible refine i_and ?_ | with_reducible refine i_or ?_ | with_reducible refine i_not ?_ | with_reducible refine i_andV ?_ | with_reducible refine i_orV ?_
  | with_reducible refine i_notV ?_ | with_reducible refine i_if ?_ | with_reducible refine i_chain ?_ | with_reducible refine i_tru ?_ | with_reducible refine i_trub ?_ | with_reducible refine i_yes ?_ | with_reducible refine i_sl ?_
  | with_reducible refine i_ono ?_ | with_reducible refine i_oso ?_ | with_reducible refine i_ex_int ?_ | with_reducible refine i_break ?_ | with_reducible refine i_aug rfl ?_ | with_reducible refine i_gtup rfl ?_
  | with_reducible refine i_gscons ?_ | with_reducible refine i_gsnil ?_ | with_reducible refine i_gsub ?_ | with_reducible refine i_for ?_ | with_reducible refine j_lc ?_ | with_reducible refine i_iT ?_ | with_reducible refine i_iL ?_ | with_reducible refine i_iR1 ?_ | with_reducible refine i_iR2 ?_ | with_reducible refine i_iR3 ?_
  | with_reducible refine i_dg ?_ | with_reducible refine i_din ?_ | with_reducible refine j_dnew ?_ | with_reducible refine i_dput ?_
  | with_reducible refine i_raise ?_ | with_reducible refine i_raiseK ?_ | with_reducible refine i_tryAs ?_ | with_reducible refine i_tryOnly ?_ | with_reducible refine i_err rfl ?_
  | with_reducible refine i_fld ?_ | with_reducible refine i_sfld ?_ | with_reducible refine i_meth ?_ | with_reducible refine i_new ?_ | with_reducible refine i_neg ?_
  | with_reducible refine i_add ?_ | with_reducible refine i_sub ?_ | with_reducible refine i_cmp ?_ | with_reducible refine i_int1 ?_ | with_reducible refine i_int2 ?_ | with_reducible refine i_isb ?_ | with_reducible refine i_eqi ?_ | with_reducible refine i_eqb ?_ | refine i_ixt rfl rfl ?_)
local macro_rules | `(tactic| walk_at "sj") => `(tactic| repeat (walk_at "sj1"))
local macro_rules | `(tactic| walk_at "tj") => `(tactic| repeat (first | walk_at "sj1" | refine i_len (Nat.le_of_ble_eq_true rfl) ?_))
/-! ## stores that are drawn -/
def sp_q_filled : ASp := fun ds A Q _ => ∃ (r p : Addr) (hs : List Sta) (L : List SP) (n : Int), ds = [.ref r, .ref p, .int n] ∧ n = (hs.length : Int) ∧ Hs (Row r :: StoreS p hs :: L) A ∧ ∀ hs' A', hs'.length = hs.length → Hs (Row r :: StoreS p hs' :: L) A' → Q .non A'
def T_q_filled : TSA := sFor (iR1 (xsCons (xVar 2) (xsNil))) (gName 3) (sIf (xTest (xBin gtA (xCall sp_q_take (xsCons (xVar 0) (xsCons (xC (.int 3)) (xsNil)))) (xC (.int 0)))) (sDrop (xMeth "Store" "learn" sp_Store_learn (xVar 1) (xsCons (xVar 3) (xsCons (xCall sp_q_state (xsCons (xVar 0) (xsNil))) (xsNil))))) (sNil))
theorem l_q_filled : ∀ ds A Q E, sp_q_filled ds A Q E → ds.length = ["_law_row", "_law_store", "_law_size"].length := by
  rintro ds A Q E ⟨r, p, hs, L, n, rfl, _⟩; rfl
theorem w_q_filled : ∀ ds A Q E, sp_q_filled ds A Q E → T_q_filled (fun _ c pl A' => E c pl A') (bodyE Q) (envA 4 ds) A := by
  rintro ds A Q E ⟨r, p, hs, L, n, rfl, rfl, S, h⟩
  have n64 := StoreS.n64 (S.at_ 1)
  unfold T_q_filled
  walk_at "sj"
  refine i_iR1K (by omega) (by omega) ?_
  rw [Int.toNat_natCast, show rngD 0 1 hs.length = _ from rng_nat (n := hs.length)]
  refine for_rule (f := fun i : Nat => D.int (i : Int)) (fun pre ρ A' => ∃ hs' o, ρ = [some (.ref r), some (.ref p), some (.int (hs.length : Int)), o] ∧ hs'.length = hs.length ∧ Hs (Row r :: StoreS p hs' :: L) A') (List.range hs.length) (fun _ _ _ _ => trivial)
    (fun pre i post e ρ A1 hI NX nx => ?step) (fun ρ A1 hI => ?fin) ⟨hs, none, rfl, rfl, S⟩
  case step =>
    obtain ⟨hs', o, rfl, el, S⟩ := hI
    obtain ⟨rfl, li⟩ := rng_pre e
    walk_at "sj"
    refine c_take S 0 rfl (by decide) fun v A2 v0 v1 S => ?_
    walk_at "sj"
    refine i_two (fun hb => ?_) (fun hb => ?_)
    · walk_at "sj"
      refine jmeth S 1 rfl (fun _ _ _ => rfl) ?_
      walk_at "sj"
      refine c_state_ S 0 rfl fun s A3 gs S => ?_
      walk_at "sj"
      refine c_learn S 1 rfl (by omega) gs.ok fun A4 S => ?_
      exact nx _ _ ⟨_, _, rfl, by rw [List.length_set]; exact el, S⟩
    · walk_at "sj"
      exact nx _ _ ⟨_, _, rfl, el, S⟩
  obtain ⟨hs', o, rfl, el, S⟩ := hI
  exact h hs' A1 el S
def sp_q_twin : ASp := fun ds A Q _ => ∃ (r p : Addr) (hs : List Sta) (L : List SP) (n : Int), ds = [.ref r, .ref p, .int n] ∧ n = (hs.length : Int) ∧ Hs (Row r :: StoreS p hs :: L) A ∧ ∀ q gs A', gs.length = hs.length → Hs (StoreS q gs :: Row r :: StoreS p hs :: L) A' → Q (.ref q) A'
def T_q_twin : TSA := sSeq (sSet 3 (xNew "Store" sp_Store___init__ (xsCons (xVar 2) (xsNil)))) (sSeq (sFor (iR1 (xsCons (xVar 2) (xsNil))) (gName 4) (sSeq (sSet 5 (xMeth "Store" "state" sp_Store_state (xVar 1) (xsCons (xVar 4) (xsNil)))) (sSeq (sIf (xTest (xBin (eqA id) (xCall sp_q_take (xsCons (xVar 0) (xsCons (xC (.int 5)) (xsNil)))) (xC (.int 0)))) (sSet 5 (xCall sp_q_state (xsCons (xVar 0) (xsNil)))) (sNil)) (sIf (xTest (xBin (eqA not) (xBin ixB (xVar 5) (xC (.int 0))) (xTup (xsCons (xC (.int 0)) (xsCons (xC (.int 0)) (xsCons (xC (.int 0)) (xsCons (xC (.int 0)) (xsNil)))))))) (sDrop (xMeth "Store" "learn" sp_Store_learn (xVar 3) (xsCons (xVar 4) (xsCons (xVar 5) (xsNil))))) (sNil))))) (sRet (xVar 3)))
theorem l_q_twin : ∀ ds A Q E, sp_q_twin ds A Q E → ds.length = ["_law_row", "_law_store", "_law_size"].length := by
  rintro ds A Q E ⟨r, p, hs, L, n, rfl, _⟩; rfl
theorem w_q_twin : ∀ ds A Q E, sp_q_twin ds A Q E → T_q_twin (fun _ c pl A' => E c pl A') (bodyE Q) (envA 6 ds) A := by
  rintro ds A Q E ⟨r, p, hs, L, n, rfl, rfl, S, h⟩
  have n64 := StoreS.n64 (S.at_ 1)
  obtain ⟨g, g6, eg⟩ := StoreS.size (S.at_ 1)
  unfold T_q_twin
  walk_at "sj"
  intro q nq
  refine c_storeN S g g6 (show (hs.length : Int) = ((2 ^ g : Nat) : Int) by rw [eg]) nq fun A1 S => ?_
  walk_at "sj"
  refine i_iR1K (by omega) (by omega) ?_
  rw [Int.toNat_natCast, show rngD 0 1 hs.length = _ from rng_nat (n := hs.length)]
  refine for_rule (f := fun i : Nat => D.int (i : Int)) (fun pre ρ A' => ∃ gs o o2, ρ = [some (.ref r), some (.ref p), some (.int (hs.length : Int)), some (.ref q), o, o2] ∧ gs.length = hs.length ∧ Hs (StoreS q gs :: Row r :: StoreS p hs :: L) A') (List.range hs.length) (fun _ _ _ _ => trivial)
    (fun pre i post e ρ A1 hI NX nx => ?step) (fun ρ A1 hI => ?fin) ⟨_, none, none, rfl, by rw [List.length_replicate, eg], S⟩
  case step =>
    obtain ⟨gs, o, o2, rfl, el, S⟩ := hI
    obtain ⟨rfl, li⟩ := rng_pre e
    walk_at "sj"
    refine jmeth S 2 rfl (fun _ _ _ => rfl) ?_
    walk_at "sj"
    refine c_sstate S 2 rfl (by omega) ?_
    refine i_gname ?_
    let I2 : AEnv → AHp → Prop := fun ρ A' => ∃ s, StOk s ∧ ρ = [some (.ref r), some (.ref p), some (.int (hs.length : Int)), some (.ref q), some (.int (pre.length : Int)), some (stD s)] ∧ Hs (StoreS q gs :: Row r :: StoreS p hs :: L) A'
    have ok0 := StoreS.okAt (S.at_ 2) (k := pre.length) (by omega)
    with_reducible refine i_cut I2 ?cut ?main
    case cut =>
      intro NX2 nx2
      walk_at "sj"
      refine c_take S 1 rfl (by decide) fun v A2 v0 v1 S => ?_
      walk_at "sj"
      refine i_two (fun hb => ?_) (fun hb => ?_)
      · walk_at "sj"
        refine c_state_ S 1 rfl fun s A3 gs S => ?_
        exact nx2 _ _ ⟨s, gs.ok, rfl, S⟩
      · walk_at "sj"
        exact nx2 _ _ ⟨_, ok0, rfl, S⟩
    rintro ρ A2 ⟨s, oks, rfl, S⟩
    walk_at "tj"
    refine i_eq (cmp_seenD _) (cmp_seenD fun _ => 0) fun b hb => ?_
    walk_at "sj"
    refine i_two (fun h1 => ?_) (fun h1 => ?_)
    · walk_at "sj"
      refine jmeth S 0 rfl (fun _ _ _ => rfl) ?_
      walk_at "sj"
      refine c_learn S 0 rfl (by omega) oks fun A3 S => ?_
      exact nx _ _ ⟨_, _, _, rfl, by rw [List.length_set]; exact el, S⟩
    · walk_at "sj"
      exact nx _ _ ⟨_, _, _, rfl, el, S⟩
  obtain ⟨gs, o, o2, rfl, el, S⟩ := hI
  walk_at "sj"
  exact h q gs A1 el S
section
variable {A : AHp} {Q : AK} {EX : String → D → AHp → Prop} {L : List SP}
theorem c_filled (S : Hs (Row r :: StoreS p hs :: L) A) {n : Int} (e : n = (hs.length : Int)) (k : ∀ hs' A', hs'.length = hs.length → Hs (Row r :: StoreS p hs' :: L) A' → Q .non A') : sp_q_filled [.ref r, .ref p, .int n] A Q EX := ⟨r, p, hs, L, n, rfl, e, S, k⟩
theorem c_twin (S : Hs (Row r :: StoreS p hs :: L) A) {n : Int} (e : n = (hs.length : Int)) (k : ∀ q gs A', gs.length = hs.length → Hs (StoreS q gs :: Row r :: StoreS p hs :: L) A' → Q (.ref q) A') : sp_q_twin [.ref r, .ref p, .int n] A Q EX := ⟨r, p, hs, L, n, rfl, e, S, k⟩
end
end Mu

namespace Mu
open PySem L2
local macro_rules | `(tactic| walk_at "st1") => `(tactic| first
  | with_reducible refine i_seq ?_ | with_reducible refine i_bin ?_ | with_reducible refine i_var rfl ?_ | with_reducible refine i_c ?_ | with_reducible refine i_cons ?_ | with_reducible refine i_nil ?_
  | with_reducible refine i_call ?_ | with_reducible refine i_cb ?_ | with_reducible refine i_test ?_ | with_reducible refine i_bl ?_ | with_reducible refine i_asg ?_ | with_reducible refine i_gname ?_
  | with_reducible refine i_sif ?_ | with_reducible refine i_ret ?_ | with_reducible refine i_drop ?_ | with_reducible refine i_lm ?_ | with_reducible refine i_snil ?_ | with_reducible refine i_retN ?_
  | with_reducible refine i_tup ?_ | with_reducible refine i_lst ?_ | with_reducible refine i_and ?_ | with_reducible refine i_or ?_ | with_reducible refine i_not ?_ | with_reducible refine i_andV ?_ | with_reducible refine i_orV ?_
  | with_reducible refine i_notV ?_ | with_reducible refine i_if ?_ | with_reducible refine i_chain ?_ | with_reducible refine i_tru ?_ | with_reducible refine i_trub ?_ | with_reducible refine i_yes ?_ | with_reducible refine i_sl ?_
  | with_reducible refine i_ono ?_ | with_reducible refine i_oso ?_ | with_reducible refine i_ex_int ?_ | with_reducible refine i_break ?_ | with_reducible refine i_aug rfl ?_ | with_reducible refine i_gtup rfl ?_
  | with_reducible refine i_gscons ?_ | with_reducible refine i_gsnil ?_ | with_reducible refine i_gsub ?_ | with_reducible refine i_for ?_ | with_reducible refine i_lc ?_ | with_reducible refine i_iT ?_ | with_reducible refine i_iL ?_ | with_reducible refine i_iR1 ?_ | with_reducible refine i_iR2 ?_ | with_reducible refine i_iR3 ?_
  | with_reducible refine i_dg ?_ | with_reducible refine i_din ?_ | with_reducible refine i_dnew ?_ | with_reducible refine i_dput ?_
  | with_reducible refine i_raise ?_ | with_reducible refine i_raiseK ?_ | with_reducible refine i_tryAs ?_ | with_reducible refine i_tryOnly ?_ | with_reducible refine i_err rfl ?_
  | with_reducible refine i_fld ?_ | with_reducible refine i_sfld ?_ | with_reducible refine i_meth ?_ | with_reducible refine i_new ?_ | with_reducible refine i_neg ?_
  | with_reducible refine i_add ?_ | with_reducible refine i_sub ?_ | with_reducible refine i_cmp ?_ | with_reducible refine i_int1 ?_ | with_reducible refine i_int2 ?_ | with_reducible refine i_isb ?_ | with_reducible refine i_eqi ?_ | with_reducible refine i_eqb ?_ | refine i_ixt rfl rfl ?_)
local macro_rules | `(tactic| walk_at "st") => `(tactic| repeat (walk_at "st1"))
local macro_rules | `(tactic| walk_at "tt") => `(tactic| repeat (first | walk_at "st1" | refine i_len (Nat.le_of_ble_eq_true rfl) ?_))
theorem i_rev {E : EA} {ρ : AEnv} {A : AHp} {Q : AK} {a : TEA} (k : a E ρ A fun x A1 => ∃ ds, LsA A1 x ds ∧ ∀ p, A1 p = none → Q (.ref p) (ua A1 p (.lst ds.reverse))) : xRev a E ρ A Q := k
theorem i_revK {p : Addr} {ds : List D} {A : AHp} {P : List D → Prop} (h : A p = some (.lst ds)) (k : P ds) : ∃ ds, LsA A (.ref p) ds ∧ P ds := ⟨ds, .inl ⟨p, rfl, h⟩, k⟩
theorem i_gnameE {E : EA} {ρ : AEnv} {A : AHp} {i : Nat} {d d' : D} {QS : AEnv → AHp → Prop} (e : d = d') (k : QS (ρ.set i (some d')) A) : gName i E d ρ A QS := by subst e; exact k
theorem cut_take (ds : List D) (k : Nat) : cutD ds none (some (k : Int)) = ds.take k := by
  unfold cutD
  rw [HT.sIx_none, HT.sIx_nat, List.drop_zero, Nat.sub_zero]
  by_cases h : k ≤ ds.length
  · rw [Nat.min_eq_left h]
  · rw [Nat.min_eq_right (by omega), List.take_of_length_le (Nat.le_refl _), List.take_of_length_le (by omega)]
theorem okT_decN (A : AHp) (n : Int) : OkT A (decN n) := by
  simp only [decN, OkT, OkTs, true_and, and_true]
  exact OkTs.of fun d h => by obtain ⟨i, _, rfl⟩ := List.mem_map.mp h; exact okT_tI A i
theorem pop_lo {x : Int} (h : 0 ≤ x) : 0 ≤ pop x := by unfold pop; omega
def sp_decoded : ASp := fun ds A Q EX => ∃ (n : Int), ds = [.int n] ∧ 0 ≤ n ∧ ∀ A', Ext A A' → (∀ s, StOk s → codeN s = n → Q (stD s) A') ∧ ((∀ s, StOk s → codeN s ≠ n) → EX "Invalid" (.str "code") A')
def T_decoded : TSA := sSeq (sSet 1 (xVar 0)) (sSeq (sSet 2 (xLst (xsNil))) (sSeq (sFor (iR1 (xsCons (xC k_REPLICAS) (xsNil))) (gName 3) (sSeq (sDrop (xLM appA (xVar 2) (xsCons (xBin modA (xVar 0) (xBin addA (xC k_MAX_COUNT) (xC (.int 1)))) (xsNil)))) (sSet 0 (xBin divA (xVar 0) (xBin addA (xC k_MAX_COUNT) (xC (.int 1))))))) (sSeq (sSet 4 (xLst (xsNil))) (sSeq (sFor (iR1 (xsCons (xC k_REPLICAS) (xsNil))) (gName 3) (sSeq (sSet 5 (xBin modA (xVar 0) (xBin addA (xC k_MAX_VALUE) (xC (.int 1))))) (sSeq (sSet 0 (xBin divA (xVar 0) (xBin addA (xC k_MAX_VALUE) (xC (.int 1))))) (sSeq (sSet 6 (xBin modA (xVar 0) (xBin addA (xC k_MAX_COUNT) (xC (.int 1))))) (sSeq (sSet 0 (xBin divA (xVar 0) (xBin addA (xC k_MAX_COUNT) (xC (.int 1))))) (sSeq (sDrop (xLM appA (xVar 4) (xsCons (xTup (xsCons (xBin modA (xVar 0) (xC k_REPLICAS)) (xsCons (xVar 6) (xsCons (xVar 5) (xsNil))))) (xsNil)))) (sSet 0 (xBin divA (xVar 0) (xC k_REPLICAS))))))))) (sSeq (sSet 7 (xTup (xsCons (xCB tupA (xsCons (xRev (xVar 2)) (xsNil))) (xsCons (xCB tupA (xsCons (xSl (xRev (xVar 4)) (oNone) (oSome (xVar 0))) (xsNil))) (xsNil))))) (sSeq (sIf (xOr (xNot (xTru (xCall sp_is_state (xsCons (xVar 7) (xsNil))))) (xTest (xBin (eqA not) (xCall sp_code (xsCons (xVar 7) (xsNil))) (xVar 1)))) (sRaise "Invalid" (xsCons (xC (.str "code")) (xsNil))) (sNil)) (sRet (xVar 7))))))))
theorem l_decoded : ∀ ds A Q E, sp_decoded ds A Q E → ds.length = ["number"].length := by
  rintro ds A Q E ⟨n, rfl, _⟩; rfl
def dn : Nat → Int → Int
  | 0, n => n
  | j + 1, n => dn j n / 256
def pn : Nat → Int → Int
  | 0, n => n
  | j + 1, n => pop (pn j n)
theorem Ext.upd {A A' : AHp} {p : Addr} {o : AO} (x : Ext A A') (n : A p = none) : Ext A (ua A' p o) := fun a u e => by
  rw [ua_ne (ne_free e n)]; exact x a u e
theorem pre_len {n x : Nat} {pre post : List Nat} (e : List.range n = pre ++ x :: post) : pre.length < n := by
  have h2 : (List.range n).length = (pre ++ x :: post).length := by rw [← e]
  simp only [List.length_range, List.length_append, List.length_cons] at h2
  omega
theorem snoc_range {α : Type} (f : Nat → α) (j : Nat) : (List.range j).map f ++ [f j] = (List.range (j + 1)).map f := by rw [List.range_succ, List.map_append]; rfl
theorem dec_eq (n : Int) (h : 0 ≤ n) : D.tup [.tup ((List.range 4).map fun i => D.int (dn i n % 256)).reverse, .tup (cutD ((List.range 4).map fun i => tI (ver (pn i (dn 4 n)))).reverse none (some (pn 4 (dn 4 n))))] = decN n := by
  have hx : 0 ≤ pn 4 (dn 4 n) := pop_lo (pop_lo (pop_lo (pop_lo (by show 0 ≤ dn 4 n; simp only [dn]; omega))))
  rw [show pn 4 (dn 4 n) = ((pn 4 (dn 4 n)).toNat : Int) by omega, cut_take]
  simp only [decN, List.map_take]
  rfl
theorem w_decoded : ∀ ds A Q E, sp_decoded ds A Q E → T_decoded (fun _ c pl A' => E c pl A') (bodyE Q) (envA 8 ds) A := by
  rintro ds A Q E ⟨n, rfl, n0, h⟩
  unfold T_decoded
  walk_at "st"
  refine ⟨by decide, fun p np => ?_⟩
  walk_at "st"
  refine i_iR1K (by decide) (by decide) ?_
  rw [show rngD 0 1 (Int.toNat 4) = _ from rng_nat (n := 4)]
  refine for_rule (f := fun i : Nat => D.int (i : Int)) (fun pre ρ A' => (∃ o3, ρ = [some (.int (dn pre.length n)), some (.int n), some (.ref p), o3, none, none, none, none]) ∧ A' p = some (.lst ((List.range pre.length).map fun i => D.int (dn i n % 256))) ∧ Ext A A') (List.range 4) (fun _ _ _ _ => trivial)
    (fun pre x post e ρ A1 hI NX nx => ?step) (fun ρ A1 hI => ?fin) ⟨⟨none, rfl⟩, ua_same, Ext.new np⟩
  case step =>
    obtain ⟨⟨o3, rfl⟩, h1, h2⟩ := hI
    have lp := pre_len e
    walk_at "st"
    refine i_lsr h1 ?_
    walk_at "st"
    refine i_mod (by decide) ?_
    walk_at "st"
    refine i_app h1 (by simp only [List.length_map, List.length_range, sizeLine_eq]; omega) ?_
    walk_at "st"
    refine i_div (by decide) (by decide) ?_
    walk_at "st"
    refine nx _ _ ⟨⟨some (.int x), ?_⟩, ?_, h2.upd np⟩
    · rw [List.length_append, List.length_singleton]; rfl
    · rw [List.length_append, List.length_singleton, ← snoc_range]; exact ua_same
  obtain ⟨⟨o3, rfl⟩, h1, x1⟩ := hI
  rw [List.length_range] at h1 ⊢
  walk_at "st"
  refine ⟨by decide, fun q nq => ?_⟩
  have npq : p ≠ q := ne_free h1 nq
  walk_at "st"
  refine i_iR1K (by decide) (by decide) ?_
  rw [show rngD 0 1 (Int.toNat 4) = _ from rng_nat (n := 4)]
  have nqA := x1.free nq
  refine for_rule (f := fun i : Nat => D.int (i : Int)) (fun pre ρ A' => (∃ o3 o5 o6, ρ = [some (.int (pn pre.length (dn 4 n))), some (.int n), some (.ref p), o3, some (.ref q), o5, o6, none]) ∧ A' p = some (.lst ((List.range 4).map fun i => D.int (dn i n % 256))) ∧ A' q = some (.lst ((List.range pre.length).map fun i => tI (ver (pn i (dn 4 n))))) ∧ Ext A A') (List.range 4) (fun _ _ _ _ => trivial)
    (fun pre x post e ρ A1 hI NX nx => ?step2) (fun ρ A1 hI => ?fin2) ⟨⟨o3, none, none, rfl⟩, by rw [ua_ne npq]; exact h1, ua_same, x1.more nq⟩
  case step2 =>
    obtain ⟨⟨o3, o5, o6, rfl⟩, h1, h2, h3⟩ := hI
    have lp := pre_len e
    walk_at "st"
    refine i_mod (by decide) ?_
    walk_at "st"
    refine i_div (by decide) (by decide) ?_
    walk_at "st"
    refine i_mod (by decide) ?_
    walk_at "st"
    refine i_div (by decide) (by decide) ?_
    walk_at "st"
    refine i_lsr h2 ?_
    walk_at "st"
    refine i_mod (by decide) ?_
    walk_at "st"
    refine i_len (Nat.le_of_ble_eq_true rfl) ?_
    walk_at "st"
    refine i_app h2 (by simp only [List.length_map, List.length_range, sizeLine_eq]; omega) ?_
    walk_at "st"
    refine i_div (by decide) (by decide) ?_
    walk_at "st"
    refine nx _ _ ⟨⟨some (.int x), some (.int (pn pre.length (dn 4 n) % 256)), some (.int (pn pre.length (dn 4 n) / 256 % 256)), ?_⟩, by rw [ua_ne npq]; exact h1, ?_, h3.upd nqA⟩
    · rw [List.length_append, List.length_singleton]; rfl
    · rw [List.length_append, List.length_singleton, ← snoc_range]; exact ua_same
  obtain ⟨⟨o3, o5, o6, rfl⟩, h1, h2, x2⟩ := hI
  rw [List.length_range] at h2 ⊢
  walk_at "st"
  refine i_rev ?_
  walk_at "st"
  refine i_revK h1 fun p2 n2 => ?_
  walk_at "st"
  refine i_tupl ua_same ?_
  walk_at "st"
  refine i_rev ?_
  walk_at "st"
  have nq2 : q ≠ p2 := ne_free h2 n2
  refine i_revK (by rw [ua_ne nq2]; exact h2) fun q2 m2 => ?_
  walk_at "st"
  refine .inl ⟨_, .inl ⟨q2, rfl, ua_same⟩, fun y ny => ?_⟩
  walk_at "st"
  refine i_tupl ua_same ?_
  walk_at "st"
  refine i_len (Nat.le_of_ble_eq_true rfl) (i_gnameE (d' := decN n) (dec_eq n n0) ?_)
  have x5 := ((x2.more (o := .lst ((List.range 4).map fun i => D.int (dn i n % 256)).reverse) n2).more (o := .lst ((List.range 4).map fun i => tI (ver (pn i (dn 4 n)))).reverse) m2).more (o := .lst (cutD ((List.range 4).map fun i => tI (ver (pn i (dn 4 n)))).reverse none (some (pn 4 (dn 4 n))))) ny
  walk_at "st"
  refine ⟨decN n, rfl, okT_decN _ n, fun b A6 hb x6 => ?_⟩
  have x7 := x5.trans x6
  obtain ⟨hq, he⟩ := h A6 x7
  cases b with
  | false =>
    walk_at "st"
    refine i_twoT rfl ?_
    refine i_twoT rfl ?_
    walk_at "st"
    refine he fun s ok z => ?_
    have := hb.mpr ⟨s, ok, by rw [← z]; exact dec_code ok⟩
    cases this
  | true =>
    walk_at "st"
    refine i_twoF rfl ?_
    walk_at "st"
    obtain ⟨s, ok, es⟩ := hb.mp rfl
    refine ⟨s, by rw [es], ok, ?_⟩
    walk_at "st"
    refine i_two (fun hc => ?_) (fun hc => ?_)
    · walk_at "st"
      refine he fun t okt z => ?_
      have : s = t := stD_inj (by rw [← es, ← z]; exact dec_code okt)
      subst this
      rw [z] at hc
      simp at hc
    · walk_at "st"
      have z : codeN s = n := by simpa using hc
      rw [es]
      exact hq s ok z
end Mu

namespace Mu
open PySem L2

/-! ## sums, key by key -/
abbrev at_ (hs : List Sta) (k : Nat) : Sta := hs.getD k emp
theorem rsum_congr {f g : Nat → Int} {lo w : Nat} (h : ∀ k, lo ≤ k → k < lo + w → f k = g k) : rsum f lo w = rsum g lo w := by
  unfold rsum
  congr 1
  refine List.map_congr_left fun j hj => h _ (by omega) (by have := List.mem_range.mp hj; omega)
theorem tot_congr {hs gs : List Sta} {x : Int} {lo w : Nat} (h : ∀ k, lo ≤ k → k < lo + w → at_ hs k = at_ gs k) : tot hs x lo w = tot gs x lo w := by
  unfold tot
  rw [rsum_congr fun k h1 h2 => by show codeN (at_ hs k) * x ^ k = codeN (at_ gs k) * x ^ k; rw [h k h1 h2]]
def PRn : Nat := 170141183460469231731687303715884105727
theorem units100 : ∀ n, n < 100 → ∀ m, m < 100 → n + m ≠ 0 → Nat.gcd PRn (100 * n + m) = 1 := by decide +kernel
theorem unit_of {x : Nat} (h0 : 0 < x) (h1 : x < 10000) : Nat.Coprime PRn x := by
  have := units100 (x / 100) (by omega) (x % 100) (by omega) (by omega)
  rwa [show 100 * (x / 100) + x % 100 = x by omega] at this
theorem dvd_unit {c : Int} {x k : Nat} (hx : Nat.Coprime PRn x) (h : c * (x : Int) ^ k % PR = 0) : PRn ∣ c.natAbs := by
  have h1 : PR ∣ c * (x : Int) ^ k := Int.dvd_of_emod_eq_zero h
  have h2 : PRn ∣ (c * (x : Int) ^ k).natAbs := Int.natAbs_dvd_natAbs.mpr h1
  rw [Int.natAbs_mul, Int.natAbs_pow, Int.natAbs_natCast] at h2
  exact (Nat.Coprime.pow_right k hx).dvd_of_dvd_mul_right h2
theorem leaf_inj {a b : Int} {x k : Nat} (hx : Nat.Coprime PRn x) (a0 : 0 ≤ a) (a1 : a < 2 ^ 107) (b0 : 0 ≤ b) (b1 : b < 2 ^ 107) (h : a * (x : Int) ^ k % PR = b * (x : Int) ^ k % PR) : a = b := by
  have h1 := Int.emod_eq_emod_iff_emod_sub_eq_zero.mp h
  rw [← Int.sub_mul] at h1
  have h2 := dvd_unit hx h1
  have h3 : (a - b).natAbs < PRn := by
    have : (2 : Int) ^ 107 = 162259276829213363391578010288128 := by decide
    rw [this] at a1 b1
    unfold PRn
    omega
  have := Nat.eq_zero_of_dvd_of_lt h2 h3
  omega
theorem leaf_eq {hs gs : List Sta} {x k : Nat} (hx : Nat.Coprime PRn x) (h1 : StOk (at_ hs k)) (h2 : StOk (at_ gs k)) (h : tot hs x k 1 = tot gs x k 1) : at_ hs k = at_ gs k := by
  have e : ∀ ts : List Sta, tot ts x k 1 = codeN (at_ ts k) * (x : Int) ^ k % PR := fun ts => by simp [tot, rsum, hf]
  rw [e, e] at h
  exact codeN_inj h1 h2 (leaf_inj hx (code_bd h1).1 (code_bd h1).2 (code_bd h2).1 (code_bd h2).2 h)
/-! ## ranges are one in the other, or apart -/
theorem Rng.nest {n lo w lo' w' : Nat} (h : Rng n lo w) (h' : Rng n lo' w') (hw : w ≤ w') {k : Nat} (k1 : lo ≤ k) (k2 : k < lo + w) (k3 : lo' ≤ k) (k4 : k < lo' + w') : lo' ≤ lo ∧ lo + w ≤ lo' + w' := by
  obtain ⟨e, m, j, rfl, hn, hj, rfl⟩ := h
  obtain ⟨e', m', j', rfl, hn', hj', rfl⟩ := h'
  have he : e ≤ e' := by
    rcases Nat.lt_or_ge e' e with z | z
    · have := Nat.pow_lt_pow_right (show 1 < 2 by decide) z; omega
    · exact z
  obtain ⟨d, rfl⟩ := Nat.exists_eq_add_of_le he
  have p : 0 < 2 ^ e := Nat.two_pow_pos e
  rw [Nat.pow_add] at k3 k4 ⊢
  generalize 2 ^ e = u at *
  generalize 2 ^ d = v at *
  have e1 : j' * (u * v) = (j' * v) * u := by rw [Nat.mul_comm u v, Nat.mul_assoc]
  have e2 : u * v = v * u := Nat.mul_comm _ _
  rw [e1] at k3
  rw [e1, e2] at k4 ⊢
  -- j'v ≤ j < j'v + v
  have a1 : j' * v < j + 1 := by
    refine Nat.lt_of_mul_lt_mul_right (a := u) ?_
    rw [Nat.add_mul, Nat.one_mul]; omega
  have a2 : j < j' * v + v := by
    refine Nat.lt_of_mul_lt_mul_right (a := u) ?_
    rw [Nat.add_mul]; omega
  have b1 : j' * v * u ≤ j * u := Nat.mul_le_mul_right _ (by omega)
  have b2 : (j + 1) * u ≤ (j' * v + v) * u := Nat.mul_le_mul_right _ a2
  rw [Nat.add_mul, Nat.one_mul, Nat.add_mul] at b2
  exact ⟨b1, b2⟩
theorem Rng.pow {n lo w : Nat} (h : Rng n lo w) : ∃ e, w = 2 ^ e := by obtain ⟨e, _, _, h, _⟩ := h; exact ⟨e, h⟩
/-- what is wider than a half of w is as wide as w -/
theorem Rng.wide {n lo w lo' w' : Nat} (h : Rng n lo w) (h1 : w ≠ 1) (h' : Rng n lo' w') (g : w / 2 < w') : w ≤ w' := by
  obtain ⟨e, rfl⟩ := h.pow
  obtain ⟨e', rfl⟩ := h'.pow
  cases e with
  | zero => exact absurd rfl h1
  | succ e =>
    have e2 : 2 ^ (e + 1) / 2 = 2 ^ e := by rw [Nat.pow_succ]; omega
    rw [e2] at g
    refine Nat.pow_le_pow_right (by decide) ?_
    rcases Nat.lt_or_ge e e' with z | z
    · exact z
    · have := Nat.pow_le_pow_right (show 0 < 2 by decide) z; omega

/-! ## letters that are delivered, the oldest first -/
def cur (ss : List (List Sta)) (i k : Nat) : Sta := at_ (ss.getD i []) k
def Lt.to : Lt → Nat
  | .ask _ r _ _ _ _ => r
  | .give _ r _ _ _ => r
def stepL (ss : List (List Sta)) (l : Lt) : List (List Sta) := ss.set l.to (aftOf (ss.getD l.to []) l)
def outL (ss : List (List Sta)) (l : Lt) : List Lt := ansOf (ss.getD l.to []) l
inductive Runs : List (List Sta) → List Lt → Nat → List (List Sta) → Prop
  | nil (ss) : Runs ss [] 0 ss
  | cons {ss l q n s'} : Runs (stepL ss l) (q ++ outL ss l) n s' → Runs ss (l :: q) (n + 1) s'
theorem Runs.det {ss : List (List Sta)} {q : List Lt} {n : Nat} {s' : List (List Sta)} (h : Runs ss q n s') : ∀ {m s''}, Runs ss q m s'' → n = m ∧ s' = s'' := by
  induction h with
  | nil ss => intro m s'' h; cases h; exact ⟨rfl, rfl⟩
  | cons _ ih => intro m s'' h; cases h with
    | cons h => obtain ⟨h1, h2⟩ := ih h; exact ⟨by rw [h1], h2⟩
def pot : Lt → Nat
  | .ask _ _ _ _ w _ => 4 * w - 1
  | .give _ _ _ _ wt => if wt = 1 then 2 else 1
theorem pot_out {hs : List Sta} {l : Lt} (h : l.ok hs.length) : ((ansOf hs l).map pot).sum < pot l := by
  cases l with
  | ask s r x lo w t =>
    obtain ⟨_, _, hr⟩ := h
    have hw := hr.le
    simp only [ansOf, pot]
    split
    · simp; omega
    · split
      · simp [pot]; omega
      · rename_i h1
        have := (hr.half h1).2.2
        simp only [List.map_cons, List.map_nil, List.sum_cons, List.sum_nil, pot]
        omega
  | give s r k st wt =>
    simp only [ansOf, pot]
    split
    · rename_i z
      simp [pot, z.1]
    · simp; split <;> decide
theorem ok_out {hs : List Sta} {l : Lt} (hk : ∀ k, k < hs.length → StOk (at_ hs k)) (h : l.ok hs.length) : ∀ u ∈ ansOf hs l, u.ok hs.length := by
  intro u hu
  cases l with
  | ask s r x lo w t =>
    obtain ⟨x0, x1, hr⟩ := h
    have hw := hr.le
    simp only [ansOf] at hu
    split at hu
    · cases hu
    · split at hu
      · simp only [List.mem_singleton] at hu
        subst hu
        exact ⟨by omega, hk lo (by omega)⟩
      · rename_i h1
        obtain ⟨a, b, _⟩ := hr.half h1
        simp only [List.mem_cons, List.not_mem_nil, or_false] at hu
        rcases hu with rfl | rfl
        · exact ⟨x0, x1, a⟩
        · exact ⟨x0, x1, b⟩
  | give s r k st wt =>
    obtain ⟨h1, h2⟩ := h
    simp only [ansOf] at hu
    split at hu
    · simp only [List.mem_singleton] at hu
      subst hu
      exact ⟨h1, join_st (hk k h1) h2⟩
    · cases hu
theorem len_aft {hs : List Sta} {l : Lt} : (aftOf hs l).length = hs.length := by
  cases l with
  | ask s r x lo w t => rfl
  | give s r k st wt => simp only [aftOf, List.length_set]
theorem ok_aft {hs : List Sta} {l : Lt} (hk : ∀ k, k < hs.length → StOk (at_ hs k)) (h : l.ok hs.length) : ∀ k, k < (aftOf hs l).length → StOk (at_ (aftOf hs l) k) := by
  intro k hk2
  rw [len_aft] at hk2
  cases l with
  | ask s r x lo w t => exact hk k hk2
  | give s r j st wt =>
    simp only [aftOf, at_]
    rw [hset h.1]
    split
    · exact join_st (hk j h.1) h.2
    · exact hk k hk2
theorem getD_set2 {ss : List (List Sta)} {i j : Nat} {h : List Sta} (hi : i < ss.length) : (ss.set i h).getD j [] = if i = j then h else ss.getD j [] := by
  rw [List.getD_eq_getElem?_getD, List.getD_eq_getElem?_getD, List.getElem?_set]
  by_cases e : i = j
  · subst e; simp [hi]
  · simp [e]
theorem set_self2 {ss : List (List Sta)} {i : Nat} (h : i < ss.length) : ss.set i (ss.getD i []) = ss := by
  rw [List.getD_eq_getElem?_getD, List.getElem?_eq_getElem h]
  exact List.set_getElem_self h
theorem step_ask {ss : List (List Sta)} {s r : Nat} {x : Int} {lo w : Nat} {t : Int} (h : r < ss.length) : stepL ss (.ask s r x lo w t) = ss := set_self2 h
theorem cur_give {ss : List (List Sta)} {s r k0 : Nat} {st : Sta} {wt : Int} (h : r < ss.length) (hk : k0 < (ss.getD r []).length) (i k : Nat) :
    cur (stepL ss (.give s r k0 st wt)) i k = if i = r ∧ k = k0 then join (cur ss r k0) st else cur ss i k := by
  show at_ ((ss.set r ((ss.getD r []).set k0 (join (at_ (ss.getD r []) k0) st))).getD i []) k = _
  rw [getD_set2 h]
  by_cases e : r = i
  · subst e
    rw [if_pos rfl]
    show ((ss.getD r []).set k0 _).getD k emp = _
    rw [hset hk]
    by_cases e2 : k0 = k
    · subst e2; rw [if_pos rfl, if_pos ⟨rfl, rfl⟩]; rfl
    · rw [if_neg e2, if_neg fun z => e2 z.2.symm]; rfl
  · rw [if_neg e, if_neg fun z => e z.1.symm]; rfl
theorem len_step {ss : List (List Sta)} {l : Lt} : (stepL ss l).length = ss.length := List.length_set
theorem len_step2 {ss : List (List Sta)} {l : Lt} (h : l.to < ss.length) (i : Nat) : ((stepL ss l).getD i []).length = (ss.getD i []).length := by
  unfold stepL
  rw [getD_set2 h]
  split
  · rename_i e; subst e; exact len_aft
  · rfl

/-! ## a walk between the stores a and b -/
section
variable (a b : Nat) (h0 g0 : List Sta) (x : Nat)
def side (i : Nat) : List Sta := if i = a then h0 else g0
def J (k : Nat) : Sta := join (at_ h0 k) (at_ g0 k)
def Pr (s r : Nat) : Prop := (s = a ∧ r = b) ∨ (s = b ∧ r = a)
def EqS (lo w : Nat) : Prop := tot h0 x lo w = tot g0 x lo w
def Anc (lo w : Nat) : Prop := ∀ lo' w', Rng h0.length lo' w' → lo' ≤ lo → lo + w ≤ lo' + w' → w < w' → ¬ EqS h0 g0 x lo' w'
def Blind (k : Nat) : Prop := ∃ lo w, Rng h0.length lo w ∧ 1 < w ∧ lo ≤ k ∧ k < lo + w ∧ EqS h0 g0 x lo w
def Dif (k : Nat) : Prop := at_ h0 k ≠ at_ g0 k
instance (k : Nat) : Decidable (Dif h0 g0 k) := inferInstanceAs (Decidable (_ ≠ _))
def Stay (ss : List (List Sta)) (k : Nat) : Prop := cur ss a k = at_ h0 k ∧ cur ss b k = at_ g0 k
def Joined (ss : List (List Sta)) (k : Nat) : Prop := cur ss a k = J h0 g0 k ∧ cur ss b k = J h0 g0 k
structure Fin_ (ss : List (List Sta)) (k : Nat) : Prop where
  yes : Dif h0 g0 k ∧ ¬ Blind h0 g0 x k → Joined a b h0 g0 ss k
  no : ¬ (Dif h0 g0 k ∧ ¬ Blind h0 g0 x k) → Stay a b h0 g0 ss k
def Good (ss : List (List Sta)) : Lt → Prop
  | .ask s r x' lo w t => x' = (x : Int) ∧ Pr a b s r ∧ Rng h0.length lo w ∧ t = tot (side a h0 g0 s) x lo w ∧ Anc h0 g0 x lo w ∧ ∀ k, lo ≤ k → k < lo + w → Stay a b h0 g0 ss k
  | .give s r k st wt => k < h0.length ∧ Pr a b s r ∧ Dif h0 g0 k ∧ ¬ Blind h0 g0 x k ∧ ((wt = 1 ∧ st = at_ (side a h0 g0 s) k ∧ Stay a b h0 g0 ss k) ∨ (wt = 0 ∧ st = J h0 g0 k ∧ cur ss s k = J h0 g0 k ∧ cur ss r k = at_ (side a h0 g0 r) k))
def cov : Lt → Nat → Prop
  | .ask _ _ _ lo w _, k => lo ≤ k ∧ k < lo + w
  | .give _ _ k0 _ _, k => k = k0
/-- how many keys differ in a range -/
def mm_ (lo w : Nat) : Nat := ((List.range w).filter fun j => decide (Dif h0 g0 (lo + j))).length
def cost : Lt → Nat
  | .ask _ _ _ lo w _ => 1 + 2 * mm_ h0 g0 lo w * (w.log2 + 1)
  | .give _ _ _ _ wt => if wt = 1 then 2 else 1
variable {a b h0 g0 x}
theorem mm_add (lo u v : Nat) : mm_ h0 g0 lo (u + v) = mm_ h0 g0 lo u + mm_ h0 g0 (lo + u) v := by
  unfold mm_
  rw [List.range_add, List.filter_append, List.length_append, List.filter_map, List.length_map]
  congr 2
  refine List.filter_congr fun j _ => ?_
  simp only [Function.comp]
  rw [Nat.add_assoc]
theorem mm_pos {lo w : Nat} (h : ¬ EqS h0 g0 x lo w) : 1 ≤ mm_ h0 g0 lo w := by
  rcases Nat.eq_zero_or_pos (mm_ h0 g0 lo w) with z | z
  · refine absurd (tot_congr fun k k1 k2 => ?_) h
    unfold mm_ at z
    have := List.filter_eq_nil_iff.mp (List.eq_nil_of_length_eq_zero z) (k - lo) (List.mem_range.mpr (by omega))
    rw [show lo + (k - lo) = k by omega] at this
    have t : ¬ Dif h0 g0 k := fun d => this (decide_eq_true d)
    unfold Dif at t
    exact Decidable.not_not.mp t
  · exact z
theorem Pr.symm {s r : Nat} (h : Pr a b s r) : Pr a b r s := h.elim (fun z => .inr ⟨z.2, z.1⟩) fun z => .inl ⟨z.2, z.1⟩
theorem Good.frame {ss ss' : List (List Sta)} {l : Lt} (h : ∀ i k, cov l k → cur ss' i k = cur ss i k) (g : Good a b h0 g0 x ss l) : Good a b h0 g0 x ss' l := by
  cases l with
  | ask s r x' lo w t =>
    obtain ⟨g1, g2, g3, g4, g5, g6⟩ := g
    exact ⟨g1, g2, g3, g4, g5, fun k k1 k2 => by have := g6 k k1 k2; exact ⟨by rw [h a k ⟨k1, k2⟩]; exact this.1, by rw [h b k ⟨k1, k2⟩]; exact this.2⟩⟩
  | give s r k st wt =>
    obtain ⟨g1, g2, g3, g4, g5⟩ := g
    refine ⟨g1, g2, g3, g4, ?_⟩
    rcases g5 with ⟨e1, e2, e3⟩ | ⟨e1, e2, e3, e4⟩
    · exact .inl ⟨e1, e2, by rw [h a k rfl]; exact e3.1, by rw [h b k rfl]; exact e3.2⟩
    · exact .inr ⟨e1, e2, by rw [h s k rfl]; exact e3, by rw [h r k rfl]; exact e4⟩
theorem side_a : side a h0 g0 a = h0 := if_pos rfl
theorem side_b (ne : a ≠ b) : side a h0 g0 b = g0 := if_neg (Ne.symm ne)
theorem Stay.side (ne : a ≠ b) {ss : List (List Sta)} {k i : Nat} (h : Stay a b h0 g0 ss k) (hi : i = a ∨ i = b) : cur ss i k = at_ (side a h0 g0 i) k := by
  rcases hi with rfl | rfl
  · rw [side_a]; exact h.1
  · rw [side_b ne]; exact h.2
theorem Pr.s {s r : Nat} (h : Pr a b s r) : s = a ∨ s = b := h.elim (fun z => .inl z.1) fun z => .inr z.1
theorem Pr.r {s r : Nat} (h : Pr a b s r) : r = a ∨ r = b := h.symm.s
theorem Pr.eqS (ne : a ≠ b) {s r : Nat} (h : Pr a b s r) {lo w : Nat} : tot (side a h0 g0 r) x lo w = tot (side a h0 g0 s) x lo w ↔ EqS h0 g0 x lo w := by
  rcases h with ⟨rfl, rfl⟩ | ⟨rfl, rfl⟩
  · rw [side_a, side_b ne]; exact eq_comm
  · rw [side_a, side_b ne]; exact Iff.rfl
structure Inv_ (a b : Nat) (h0 g0 : List Sta) (x : Nat) (ss0 : List (List Sta)) (B : Nat) (ss : List (List Sta)) (q : List Lt) (c : Nat) : Prop where
  len : ss.length = ss0.length
  lenk : ∀ i, (ss.getD i []).length = (ss0.getD i []).length
  good : ∀ l ∈ q, Good a b h0 g0 x ss l
  dis : q.Pairwise fun u v => ∀ k, cov u k → ¬ cov v k
  fin : ∀ k, k < h0.length → (∀ l ∈ q, ¬ cov l k) → Fin_ a b h0 g0 x ss k
  cost : c + (q.map (Mu.cost h0 g0)).sum ≤ B
  rest : ∀ i, i ≠ a → i ≠ b → ss.getD i [] = ss0.getD i []
structure Base (a b : Nat) (h0 g0 : List Sta) (x : Nat) (ss0 : List (List Sta)) : Prop where
  ne : a ≠ b
  la : a < ss0.length
  lb : b < ss0.length
  ea : ss0.getD a [] = h0
  eb : ss0.getD b [] = g0
  lg : g0.length = h0.length
  okh : ∀ k, k < h0.length → StOk (at_ h0 k)
  okg : ∀ k, k < h0.length → StOk (at_ g0 k)
  cop : Nat.Coprime PRn x
theorem J_side (ne : a ≠ b) {s r k : Nat} (h1 : StOk (at_ h0 k)) (h2 : StOk (at_ g0 k)) (h : Pr a b s r) : join (at_ (side a h0 g0 r) k) (at_ (side a h0 g0 s) k) = J h0 g0 k := by
  rcases h with ⟨rfl, rfl⟩ | ⟨rfl, rfl⟩
  · rw [side_a, side_b ne]; funext i; exact jsl_comm (h2 i) (h1 i)
  · rw [side_a, side_b ne]; rfl
theorem join_abs {s t : Sta} (h1 : StOk s) (h2 : StOk t) : join s (join s t) = join s t := by
  funext i
  show jsl (s i) (jsl (s i) (t i)) = jsl (s i) (t i)
  rw [← jsl_assoc (h1 i) (h1 i) (h2 i), jsl_self (h1 i)]
theorem join_abs' {s t : Sta} (h1 : StOk s) (h2 : StOk t) : join t (join s t) = join s t := by
  funext i
  show jsl (t i) (jsl (s i) (t i)) = jsl (s i) (t i)
  rw [jsl_comm (h1 i) (h2 i), ← jsl_assoc (h2 i) (h2 i) (h1 i), jsl_self (h2 i)]
theorem J_abs (ne : a ≠ b) {s r k : Nat} (h1 : StOk (at_ h0 k)) (h2 : StOk (at_ g0 k)) (h : Pr a b s r) : join (at_ (side a h0 g0 r) k) (J h0 g0 k) = J h0 g0 k := by
  rcases h.r with rfl | rfl
  · rw [side_a]; exact join_abs h1 h2
  · rw [side_b ne]; exact join_abs' h1 h2
theorem Inv_.step {ss0 ss : List (List Sta)} {B : Nat} {l : Lt} {q : List Lt} {c : Nat} (bs : Base a b h0 g0 x ss0) (I : Inv_ a b h0 g0 x ss0 B ss (l :: q) c) : Inv_ a b h0 g0 x ss0 B (stepL ss l) (q ++ outL ss l) (c + 1) := by
  have gl := I.good l List.mem_cons_self
  have dl := (List.pairwise_cons.mp I.dis).1
  have dq := (List.pairwise_cons.mp I.dis).2
  have ne := bs.ne
  have ltab : ∀ {i}, i = a ∨ i = b → i < ss.length := fun {i} h => by
    rw [I.len]; rcases h with rfl | rfl
    · exact bs.la
    · exact bs.lb
  have lenab : ∀ {i}, i = a ∨ i = b → (ss.getD i []).length = h0.length := fun {i} h => by
    rw [I.lenk]; rcases h with rfl | rfl
    · rw [bs.ea]
    · rw [bs.eb, bs.lg]
  -- the shape of a step: what comes out, where it stands
  have key : ∀ (ss' : List (List Sta)) (out : List Lt), stepL ss l = ss' → outL ss l = out → (∀ i, i ≠ a → i ≠ b → ss'.getD i [] = ss.getD i []) →
      (∀ i k, ¬ cov l k → cur ss' i k = cur ss i k) → (∀ u ∈ out, Good a b h0 g0 x ss' u ∧ ∀ k, cov u k → cov l k) → (out.Pairwise fun u v => ∀ k, cov u k → ¬ cov v k) →
      (∀ k, k < h0.length → cov l k → (∀ u ∈ out, ¬ cov u k) → Fin_ a b h0 g0 x ss' k) → (out.map (Mu.cost h0 g0)).sum + 1 ≤ Mu.cost h0 g0 l → l.to < ss.length → Inv_ a b h0 g0 x ss0 B ss' (q ++ out) (c + 1) := by
    intro ss' out e1 e2 hr hc hg hp hf hcost hto
    subst e1
    refine ⟨len_step.trans I.len, fun i => (len_step2 hto i).trans (I.lenk i), fun u hu => ?_, ?_, fun k hk hn => ?_, ?_, fun i i1 i2 => (hr i i1 i2).trans (I.rest i i1 i2)⟩
    · rcases List.mem_append.mp hu with hu | hu
      · exact (I.good u (List.mem_cons_of_mem _ hu)).frame fun i k hk => hc i k fun z => dl u hu k z hk
      · exact (hg u hu).1
    · exact List.pairwise_append.mpr ⟨dq, hp, fun u hu v hv k h1 h2 => dl u hu k ((hg v hv).2 k h2) h1⟩
    · by_cases cl : cov l k
      · exact hf k hk cl fun u hu => hn u (List.mem_append_right _ hu)
      · have f := I.fin k hk fun u hu => by
          rcases List.mem_cons.mp hu with rfl | hu
          · exact cl
          · exact hn u (List.mem_append_left _ hu)
        exact ⟨fun z => ⟨by rw [hc a k cl]; exact (f.yes z).1, by rw [hc b k cl]; exact (f.yes z).2⟩, fun z => ⟨by rw [hc a k cl]; exact (f.no z).1, by rw [hc b k cl]; exact (f.no z).2⟩⟩
    · have := I.cost
      rw [List.map_cons, List.sum_cons] at this
      rw [List.map_append, List.sum_append]
      omega
  cases l with
  | ask s r x' lo w t =>
    obtain ⟨rfl, pr, hr, rfl, anc, stay⟩ := gl
    have hle := hr.le
    have lr := ltab pr.r
    have nr := lenab pr.r
    have es := step_ask (s := s) (x := (x : Int)) (lo := lo) (w := w) (t := tot (side a h0 g0 s) x lo w) lr
    have tr : ∀ lo' w', lo ≤ lo' → lo' + w' ≤ lo + w → tot (ss.getD r []) x lo' w' = tot (side a h0 g0 r) x lo' w' := fun lo' w' h1 h2 =>
      tot_congr fun k k1 k2 => (stay k (by omega) (by omega)).side ne pr.r
    have eo : outL ss (.ask s r (x : Int) lo w (tot (side a h0 g0 s) x lo w)) = if tot (ss.getD r []) x lo w = tot (side a h0 g0 s) x lo w then [] else if w = 1 then [.give r s lo (at_ (ss.getD r []) lo) 1] else
        [.ask r s x lo (w / 2) (tot (ss.getD r []) x lo (w / 2)), .ask r s x (lo + w / 2) (w / 2) (tot (ss.getD r []) x (lo + w / 2) (w / 2))] := rfl
    rw [tr lo w (Nat.le_refl _) (Nat.le_refl _)] at eo
    by_cases e1 : tot (side a h0 g0 r) x lo w = tot (side a h0 g0 s) x lo w
    · rw [if_pos e1] at eo
      rw [eo]
      refine key ss [] es eo (fun _ _ _ => rfl) (fun _ _ _ => rfl) (fun u hu => by cases hu) .nil (fun k hk hc _ => ?_) (by simp only [List.map_nil, List.sum_nil, Mu.cost]; omega) lr |> fun z => by rw [es]; exact z
      have eq := (pr.eqS ne).mp e1
      have st := stay k hc.1 hc.2
      refine ⟨fun z => ?_, fun _ => st⟩
      by_cases w1 : 1 < w
      · exact absurd ⟨lo, w, hr, w1, hc.1, hc.2, eq⟩ z.2
      · have : w = 1 := by omega
        subst this
        have : k = lo := by have := hc.1; have := hc.2; omega
        subst this
        exact absurd (leaf_eq bs.cop (bs.okh k hk) (bs.okg k hk) eq) z.1
    · rw [if_neg e1] at eo
      have neq : ¬ EqS h0 g0 x lo w := fun z => e1 ((pr.eqS ne).mpr z)
      have mp := mm_pos neq
      by_cases w1 : w = 1
      · rw [if_pos w1] at eo
        subst w1
        rw [eo, es]
        have dif : Dif h0 g0 lo := fun z => neq (tot_congr fun k k1 k2 => by rw [show k = lo by omega]; exact z)
        refine key ss _ es eo (fun _ _ _ => rfl) (fun _ _ _ => rfl) (fun u hu => ?_) (List.pairwise_singleton _ _) (fun k hk hc hn => ?_) ?_ lr
        · simp only [List.mem_singleton] at hu
          subst hu
          refine ⟨⟨by omega, pr.symm, dif, fun ⟨lo', w', g1, g2, g3, g4, g5⟩ => anc lo' w' g1 g3 (by omega) g2 g5, .inl ⟨rfl, (stay lo (Nat.le_refl _) (by omega)).side ne pr.r, stay lo (Nat.le_refl _) (by omega)⟩⟩, fun k hk => ?_⟩
          have hk' : k = lo := hk
          subst hk'
          exact ⟨Nat.le_refl _, by omega⟩
        · exact absurd (show k = lo by have := hc.1; have := hc.2; omega) (hn _ List.mem_cons_self)
        · simp only [List.map_cons, List.map_nil, List.sum_cons, List.sum_nil, Mu.cost, if_true, show Nat.log2 1 = 0 by decide]
          omega
      · rw [if_neg w1] at eo
        obtain ⟨r1, r2, r3⟩ := hr.half w1
        rw [tr lo (w / 2) (Nat.le_refl _) (by omega), tr (lo + w / 2) (w / 2) (by omega) (by omega)] at eo
        rw [eo, es]
        have anc1 : ∀ lo1, lo ≤ lo1 → lo1 + w / 2 ≤ lo + w → Rng h0.length lo1 (w / 2) → Anc h0 g0 x lo1 (w / 2) := fun lo1 h1 h2 hr1 lo' w' g1 g2 g3 g4 => by
          have gw := hr.wide w1 g1 g4
          have hl1 := hr1.le
          obtain ⟨n1, n2⟩ := hr.nest g1 gw (k := lo1) h1 (by omega) g2 (by omega)
          by_cases e : w = w'
          · subst e
            have : lo' = lo := by omega
            subst this
            exact neq
          · exact anc lo' w' g1 n1 n2 (by omega)
        refine key ss _ es eo (fun _ _ _ => rfl) (fun _ _ _ => rfl) (fun u hu => ?_) ?_ (fun k hk hc hn => ?_) ?_ lr
        · simp only [List.mem_cons, List.not_mem_nil, or_false] at hu
          rcases hu with rfl | rfl
          · exact ⟨⟨rfl, pr.symm, r1, rfl, anc1 lo (Nat.le_refl _) (by omega) r1, fun k k1 k2 => stay k k1 (by omega)⟩, fun k hk => ⟨hk.1, by have := hk.2; omega⟩⟩
          · exact ⟨⟨rfl, pr.symm, r2, rfl, anc1 (lo + w / 2) (by omega) (by omega) r2, fun k k1 k2 => stay k (by omega) (by omega)⟩, fun k hk => ⟨by have := hk.1; omega, by have := hk.2; omega⟩⟩
        · refine List.pairwise_cons.mpr ⟨fun u hu k hk hk2 => ?_, List.pairwise_singleton _ _⟩
          simp only [List.mem_singleton] at hu
          subst hu
          have := hk.2; have := hk2.1
          omega
        · have c1 : ¬ (lo ≤ k ∧ k < lo + w / 2) := hn (.ask r s x lo (w / 2) (tot (side a h0 g0 r) x lo (w / 2))) List.mem_cons_self
          have c2 : ¬ (lo + w / 2 ≤ k ∧ k < lo + w / 2 + w / 2) := hn (.ask r s x (lo + w / 2) (w / 2) (tot (side a h0 g0 r) x (lo + w / 2) (w / 2))) (List.mem_cons_of_mem _ List.mem_cons_self)
          have := hc.1; have := hc.2
          omega
        · simp only [List.map_cons, List.map_nil, List.sum_cons, List.sum_nil, Mu.cost]
          obtain ⟨e, he⟩ := hr.pow
          cases e with
          | zero => exact absurd he w1
          | succ e =>
            have l1 : w.log2 = e + 1 := by rw [he]; exact Nat.log2_two_pow
            have l2 : (w / 2).log2 = e := by rw [he, show 2 ^ (e + 1) / 2 = 2 ^ e by rw [Nat.pow_succ]; omega]; exact Nat.log2_two_pow
            rw [l1, l2]
            have ms := mm_add (h0 := h0) (g0 := g0) lo (w / 2) (w / 2)
            rw [← r3] at ms
            rw [ms] at mp ⊢
            generalize mm_ h0 g0 lo (w / 2) = u at *
            generalize mm_ h0 g0 (lo + w / 2) (w / 2) = v at *
            rw [show 2 * (u + v) * (e + 1 + 1) = 2 * u * (e + 1) + 2 * v * (e + 1) + 2 * (u + v) by
              rw [Nat.mul_add 2 u v, Nat.mul_add (2 * u + 2 * v) (e + 1) 1, Nat.add_mul, Nat.mul_one]]
            omega
  | give s r k0 st wt =>
    obtain ⟨hk0, pr, dif, nbl, hcase⟩ := gl
    have lr := ltab pr.r
    have nr := lenab pr.r
    have cg := cur_give (s := s) (st := st) (wt := wt) lr (k0 := k0) (by omega)
    have sr : s ≠ r := by
      rcases pr with ⟨rfl, rfl⟩ | ⟨rfl, rfl⟩
      · exact ne
      · exact ne.symm
    have rest1 : ∀ i, i ≠ a → i ≠ b → (stepL ss (.give s r k0 st wt)).getD i [] = ss.getD i [] := fun i i1 i2 => by
      show (ss.set r _).getD i [] = _
      rw [getD_set2 lr, if_neg fun z => by subst z; exact (pr.r).elim i1 i2]
    have fr : ∀ i k, ¬ cov (.give s r k0 st wt) k → cur (stepL ss (.give s r k0 st wt)) i k = cur ss i k := fun i k hk => by
      rw [cg, if_neg fun z => hk z.2]
    have okh := bs.okh k0 hk0
    have okg := bs.okg k0 hk0
    have eo : outL ss (.give s r k0 st wt) = if wt = 1 ∧ join (cur ss r k0) st ≠ st then [.give r s k0 (join (cur ss r k0) st) 0] else [] := rfl
    have jn : join (cur ss r k0) st = J h0 g0 k0 := by
      rcases hcase with ⟨_, e2, e3⟩ | ⟨_, e2, _, e4⟩
      · rw [e2, e3.side ne pr.r]; exact J_side ne okh okg pr
      · rw [e2, e4]; exact J_abs ne okh okg pr
    rw [jn] at eo
    have cr : cur (stepL ss (.give s r k0 st wt)) r k0 = J h0 g0 k0 := by rw [cg, if_pos ⟨rfl, rfl⟩, jn]
    have cs : cur (stepL ss (.give s r k0 st wt)) s k0 = cur ss s k0 := by rw [cg, if_neg fun z => sr z.1]
    have fin : cur ss s k0 = J h0 g0 k0 → Fin_ a b h0 g0 x (stepL ss (.give s r k0 st wt)) k0 := fun h => ⟨fun _ => by
      rcases pr with ⟨rfl, rfl⟩ | ⟨rfl, rfl⟩
      · exact ⟨by rw [cs]; exact h, cr⟩
      · exact ⟨cr, by rw [cs]; exact h⟩, fun z => absurd ⟨dif, nbl⟩ z⟩
    by_cases e : wt = 1 ∧ J h0 g0 k0 ≠ st
    · rw [if_pos e] at eo
      rw [eo]
      refine key _ _ rfl eo rest1 fr (fun u hu => ?_) (List.pairwise_singleton _ _) (fun k hk hc hn => absurd (show cov (.give r s k0 (J h0 g0 k0) 0) k from hc) (hn (.give r s k0 (J h0 g0 k0) 0) List.mem_cons_self)) (by simp [Mu.cost, e.1]) lr
      simp only [List.mem_singleton] at hu
      subst hu
      refine ⟨⟨hk0, pr.symm, dif, nbl, .inr ⟨rfl, rfl, cr, ?_⟩⟩, fun k hk => hk⟩
      rcases hcase with ⟨_, _, e3⟩ | ⟨e1, _⟩
      · rw [cs]; exact e3.side ne pr.s
      · rw [e1] at e; exact absurd e.1 (by decide)
    · rw [if_neg e] at eo
      rw [eo]
      refine key _ _ rfl eo rest1 fr (fun u hu => by cases hu) .nil (fun k hk hc _ => ?_) (by simp only [List.map_nil, List.sum_nil, Mu.cost]; split <;> omega) lr
      have hc' : k = k0 := hc
      subst hc'
      refine fin ?_
      rcases hcase with ⟨e1, e2, e3⟩ | ⟨_, _, e3, _⟩
      · have : J h0 g0 k = st := Decidable.not_not.mp fun z => e ⟨e1, z⟩
        rw [e3.side ne pr.s, ← e2, this]
      · exact e3
theorem Inv_.runs {ss0 ss ss' : List (List Sta)} {B N : Nat} {q : List Lt} (bs : Base a b h0 g0 x ss0) (R : Runs ss q N ss') : ∀ {c}, Inv_ a b h0 g0 x ss0 B ss q c → Inv_ a b h0 g0 x ss0 B ss' [] (c + N) := by
  induction R with
  | nil ss => intro c I; exact I
  | cons _ ih => intro c I; have := ih (I.step bs); rwa [Nat.add_assoc, Nat.add_comm 1] at this
theorem Inv_.start {ss0 : List (List Sta)} (bs : Base a b h0 g0 x ss0) (hn : Rng h0.length 0 h0.length) : Inv_ a b h0 g0 x ss0 (1 + 2 * mm_ h0 g0 0 h0.length * (h0.length.log2 + 1)) ss0 [.ask a b x 0 h0.length (tot h0 x 0 h0.length)] 0 := by
  refine ⟨rfl, fun _ => rfl, fun l hl => ?_, List.pairwise_singleton _ _, fun k hk hn => ?_, ?_, fun _ _ _ => rfl⟩
  · simp only [List.mem_singleton] at hl
    subst hl
    refine ⟨rfl, .inl ⟨rfl, rfl⟩, hn, by rw [side_a], fun lo' w' g1 g2 g3 g4 => ?_, fun k _ _ => ⟨?_, ?_⟩⟩
    · have := g1.le; omega
    · show at_ (ss0.getD a []) k = _; rw [bs.ea]
    · show at_ (ss0.getD b []) k = _; rw [bs.eb]
  · exact absurd (show (0 : Nat) ≤ k ∧ k < 0 + h0.length from ⟨Nat.zero_le _, by omega⟩) (hn _ List.mem_cons_self)
  · simp only [List.map_cons, List.map_nil, List.sum_cons, List.sum_nil, Mu.cost]; omega
/-- what a walk does -/
theorem walked {ss0 ss' : List (List Sta)} {N : Nat} (bs : Base a b h0 g0 x ss0) (hn : Rng h0.length 0 h0.length) (R : Runs ss0 [.ask a b x 0 h0.length (tot h0 x 0 h0.length)] N ss') :
    1 ≤ N ∧ N ≤ 1 + 2 * mm_ h0 g0 0 h0.length * (h0.length.log2 + 1) ∧ (∀ k, k < h0.length → Fin_ a b h0 g0 x ss' k) ∧ (∀ i, i ≠ a → i ≠ b → ss'.getD i [] = ss0.getD i []) ∧ ss'.length = ss0.length ∧ ∀ i, (ss'.getD i []).length = (ss0.getD i []).length := by
  have I := (Inv_.start bs hn).runs bs R
  have c := I.cost
  refine ⟨?_, by simpa using c, fun k hk => I.fin k hk fun l hl => (by cases hl), I.rest, I.len, I.lenk⟩
  cases R with
  | cons _ => omega
end
end Mu

namespace Mu
open PySem PySem.Spec PyProof.Rows L2
variable {B : Bs} {X : Cx} {pos : Pos}
/-! ## l.index(n), numbers -/
def idxA : RMA := fun x ds A Q => ∃ (l : Addr) (ns : List Int) (n : Int) (j : Nat), x = .ref l ∧ ds = [.int n] ∧ A l = some (.lst (ns.map D.int)) ∧ ns[j]? = some n ∧ (∀ (m : Nat) z, m < j → ns[m]? = some z → z ≠ n) ∧ Q (.int (j : Nat)) A
theorem lk_idx : Lkm B X.K (rIndex X.K) idxA := by
  intro v x vs ds H A Q QA R r rs ⟨l, ns, n, j, e1, e2, e3, hj, hno, q⟩ k
  subst e1 e2
  obtain ⟨w, rfl, rw'⟩ := rs.one
  obtain ⟨ys, h1, h2⟩ := R.hp l _ e3
  have := h2.ints
  subst this
  refine ⟨l, ns.map V.int, w, j, .int n, r.ref_inv, rfl, .inl (.inl h1), by rw [rw'.int_inv]; rfl, ?_, by rw [List.getElem?_map, hj]; rfl, by rw [rw'.int_inv]; simp [eqV], fun m z' hm hz => ?_, k _ _ H A R (Step.refl _ _) (.int _) q⟩
  · rw [List.all_eq_true]
    intro z hz
    obtain ⟨i, _, rfl⟩ := List.mem_map.mp hz
    rfl
  · rw [List.getElem?_map] at hz
    cases e : ns[m]? with
    | none => rw [e] at hz; cases hz
    | some i =>
      rw [e] at hz; cases hz
      rw [rw'.int_inv]
      have := hno m i hm e
      simpa [eqV] using this
/-! ## {k: v, ..} -/
def kvV (kv : Key × V) : V × V := (kV kv.1, kv.2)
def kvD (kv : Key × D) : D × D := (kD kv.1, kv.2)
abbrev VVr (K : PySem.W.Frag) (H : Hp) : List (V × V) → List (D × D) → Prop := Paired fun p q => Rp K H p.1 q.1 ∧ Rp K H p.2 q.2
abbrev TPA := EA → AEnv → AHp → (List (D × D) → AHp → Prop) → Prop
def APs (B : Bs) (X : Cx) (pos : Pos) (keys : List (Option Expr)) (values : List Expr) (T : TPA) : Prop := ∀ E, Lnk B X E → ∃ trs, PPs X pos keys values trs ∧
  ∀ σ H Q, (∃ ρ A QA, Rel B X.K σ H ρ A ∧ T E ρ A QA ∧ ∀ vs ds H' A', Rel B X.K σ H' ρ A' → Step H A H' A' → VVr X.K H' vs ds → QA ds A' → Q vs H') → tPairs trs σ H Q
def xpNil : TPA := fun _ _ A Q => Q [] A
def xpCons (k v : TEA) (r : TPA) : TPA := fun E ρ A Q => k E ρ A fun d A1 => v E ρ A1 fun e A2 => r E ρ A2 fun ps A3 => Q ((d, e) :: ps) A3
theorem aps_nil : APs B X pos [] [] xpNil := fun E _ => ⟨[], pps_nil, fun σ H Q ⟨ρ, A, QA, R, h, k⟩ => k [] [] H A R (Step.refl _ _) .nil h⟩
theorem aps_cons {k v : Expr} {ks : List (Option Expr)} {vs : List Expr} {tk tv : TEA} {tr : TPA} (hk : AE B X k tk) (hv : AE B X v tv) (hr : APs B X pos ks vs tr) : APs B X pos (some k :: ks) (v :: vs) (xpCons tk tv tr) := fun E hE => by
  obtain ⟨trs, p, w⟩ := hr E hE
  refine ⟨_, pps_cons (hk E hE) (hv E hE) p, fun σ H Q ⟨ρ, A, QA, R, h, k⟩ => ⟨ρ, A, _, R, h, fun x d H1 A1 R1 S1 r1 h1 => ⟨ρ, A1, _, R1, h1, fun y e H2 A2 R2' S2 r2 h2 => w _ _ _ ⟨ρ, A2, _, R2', h2, fun us ds H3 A3 R3 S3 r3 h3 => ?_⟩⟩⟩⟩
  exact k _ _ H3 A3 R3 ((S1.trans S2).trans S3) (.cons ⟨R2'.hr.hp.rp S3 (R1.hr.hp.rp S2 r1), R2'.hr.hp.rp S3 r2⟩ r3) h3
def mergeKD (kvs more : List (Key × D)) : List (Key × D) := more.foldl (fun acc kv => putKD acc kv.1 kv.2) kvs
theorem Rfs.merge {K : PySem.W.Frag} {H : Hp} : ∀ {ms : List (Key × V)} {md : List (Key × D)} {ws : List (Key × V)} {kvs : List (Key × D)}, Rfs K H ms md → Rfs K H ws kvs → Rfs K H (mergeK ws ms) (mergeKD kvs md)
  | _, _, _, _, .nil, h => h
  | (g, v) :: ms, (g', d) :: md, ws, kvs, .cons ⟨e, r⟩ t, h => by
    cases e
    show Rfs K H (mergeK (L2.putK ws g v) ms) (mergeKD (putKD kvs g d) md)
    exact Rfs.merge t (h.putK r)
theorem VVr.keys {K : PySem.W.Frag} {H : Hp} : ∀ {vs : List (V × V)} {kvs : List (Key × D)}, VVr K H vs (kvs.map kvD) → ∃ ws : List (Key × V), vs = ws.map kvV ∧ Rfs K H ws kvs
  | _, [], .nil => ⟨[], rfl, .nil⟩
  | (v, u) :: vs, (k, d) :: kvs, .cons ⟨r1, r2⟩ t => by
    obtain ⟨ws, e, h⟩ := VVr.keys t
    have r1' : Rp K H v (kD k) := r1
    exact ⟨(k, u) :: ws, by rw [e, r1'.key]; rfl, .cons ⟨rfl, r2⟩ h⟩
def xDisp (T : TPA) : TEA := fun E ρ A Q => T E ρ A fun ps A1 => ∃ kvs : List (Key × D), ps = kvs.map kvD ∧ kvs.length ≤ 15 ∧ NewK A1 (.dk (mergeKD [] kvs)) Q
theorem ae_disp {keys : List (Option Expr)} {values : List Expr} {T : TPA} (h : APs B X pos keys values T) (hall : keys.all (·.isSome) = true := by rfl) (hl : keys.length = values.length := by rfl) (h0 : keys ≠ [] := by intro z; cases z) (h15 : keys.length ≤ 15 := by decide) :
    AE B X (.Dict keys values pos) (xDisp T) := fun E hE => by
  obtain ⟨trs, p, w⟩ := h E hE
  refine PE.wk (pe_disp p hall hl h0 h15) fun σ H Q ⟨ρ, A, QA, R, h, k⟩ a n => ?_
  have s1 : Step H A (upd H a (.dK [])) A := Step.more n A
  refine w _ _ _ ⟨ρ, A, _, R.step s1 (R.hr.hp.more n), h, fun vs ds H2 A2 R2' S2 r2 ⟨kvs, e, hz, q⟩ => ?_⟩
  subst e
  obtain ⟨x1, x2⟩ := S2 a _ upd_same (R.hr.hp.free n)
  obtain ⟨ws, e, rf⟩ := VVr.keys r2
  refine ⟨x1, ws, e, by rw [Paired.length rf]; exact hz, ?_⟩
  have sy : Stays H2 (upd H2 a (.dK (mergeK [] ws))) := fun b u hb t => by
    have ne : b ≠ a := fun z => by
      rw [z, x1] at hb; cases hb
      rcases t with ⟨_, z⟩ | ⟨_, _, z⟩ <;> cases z
    rw [upd_ne ne]; exact hb
  have st : Step H A (upd H2 a (.dK (mergeK [] ws))) (ua A2 a (.dk (mergeKD [] kvs))) := fun b u hb hn => by
    have ne : b ≠ a := fun z => by rw [z, n] at hb; cases hb
    obtain ⟨y1, y2⟩ := S2 b u (by rw [upd_ne ne]; exact hb) hn
    exact ⟨by rw [upd_ne ne]; exact y1, by rw [ua_ne ne]; exact y2⟩
  have rh : RH B.κ X.K (upd H2 a (.dK (mergeK [] ws))) (ua A2 a (.dk (mergeKD [] kvs))) := fun b o eb => by
    by_cases z : b = a
    · subst z
      rw [ua_same] at eb
      cases eb
      exact ⟨_, upd_same, Paired.mapP (Rfs.merge rf .nil) fun _ _ z => ⟨z.1, sy.rp z.2⟩⟩
    · rw [ua_ne z] at eb
      exact sy.ro (R2'.hr.hp b o eb) (upd_ne z)
  exact k _ _ _ _ (R.of st (R.hr.step st rh)) st (.ref a) (q a x2)
section
variable {E : EA} {ρ : AEnv} {A : AHp} {Q : AK} {a b : TEA} {r : TPA} {QP : List (D × D) → AHp → Prop}
theorem i_disp (k : r E ρ A fun ps A1 => ∃ kvs : List (Key × D), ps = kvs.map kvD ∧ kvs.length ≤ 15 ∧ NewK A1 (.dk (mergeKD [] kvs)) Q) : xDisp r E ρ A Q := k
theorem i_pnil (k : QP [] A) : xpNil E ρ A QP := k
theorem i_pcons (k : a E ρ A fun d A1 => b E ρ A1 fun e A2 => r E ρ A2 fun ps A3 => QP ((d, e) :: ps) A3) : xpCons a b r E ρ A QP := k
end
end Mu

namespace Mu
open PySem PySem.Spec PyProof.Rows L2

/-! ## a def that may ask for texts of things: nothing is being written around it -/
structure FnG (P : Program) (w : World) (K : PySem.W.Frag) (mg : Str → Option Value) (b0 : Heap) (T : CXT) (n : Nat) (f : Addr) (fd : FuncData) (ps : List Str) (sp : Sp) : Prop where
  cnt : ∀ xs H Q E, sp xs H Q E → xs.length = ps.length
  go : ∀ (C : Around) (out : List Env) (s : Shared) (H : Hp) (ar : Args) (ys : List Value) (xs : List V) (Q : VK) (E : XK), C.guards = some [] → Room n C → Env0 P w K mg b0 C out s H → BindsTo s fd ar (ps.zip ys) → Vals xs ys → sp xs H Q E →
    codeAny (model P w) C (.call (.ref f) ar) (CR T out P w H s Q E) s
theorem FnG.imp {P : Program} {w : World} {K : PySem.W.Frag} {mg : Str → Option Value} {b0 : Heap} {T : CXT} {n : Nat} {f : Addr} {fd : FuncData} {ps : List Str} {sp sp' : Sp} (F : FnG P w K mg b0 T n f fd ps sp) (h : ∀ xs H Q E, sp' xs H Q E → sp xs H Q E) : FnG P w K mg b0 T n f fd ps sp' :=
  ⟨fun xs H Q E q => F.cnt xs H Q E (h _ _ _ _ q), fun C out s H ar ys xs Q E g r e b v q => F.go C out s H ar ys xs Q E g r e b v (h _ _ _ _ q)⟩
theorem fn_ofG {T : CXT} {P : Program} {w : World} {K : PySem.W.Frag} {mg : Str → Option Value} {b0 : Heap} {n : Nat} {f : Addr} {nm ql : Str} {pm : Arguments} {bd : List Stmt} {sc : Scope} {v1 v2 v3 v4 cv ct oc : Value} {o1 o2 : Option Addr} {sl : Array (Option Value)} {N ps : List Str} {sp : Sp}
    (lk : K.lookup f = some ⟨oc, o2, .func (PySem.W.fnOf nm ql pm bd sc v1 v2 v3 v4 o1 cv ct), sl⟩) (hc : PySem.W.codeIn K cv ql = true) (S : FnScope N ps sc) (cnt : ∀ xs H Q E, sp xs H Q E → xs.length = ps.length)
    (body : ∀ (C : Around) (out : List Env) (s : Shared) (H : Hp) (xs : List V) (Q : VK) (E : XK), C.guards = some [] → Room n (C.deeper (envOfC ql sc s.heap.objs.size f cv)) → sp xs H Q E →
      ∃ t, PSs (cxOf T P w K mg b0 N ql sc f cv C out s H E) bd t ∧ t { nx := fun _ H1 => Q .non H1, rt := Q } (start N xs) H) :
    FnG P w K mg b0 T (n + 1) f (PySem.W.fnOf nm ql pm bd sc v1 v2 v3 v4 o1 cv ct) ps sp := by
  refine ⟨cnt, fun C out s H ar ys xs Q E hg room e bi rv q0 => ?_⟩
  have lens := cnt _ _ _ _ q0
  have kin : K.In s.heap := e.mod.kin.keeps fun a o z => (e.bs a o z).1
  have nol : s.heap.NoLimit := e.mod.nolimit.keeps fun a o z => (e.bs a o z).1
  have kinds : ∀ y ∈ ps.zip ys, sc.names.lookup y.1 = some .local ∨ (sc.names.lookup y.1 = some .cell ∧ ((cellsFrom (s.heap.objs.size + 1) sc.names []).lookup y.1).isSome = true) := fun ⟨m, u⟩ hy => by
    rcases S.par m (List.of_mem_zip hy).1 with z | z
    · exact .inl z
    · exact .inr ⟨z, PySem.W.cellsFrom_some _ _ _ (.inl z)⟩
  refine codeAny_call_function room.depth (kin _ _ lk) rfl S.co S.gen rfl (PySem.W.codeRec_of kin hc) (bi _ _ _ _ ?_)
  refine wpAny_newFunctionEnv_cells S.kind kinds fun en z s1 x => ?_
  subst z
  refine ⟨nol.keeps x.toInCall.keep, codeAny_func ?_⟩
  obtain ⟨t, pt, tq⟩ := body C out s H xs Q E hg (room.deeper _) q0
  have J : Inv (cxOf T P w K mg b0 N ql sc f cv C out s H E) [] (start N xs) H s1 := inv_start S room.hd e lens rv x
  refine wpAny_mono (pt.run [] s1 (start N xs) H _ J tq) (fun fl s2 z => ?_) fun u s2 z => z
  have done : ∀ {σ1 : L2.St} {H1 : Hp} {v : V} {u : Value}, Inv (cxOf T P w K mg b0 N ql sc f cv C out s H E) [] σ1 H1 s2 → RelV v u → Q v H1 → CE out P w H s Q u s2 := fun {σ1 H1 v u} J r q => ⟨v, H1, J.os, J.bare, J.base, J.hok, r, q⟩
  match fl, z with
  | .ret u, ⟨v, σ1, H1, J, r, q⟩ => exact done J r q
  | .next, ⟨σ1, H1, J, q⟩ => exact done (v := V.non) (u := Value.none) J rfl q
  | .brk, ⟨_, _, _, q⟩ => exact q.elim
  | .cont, ⟨_, _, _, q⟩ => exact q.elim
theorem Fun.okG {P : Program} {w : World} {K : PySem.W.Frag} {mg : Str → Option Value} {b0 : Heap} {x ql : Str} {st : Stmt} {f : Addr} {fd : FuncData} {N ps : List Str} {n : Nat} {sp : Sp} (F : Fun K x ql st f fd) (S : FnScope N ps (defScope st)) (cnt : ∀ xs H Q E, sp xs H Q E → xs.length = ps.length)
    (body : ∀ (cv : Value) (C : Around) (out : List Env) (s : Shared) (H : Hp) (xs : List V) (Q : VK) (E : XK), C.guards = some [] → Room n (C.deeper (envOfC ql (defScope st) s.heap.objs.size f cv)) → sp xs H Q E →
      ∃ t, PSs (cxOf (L2.CX P w) P w K mg b0 N ql (defScope st) f cv C out s H E) (defBody st) t ∧ t { nx := fun _ H1 => Q .non H1, rt := Q } (start N xs) H) : FnG P w K mg b0 (L2.CX P w) (n + 1) f fd ps sp := by
  obtain ⟨_, _, _, _, _, _, cv, _, _, e, lk, hc⟩ := F.ex
  subst e
  exact fn_ofG lk hc S cnt fun C out s H xs Q E hg room q => body cv C out s H xs Q E hg room q
theorem okAG {P : Program} {w : World} {K : PySem.W.Frag} {mg : Str → Option Value} {base : Heap} {κ : String → Addr} {x ql : Str} {st : Stmt} {f : Addr} {fd : FuncData} {N ps : List Str} {n : Nat} {sp : ASp} {T : TSA} (F : Fun K x ql st f fd) (S : FnScope N ps (defScope st)) (hl : ∀ ds A Q E, sp ds A Q E → ds.length = ps.length)
    (hb : ∀ (B : Bs) (cv : Value) (C : Around) (out : List Env) (s : Shared) (H : Hp) (E : XK), B.κ = κ → C.guards = some [] → Room n (C.deeper (PyProof.Rows.envOfC ql (defScope st) s.heap.objs.size f cv)) → ASs B (cxOf (L2.CX P w) P w K mg base N ql (defScope st) f cv C out s H E) (defBody st) T)
    (hs : ∀ ds A Q E, sp ds A Q E → T (fun _ c pl A' => E c pl A') ⟨fun _ A' => Q .non A', Q, fun _ _ => False, fun _ _ => False⟩ (envA N.length ds) A) : FnG P w K mg base (L2.CX P w) (n + 1) f fd ps (aSp κ K sp) := by
  refine Fun.okG F S (fun vs H Q E ⟨ds, A, QA, EX, r, _, h, _⟩ => by rw [r.length]; exact hl _ _ _ _ h) fun cv C out s H vs Q E hg hr ⟨ds, A0, QA, EX, r, rh, h, k1, k2⟩ => ?_
  have lnk : Lnk ⟨κ, H, A0⟩ (cxOf (L2.CX P w) P w K mg base N ql (defScope st) f cv C out s H E) (fun _ c pl A' => EX c pl A') :=
    ⟨⟨fun cls d _ H => E cls d H, takes_of rfl rfl rfl rfl, fun σ H' ρ A' c pl da v R ex e1 e2 rp => k2 c pl da v H' A' R.hr.st R.hr.hp ex e1 e2 rp⟩⟩
  refine ⟨_, hb ⟨κ, H, A0⟩ cv C out s H E rfl hg hr _ lnk, envA N.length ds, A0, _, ⟨⟨rh, Step.refl _ _⟩, envA_re r⟩, hs ds A0 QA EX h, ?_, ?_, ?_, ?_⟩
  · intro σ' H' ρ' A' R' S' q
    exact k1 .non .non H' A' R'.hr.st R'.hr.hp .non q
  · intro v d H' A' R' S' rp q
    exact k1 v d H' A' R'.st R'.hp rp q
  · exact fun _ _ _ _ _ _ z => z.elim
  · exact fun _ _ _ _ _ _ z => z.elim
/-- the promise of the law, at its call -/
theorem law_callG {P : Program} {w : World} {K : PySem.W.Frag} {mg mb : Str → Option Value} {T : CXT} {n : Nat} {f a : Addr} {fd : FuncData} {x : Str} {sp : Sp} {s : Shared} {us : List Value} {is : List Int} (kin : K.In s.heap) (ns1 : s.heap.Ns mainGlobals mg) (ns2 : s.heap.Ns builtinsNs mb)
    (boot : ∀ y : Str, y ≠ "__name__" → mb y = bootBuiltins y) (nol : s.heap.NoLimit) (ng : s.gens = #[]) (la : s.heap.get? a = some { cls := .type "list", data := .seq us.toArray }) (ii : IntsAre us is) (il : is.length ≤ sizeLine) (room : Room n callerA)
    (F : ∀ b0 : Heap, K.In b0 → b0.Ns mainGlobals mg → FnG P w K mg b0 T n f fd [x] sp) (bi : ∀ (t : Shared) (u : Value), BindsTo t fd ⟨[u], []⟩ [(x, u)])
    (q0 : ∀ H : Hp, Only H → SqL K H a (is.map V.int) → sp [.ref a] H (fun v _ => v = .bl true) fun _ _ _ => False) (nx : ∀ H e t, T [] H s (fun _ _ _ => False) e t → False) :
    codeAny (model P w) callerA (.call (.ref f) ⟨[.ref a], []⟩) (fun r t => r = .ok (.ret (.bool true)) ∧ OldK s.heap t.heap ∧ t.os = s.os ∧ AllBare t.gens) s := by
  have vi := vals_ints ii
  have li := ii.length
  have main : ∀ H : Hp, Only H → SqL K H a (is.map V.int) → HOk P w H s.heap → (∀ b, H b ≠ none → b = a) → (H a ≠ none → K.lookup a = none) →
      codeAny (model P w) callerA (.call (.ref f) ⟨[.ref a], []⟩) (fun r t => r = .ok (.ret (.bool true)) ∧ OldK s.heap t.heap ∧ t.os = s.os ∧ AllBare t.gens) s := by
    intro H only sq ok one noK
    have vis : ∀ {b : Addr} {o : Obj}, s.heap.get? b = some o → H b = none → (hidT s.heap H).get? b = some o := fun e z => hidT_get e z
    have dictN : ∀ {b : Addr} {o : Obj} {es : Array DictEntry} {m : Nat}, s.heap.get? b = some o → o.data = .dict es m → H b = none := fun {b o es m} e d => by
      cases z : H b with
      | none => rfl
      | some u =>
        have eb : b = a := one b (by rw [z]; simp)
        subst eb
        rw [la] at e
        cases e
        have d2 : Data.seq us.toArray _ = Data.dict es m := d
        cases d2
    have nsT : ∀ {b : Addr} {m : Str → Option Value}, s.heap.Ns b m → (hidT s.heap H).Ns b m := fun {b m} ⟨o, es, j, e, d, r⟩ => ⟨o, es, j, vis e (dictN e d), d, r⟩
    have kinT : K.In (hidT s.heap H) := fun b o e => vis (kin b o e) (by
      cases z : H b with
      | none => rfl
      | some u =>
        have eb : b = a := one b (by rw [z]; simp)
        subst eb
        rw [noK (by rw [z]; simp)] at e
        cases e)
    have md : Mod K mg (hidT s.heap H) := ⟨kinT, nsT ns1, ⟨mb, nsT ns2, boot⟩, let ⟨m, z1, z2⟩ := nol; ⟨m, nsT z1, z2⟩⟩
    have en : Env0 P w K mg (hidT s.heap H) callerA [] s H := ⟨rfl, md, fun b o e => of_hidT e, Nat.le_of_eq (hidT_size _ _), trivial, fun b z => absurd (show b ∈ ([] : List Addr) from z) (by simp), ok, .of_eq ng⟩
    refine codeAny_mono ((F _ kinT (nsT ns1)).go callerA [] s H ⟨[.ref a], []⟩ [.ref a] [.ref a] _ _ rfl room en (bi s (.ref a)) (.cons rfl .nil) (q0 H only sq)) fun r t z => ?_
    match r, z with
    | .error e, z => exact (nx H e t z).elim
    | .ok .next, z => exact False.elim z
    | .ok .brk, z => exact False.elim z
    | .ok .cont, z => exact False.elim z
    | .ok (.ret u), ⟨v, H1, os, bare, un, ok1, r1, q1⟩ =>
      have q2 : v = .bl true := q1
      subst q2
      obtain rfl : u = Value.bool true := r1
      refine ⟨rfl, OldK.of_keep fun b o e => ?_, os, bare⟩
      cases z : H b with
      | none => exact un.keep b o e z (by intro y; exact absurd (show b ∈ ([] : List Addr) from y) (by simp)) (by simp)
      | some u =>
        rcases only b with y | ⟨ob, xs, y⟩
        · rw [z] at y; cases y
        · have y2 := un.frzs b ob _ y
          obtain ⟨g1, _⟩ := ok b _ y
          obtain ⟨g2, _⟩ := ok1 b _ y2
          rw [e] at g1
          cases g1
          exact g2
  cases hk : K.lookup a with
  | some o =>
    have e := kin a o hk
    rw [la] at e
    cases e
    exact main (fun _ => none) (fun _ => .inl rfl) (.inr ⟨_, us.toArray, _, hk, rfl, rfl, rfl, by rw [List.size_toArray, li]; exact il, by simpa using vi⟩) (fun b u z => absurd (show (none : Option HO) = some u from z) (by simp)) (fun b z => absurd rfl z) fun z => absurd rfl z
  | none =>
    let Ha : Hp := fun b => if b = a then some (.frz { cls := .type "list", data := .seq us.toArray } (.lst (is.map V.int))) else none
    have ha : Ha a = some (.frz { cls := .type "list", data := .seq us.toArray } (.lst (is.map V.int))) := if_pos rfl
    have hb : ∀ {b}, b ≠ a → Ha b = none := fun z => if_neg z
    refine main Ha (fun b => ?_) (.inl (.inr ⟨_, ha⟩)) (fun b u z => ?_) (fun b z => ?_) fun _ => hk
    · by_cases e : b = a
      · subst e; exact .inr ⟨_, _, ha⟩
      · exact .inl (hb e)
    · by_cases e : b = a
      · subst e
        rw [ha] at z
        cases z
        exact ⟨la, by rw [List.length_map]; exact il, us, _, vi, la⟩
      · rw [hb e] at z; cases z
    · by_cases e : b = a
      · exact e
      · exact absurd (hb e) z
theorem walk_ofG {l : PySem.W.OpenLaw} {m n : Nat} {q : Program} {loose : List Str} {XP : (Str → Option Value) → Heap → Prop} {YP : World → Heap → Prop} {d : DefRec} {K : Params → PySem.W.Frag} {T : World → CXT} {sp : World → Sp} {x : Str} (h1 : l.most = some m) (h2 : m ≤ sizeLine) (h3 : d.params.defaults = []) (room : Room n callerA)
    (kin : ∀ (w : World) (h : Heap), YP w h → (K w.params).In h)
    (F : ∀ (w : World) (mg : Str → Option Value) (f : Addr) (h : Heap), (K w.params).In h → h.Ns mainGlobals mg → mg d.name = some (.ref f) →
      ∃ fd : FuncData, (∀ (s : Shared) (u : Value), BindsTo s fd ⟨[u], []⟩ [(x, u)]) ∧ ∀ b0 : Heap, (K w.params).In b0 → b0.Ns mainGlobals mg → FnG l.prog w (K w.params) mg b0 (T w) n f fd [x] (sp w))
    (q0 : ∀ (w : World) (H : Hp) (a : Addr) (is : List Int), is.length ≤ m → Only H → SqL (K w.params) H a (is.map V.int) → sp w [.ref a] H (fun v _ => v = .bl true) fun _ _ _ => False)
    (nx : ∀ (w : World) (H : Hp) (s : Shared) (e : Value) (t : Shared), T w [] H s (fun _ _ _ => False) e t → False) :
    PySem.W.WalkO q loose XP YP l.row.toRowW d [] (fun f vs => PySem.call f vs) :=
  Att.attach_call h1 h3 fun w s0 s1 mg mb f o pm cd doc a us is G Y _ _ _ hmg lo ii il ng => by
    have k := kin w _ Y
    obtain ⟨fd, bi, FF⟩ := F w mg f _ k G.T.g hmg
    exact law_callG k G.T.g G.T.b G.T.builtins G.T.nolimit ng lo ii (Nat.le_trans il h2) room FF bi (fun H ho hS => q0 w H a is il ho hS) fun H e t => nx w H s1 e t
/-! ## repr(x) of tuples and lists -/
section
variable {B : Bs} {X : Cx} {pos : Pos}
def rRepr (K : PySem.W.Frag) : List V → Hp → VK → Prop := fun xs H Q => ∃ (a : Addr) (d : PyData), xs = [.ref a] ∧ Dp K H (.ref a) d ∧ d.showable = true ∧ d.hasDict = false ∧ d.depth ≤ 60 ∧ d.shown.length ≤ sizeLine ∧ Q (.str d.shown) H
theorem call_reprG (hg : X.A.guards = some []) (hu : X.A.units + 66 < cLine) : CallR X (.builtin "repr") (rRepr X.K) := by
  intro pins s σ H xs us Q I r h
  obtain ⟨a, d, rfl, dp, h1, h2, h3, h4, q⟩ := h
  obtain ⟨u, rfl, ru⟩ := r.one
  obtain rfl : u = Value.ref a := ru
  obtain ⟨as, rd⟩ := Dp.reads I d _ _ dp rfl
  exact repr_of_reads' rd h1 (fun z => by rw [h2] at z; cases z) hg (by omega) (fun _ _ e => e) (fun h' u tk hk => ⟨.str d.shown, H, I.kept hk, ⟨_, rfl⟩, q⟩) h4
def repA : RCA := fun ds A Q => ∃ x p, ds = [x] ∧ ((∃ es, x = .tup es) ∨ ∃ a, x = .ref a) ∧ PyD A x p ∧ p.showable = true ∧ p.hasDict = false ∧ p.depth ≤ 60 ∧ p.shown.length ≤ sizeLine ∧ Q (.str p.shown) A
theorem lk_rep : Lkc B X.K (rRepr X.K) repA := by
  intro vs ds H A Q QA R r ⟨x, p, e, hx, hp, h1, h2, h3, h4, q⟩ k
  subst e
  obtain ⟨v, rfl, rv⟩ := r.one
  have dp := PyD.dp R.hp hp rv
  have hv : ∃ a, v = .ref a := by
    rcases hx with ⟨es, rfl⟩ | ⟨a, rfl⟩
    · obtain ⟨a, _, e, _⟩ := rv.tup_inv; exact ⟨a, e⟩
    · exact ⟨a, rv.ref_inv⟩
  obtain ⟨a, rfl⟩ := hv
  exact ⟨a, p, rfl, dp, h1, h2, h3, h4, k _ _ H A R (Step.refl _ _) (.str _) q⟩
end
/-! ## texts that are compared -/
section
variable {B : Bs} {X : Cx}
def eqSA (f : Bool → Bool) : R2A := fun x y A Q => ∃ s t, x = .str s ∧ y = .str t ∧ Q (.bl (f (decide (s = t)))) A
theorem lk_eqS : Lk2 B X.K rEq (eqSA id) := by
  intro x y d e H A Q QA R r1 r2 ⟨s, t, e1, e2, q⟩ k
  subst e1 e2
  rw [r1.str_inv, r2.str_inv]
  refine ⟨rfl, ?_⟩
  have : decide (V.str s = V.str t) = decide (s = t) := by rw [Bool.eq_iff_iff]; simp
  rw [this]
  exact k _ _ H A R (Step.refl _ _) (.bl _) q
theorem lk_neS : Lk2 B X.K rNe (eqSA not) := by
  intro x y d e H A Q QA R r1 r2 ⟨s, t, e1, e2, q⟩ k
  subst e1 e2
  rw [r1.str_inv, r2.str_inv]
  refine ⟨rfl, ?_⟩
  have : decide (V.str s = V.str t) = decide (s = t) := by rw [Bool.eq_iff_iff]; simp
  rw [this]
  exact k _ _ H A R (Step.refl _ _) (.bl _) q
end
/-! ## small data -/
mutual
def sml : D → Bool
  | .non => true
  | .int i => decide (i.natAbs < 1000000)
  | .tup ds => smls ds
  | _ => false
def smls : List D → Bool
  | [] => true
  | d :: ds => sml d && smls ds
end
theorem text_short {i : Int} (h : i.natAbs < 1000000) : (PyData.shown (.int i)).length ≤ 8 := by
  have := int_text_length_le10 (a := i) (k := 6) (by decide) h
  show (Str.ofString (toString i)).length ≤ 8
  rw [PySem.ofString_length]; omega
theorem log_short {i : Int} (h : i.natAbs < 1000000) : i.natAbs.log2 < 1920 := by
  by_cases z : i.natAbs = 0
  · rw [z]; decide
  · exact (Nat.log2_lt z).mpr (Nat.lt_trans h (Nat.lt_of_lt_of_le (show 1000000 < 2 ^ 20 by decide) (Nat.pow_le_pow_right (by decide) (by decide))))
mutual
theorem sml_py : ∀ d : D, sml d = true → (py d).leavesShort 8 = true ∧ (py d).showable = true ∧ (py d).hasDict = false ∧ pln d = true
  | .non, _ => by simp [py, PyData.leavesShort, PyData.showable, PyData.hasDict, pln]
  | .int i, h => by
    have h' : i.natAbs < 1000000 := by simpa [sml] using h
    have h1 := text_short h'
    have h2 := log_short h'
    simp only [py, PyData.leavesShort, PyData.showable, PyData.hasDict, pln, decide_eq_true_eq]
    exact ⟨h1, h2, trivial, trivial⟩
  | .tup ds, h => by
    obtain ⟨h1, h2, h3, h4⟩ := smls_py ds (by simpa [sml] using h)
    simp only [py, PyData.leavesShort, PyData.showable, PyData.hasDict, pln]
    exact ⟨h1, h2, h3, h4⟩
  | .bl b, h => by simp [sml] at h
  | .str b, h => by simp [sml] at h
  | .fls b, h => by simp [sml] at h
  | .ref b, h => by simp [sml] at h
  | .ty b, h => by simp [sml] at h
theorem smls_py : ∀ ds : List D, smls ds = true → PyData.leavesShortAll 8 (pys ds) = true ∧ PyData.showableAll (pys ds) = true ∧ PyData.hasDictAll (pys ds) = false ∧ plns ds = true
  | [], _ => by simp [pys, PyData.leavesShortAll, PyData.showableAll, PyData.hasDictAll, plns]
  | d :: ds, h => by
    simp only [smls, Bool.and_eq_true] at h
    obtain ⟨a1, a2, a3, a4⟩ := sml_py d h.1
    obtain ⟨b1, b2, b3, b4⟩ := smls_py ds h.2
    simp only [pys, PyData.leavesShortAll, PyData.showableAll, PyData.hasDictAll, plns, a1, a2, a3, a4, b1, b2, b3, b4, Bool.and_self, Bool.or_self, and_self]
end
theorem smls_of {ds : List D} (h : ∀ d ∈ ds, sml d = true) : smls ds = true := by
  induction ds with
  | nil => rfl
  | cons d ds ih =>
    simp only [smls, Bool.and_eq_true]
    exact ⟨h d List.mem_cons_self, ih fun e he => h e (List.mem_cons_of_mem _ he)⟩
mutual
def wt : D → Nat
  | .int _ => 20
  | .tup ds => wts ds
  | _ => 0
def wts : List D → Nat
  | [] => 0
  | d :: ds => wt d + 1 + wts ds
end
mutual
theorem wt_py : ∀ d : D, sml d = true → (py d).weight ≤ wt d
  | .non, _ => by simp [py, PyData.weight, wt]
  | .int i, h => by
    have h' : i.natAbs < 1000000 := by simpa [sml] using h
    simp only [py, PyData.weight, wt]
    split
    · omega
    · rename_i z
      have : i.natAbs ≠ 0 := fun y => z (by have : i = 0 := by omega
                                            simp [this])
      have := (Nat.log2_lt this).mpr (Nat.lt_trans h' (show 1000000 < 2 ^ 20 by decide))
      omega
  | .tup ds, h => by
    simp only [py, PyData.weight, wt]
    exact wts_py ds (by simpa [sml] using h)
  | .bl b, h => by simp [sml] at h
  | .str b, h => by simp [sml] at h
  | .fls b, h => by simp [sml] at h
  | .ref b, h => by simp [sml] at h
  | .ty b, h => by simp [sml] at h
theorem wts_py : ∀ ds : List D, smls ds = true → PyData.weightAll (pys ds) ≤ wts ds
  | [], _ => by simp [pys, PyData.weightAll, wts]
  | d :: ds, h => by
    simp only [smls, Bool.and_eq_true] at h
    have a := wt_py d h.1
    have b := wts_py ds h.2
    simp only [pys, PyData.weightAll, wts]
    omega
end
theorem wts_le {n : Nat} : ∀ {ds : List D}, (∀ d ∈ ds, wt d ≤ n) → wts ds ≤ (n + 1) * ds.length
  | [], _ => by simp [wts]
  | d :: ds, h => by
    have a := h d List.mem_cons_self
    have b := wts_le fun e he => h e (List.mem_cons_of_mem _ he)
    simp only [wts, List.length_cons, Nat.mul_add, Nat.mul_one]
    omega
theorem i_repT {A : AHp} {Q : AK} {ds : List D} (h : smls ds = true) (h2 : dep (.tup ds) ≤ 60) (h3 : wts ds ≤ 2 ^ 20) (k : Q (.str (py (.tup ds)).shown) A) : repA [.tup ds] A Q := by
  obtain ⟨a1, a2, a3, a4⟩ := sml_py (.tup ds) (by simpa [sml] using h)
  exact ⟨_, _, rfl, .inl ⟨ds, rfl⟩, pyD_of A _ a4, a2, a3, by rw [py_dep]; exact h2, PyData.shown_fits (by decide) (by decide) a1 (Nat.le_trans (wt_py (.tup ds) (by simpa [sml] using h)) (by simp only [wt]; exact h3)), k⟩
end Mu

namespace Mu
open PySem L2
local macro_rules | `(tactic| walk_at "sj1") => `(tactic| first
  | with_reducible refine i_seq ?_ | with_reducible refine i_bin ?_ | with_reducible refine i_var rfl ?_ | with_reducible refine i_c ?_ | with_reducible refine i_cons ?_ | with_reducible refine i_nil ?_
  | with_reducible refine i_call ?_ | with_reducible refine i_cb ?_ | with_reducible refine i_test ?_ | with_reducible refine i_bl ?_ | with_reducible refine i_asg ?_ | with_reducible refine i_gname ?_
  | with_reducible refine i_sif ?_ | with_reducible refine i_ret ?_ | with_reducible refine i_drop ?_ | with_reducible refine i_lm ?_ | with_reducible refine i_snil ?_ | with_reducible refine i_retN ?_
  | with_reducible refine i_tup ?_ | with_reducible refine j_lst ?_ | with_reducible refine i_and ?_ | with_reducible refine i_or ?_ | with_reducible refine i_not ?_ | with_reducible refine i_andV ?_ | with_reducible refine i_orV ?_
  | with_reducible refine i_notV ?_ | with_reducible refine i_if ?_ | with_reducible refine i_chain ?_ | with_reducible refine i_tru ?_ | with_reducible refine i_trub ?_ | with_reducible refine i_yes ?_ | with_reducible refine i_sl ?_
  | with_reducible refine i_ono ?_ | with_reducible refine i_oso ?_ | with_reducible refine i_ex_int ?_ | with_reducible refine i_break ?_ | with_reducible refine i_aug rfl ?_ | with_reducible refine i_gtup rfl ?_
  | with_reducible refine i_gscons ?_ | with_reducible refine i_gsnil ?_ | with_reducible refine i_gsub ?_ | with_reducible refine i_for ?_ | with_reducible refine j_lc ?_ | with_reducible refine i_iT ?_ | with_reducible refine i_iL ?_ | with_reducible refine i_iR1 ?_ | with_reducible refine i_iR2 ?_ | with_reducible refine i_iR3 ?_
  | with_reducible refine i_dg ?_ | with_reducible refine i_din ?_ | with_reducible refine j_dnew ?_ | with_reducible refine i_dput ?_
  | with_reducible refine i_raise ?_ | with_reducible refine i_raiseK ?_ | with_reducible refine i_tryAs ?_ | with_reducible refine i_tryOnly ?_ | with_reducible refine i_err rfl ?_
  | with_reducible refine i_fld ?_ | with_reducible refine i_sfld ?_ | with_reducible refine i_meth ?_ | with_reducible refine i_new ?_ | with_reducible refine i_neg ?_
  | with_reducible refine i_add ?_ | with_reducible refine i_sub ?_ | with_reducible refine i_cmp ?_ | with_reducible refine i_int1 ?_ | with_reducible refine i_int2 ?_ | with_reducible refine i_isb ?_ | with_reducible refine i_eqi ?_ | with_reducible refine i_eqb ?_ | refine i_ixt rfl rfl ?_)
local macro_rules | `(tactic| walk_at "sj") => `(tactic| repeat (walk_at "sj1"))
local macro_rules | `(tactic| walk_at "tj") => `(tactic| repeat (first | walk_at "sj1" | refine i_len (Nat.le_of_ble_eq_true rfl) ?_))
/-! ## walks -/
def Lt.frm : Lt → Nat
  | .ask s _ _ _ _ _ => s
  | .give s _ _ _ _ => s
theorem frm_out {hs : List Sta} {l u : Lt} (h : u ∈ ansOf hs l) : u.frm = l.to ∧ u.to = l.frm := by
  cases l with
  | ask s r x lo w t =>
    simp only [ansOf] at h
    split at h
    · cases h
    · split at h
      · simp only [List.mem_singleton] at h; subst h; exact ⟨rfl, rfl⟩
      · simp only [List.mem_cons, List.not_mem_nil, or_false] at h
        rcases h with rfl | rfl <;> exact ⟨rfl, rfl⟩
  | give s r k st wt =>
    simp only [ansOf] at h
    split at h
    · simp only [List.mem_singleton] at h; subst h; exact ⟨rfl, rfl⟩
    · cases h
theorem pot_pos {n : Nat} {l : Lt} (h : l.ok n) : 1 ≤ pot l := by
  cases l with
  | ask s r x lo w t => have := h.2.2.le; simp only [pot]; omega
  | give s r k st wt => simp only [pot]; split <;> decide
theorem pot_len {n : Nat} {ls : List Lt} (h : ∀ l ∈ ls, l.ok n) : ls.length ≤ (ls.map pot).sum := by
  induction ls with
  | nil => simp
  | cons l ls ih =>
    have h1 := pot_pos (h l List.mem_cons_self)
    have h2 := ih fun u hu => h u (List.mem_cons_of_mem _ hu)
    simp only [List.length_cons, List.map_cons, List.sum_cons]; omega
theorem ltd_to (l : Lt) : ∃ a b r, l.d = .tup (a :: b :: .int (l.to : Int) :: r) := by
  cases l with
  | ask s r x lo w t => exact ⟨_, _, _, rfl⟩
  | give s r k st wt => exact ⟨_, _, _, rfl⟩
theorem cutD_from1 {d : D} {ds : List D} : cutD (d :: ds) (some 1) none = ds := by
  unfold cutD
  have h1 : HT.sIx (d :: ds).length 0 (some 1) = 1 := by
    unfold HT.sIx; simp
  have h2 : HT.sIx (d :: ds).length (d :: ds).length none = (d :: ds).length := rfl
  rw [h1, h2]
  simp
def sp_walk : ASp := fun ds A Q _ => ∃ (p q : Addr) (hs gs : List Sta) (L : List SP) (x : Nat), ds = [.ref p, .ref q, .int (x : Int)] ∧ Hs (StoreS p hs :: StoreS q gs :: L) A ∧ gs.length = hs.length ∧ x < 10000 ∧
  ∀ A' n hs' gs', Runs [hs, gs] [.ask 0 1 x 0 hs.length (tot hs x 0 hs.length)] n [hs', gs'] → Hs (StoreS p hs' :: StoreS q gs' :: L) A' → Q (.int (n : Int)) A'
def T_walk : TSA := sSeq (sSet 3 (xLst (xsCons (xCall sp_opening (xsCons (xVar 0) (xsCons (xC (.int 0)) (xsCons (xC (.int 1)) (xsCons (xVar 2) (xsNil)))))) (xsNil)))) (sSeq (sSet 4 (xC (.int 0))) (sSeq (sWhile (xTru (xVar 3)) (sSeq (sSet 5 (xBin ixB (xVar 3) (xC (.int 0)))) (sSeq (sSet 3 (xBin addA (xSl (xVar 3) (oSome (xC (.int 1))) (oNone)) (xCall sp_answer (xsCons (xBin ixB (xLst (xsCons (xVar 0) (xsCons (xVar 1) (xsNil)))) (xBin ixB (xVar 5) (xC (.int 2)))) (xsCons (xVar 5) (xsNil)))))) (sAug 4 (xC (.int 1)))))) (sRet (xVar 4))))
theorem l_walk : ∀ ds A Q E, sp_walk ds A Q E → ds.length = ["one", "two", "salt"].length := by
  rintro ds A Q E ⟨p, q, hs, gs, L, x, rfl, _⟩; rfl
set_option maxHeartbeats 2000000 in
theorem w_walk : ∀ ds A Q E, sp_walk ds A Q E → T_walk (fun _ c pl A' => E c pl A') (bodyE Q) (envA 6 ds) A := by
  rintro ds A Q E ⟨p, q, hs, gs, L, x, rfl, S, eg, x1, h⟩
  have n64 := StoreS.n64 (S.at_ 0)
  have all0 := StoreS.all (S.at_ 0)
  have hle := all0.le
  unfold T_walk
  walk_at "sj"
  refine ⟨p, hs, _, 0, 1, (x : Int), rfl, S.f 0, by omega, by omega, fun A1 S => ?_⟩
  have S := S.b 0
  walk_at "tj"
  refine jnew S fun w A2 S => ?_
  walk_at "sj"
  generalize h0 : ([.ask 0 1 x 0 hs.length (tot hs x 0 hs.length)] : List Lt) = q0 at h
  refine wh_rule (fun m ρ A' => ∃ (hs' gs' : List Sta) (ls : List Lt) (w : Addr) (n : Nat) (o : Option D) (L' : List SP), ρ = [some (.ref p), some (.ref q), some (.int (x : Int)), some (.ref w), some (.int (n : Int)), o] ∧ Hs (pt w (.lst (ls.map Lt.d)) :: StoreS p hs' :: StoreS q gs' :: L) A' ∧ hs'.length = hs.length ∧ gs'.length = hs.length ∧
      (∀ l ∈ ls, l.ok hs.length ∧ l.to < 2 ∧ l.frm < 2) ∧ (∀ N s', Runs [hs', gs'] ls N s' → Runs [hs, gs] q0 (n + N) s') ∧ m = (ls.map pot).sum ∧ m ≤ 256)
    (fun m ρ A' hI NX nx => ?step) (m := 4 * hs.length - 1) ⟨hs, gs, q0, w, 0, none, [], rfl, ?_, rfl, eg, ?_, fun N s' r => by rw [Nat.zero_add]; exact r, ?_, by omega⟩
  case step =>
    obtain ⟨hs', gs', ls, w, n, o, L', rfl, S, e1, e2, hls, hr, em, hm⟩ := hI
    walk_at "sj"
    refine i_trul (S.at_ 0) ?_
    have lls := pot_len fun l hl => (hls l hl).1
    cases ls with
    | nil =>
      refine i_twoF rfl ?_
      walk_at "sj"
      exact h _ _ _ _ (hr 0 _ (.nil _)) S.tail
    | cons l ls =>
      refine i_twoT rfl ?_
      walk_at "sj"
      refine i_ixl (S.at_ 0) at_0 ?_
      walk_at "sj"
      refine jslL (S.at_ 0) ?_
      rw [List.map_cons, cutD_from1]
      refine jnew S fun w2 A4 S => ?_
      walk_at "tj"
      refine jnew S fun z A5 S => ?_
      obtain ⟨d0, d1, dr, ed⟩ := ltd_to l
      rw [ed]
      walk_at "sj"
      refine i_ixt rfl at_2 ?_
      obtain ⟨ok, lt, lf⟩ := hls l List.mem_cons_self
      have hlm : ((l :: ls).map pot).sum = pot l + (ls.map pot).sum := by simp
      have lz : ls.length < 300 := by simp only [List.length_cons] at lls; omega
      have okp : ∀ k, k < hs'.length → StOk (at_ hs' k) := fun k hk => StoreS.okAt (S.at_ 3) hk
      have okq : ∀ k, k < gs'.length → StOk (at_ gs' k) := fun k hk => StoreS.okAt (S.at_ 4) hk
      have fin : ∀ (hs2 gs2 : List Sta) (h1 : List Sta) (w' : Addr) (A6 : AHp), stepL [hs', gs'] l = [hs2, gs2] → outL [hs', gs'] l = ansOf h1 l → h1.length = hs.length → (∀ k, k < h1.length → StOk (at_ h1 k)) → hs2.length = hs.length → gs2.length = hs.length →
          Hs (pt w' (.lst ((ls ++ ansOf h1 l).map Lt.d)) :: StoreS p hs2 :: StoreS q gs2 :: L) A6 → NX [some (.ref p), some (.ref q), some (.int (x : Int)), some (.ref w'), some (.int ((n : Int) + 1)), some (.tup (d0 :: d1 :: .int (l.to : Int) :: dr))] A6 := by
        intro hs2 gs2 h1 w' A6 s1 s2 s3 s4 s5 s6 S
        have ok' : l.ok h1.length := by rw [s3]; exact ok
        have po := pot_out ok'
        have em' := em
        rw [hlm] at em'
        refine nx (((ls ++ ansOf h1 l).map pot).sum) _ _ ?_ ⟨hs2, gs2, ls ++ ansOf h1 l, w', n + 1, _, [], rfl, S, s5, s6, fun u hu => ?_, fun N s' r => ?_, rfl, ?_⟩
        · rw [em', List.map_append, List.sum_append]; omega
        · rcases List.mem_append.mp hu with hu | hu
          · exact hls u (List.mem_cons_of_mem _ hu)
          · obtain ⟨f1, f2⟩ := frm_out hu
            exact ⟨by rw [← s3]; exact ok_out s4 ok' u hu, by rw [f2]; exact lf, by rw [f1]; exact lt⟩
        · have := hr (N + 1) s' (.cons (by rw [s1, s2]; exact r))
          rwa [show n + (N + 1) = n + 1 + N by omega] at this
        · rw [List.map_append, List.sum_append]; omega
      have hz2 : ∀ h1 : List Sta, h1.length = hs.length → (∀ k, k < h1.length → StOk (at_ h1 k)) → (ls.map Lt.d).length + ((ansOf h1 l).map Lt.d).length ≤ sizeLine := fun h1 s3 s4 => by
        have ok' : l.ok h1.length := by rw [s3]; exact ok
        have po := pot_out ok'
        have pl := pot_len (ok_out s4 ok')
        rw [List.length_map, List.length_map, sizeLine_eq]
        omega
      have hto : l.to = 0 ∨ l.to = 1 := by omega
      rcases hto with hto | hto
      · refine i_ixl (S.at_ 0) (show atI [D.ref p, .ref q] ((l.to : Nat) : Int) = some (.ref p) by rw [hto]; rfl) ?_
        walk_at "sj"
        refine c_answer S 3 l rfl ed.symm (by rw [e1]; exact ok) fun a A6 S => ?_
        refine jcat (S.at_ 2) (S.at_ 0) (hz2 hs' e1 okp) ?_
        rw [← List.map_append]
        refine jnew S fun w3 A7 S => ?_
        walk_at "sj"
        exact fin (aftOf hs' l) gs' hs' w3 A7 (by unfold stepL; rw [hto]; rfl) (by unfold outL; rw [hto]; rfl) e1 okp (len_aft.trans e1) e2 (S.pick 7 [0, 5, 6])
      · refine i_ixl (S.at_ 0) (show atI [D.ref p, .ref q] ((l.to : Nat) : Int) = some (.ref q) by rw [hto]; rfl) ?_
        walk_at "sj"
        refine c_answer S 4 l rfl ed.symm (by rw [e2]; exact ok) fun a A6 S => ?_
        refine jcat (S.at_ 2) (S.at_ 0) (hz2 gs' e2 okq) ?_
        rw [← List.map_append]
        refine jnew S fun w3 A7 S => ?_
        walk_at "sj"
        exact fin hs' (aftOf gs' l) gs' w3 A7 (by unfold stepL; rw [hto]; rfl) (by unfold outL; rw [hto]; rfl) e2 okq e1 (len_aft.trans e2) (S.pick 7 [0, 5, 6])
  · subst h0; exact S
  · subst h0
    intro l hl
    simp only [List.mem_singleton] at hl
    subst hl
    exact ⟨⟨by omega, by omega, all0⟩, (show 1 < 2 by decide), (show 0 < 2 by decide)⟩
  · subst h0; simp [pot]
/-! ## blind or not -/
section
variable {h0 g0 : List Sta} {x : Nat}
theorem Anc.half {lo w : Nat} (hr : Rng h0.length lo w) (w1 : w ≠ 1) (anc : Anc h0 g0 x lo w) (neq : ¬ EqS h0 g0 x lo w) {lo1 : Nat} (h1 : lo ≤ lo1) (h2 : lo1 + w / 2 ≤ lo + w) (hr1 : Rng h0.length lo1 (w / 2)) : Anc h0 g0 x lo1 (w / 2) := fun lo' w' g1 g2 g3 g4 => by
  have gw := hr.wide w1 g1 g4
  have hl1 := hr1.le
  obtain ⟨n1, n2⟩ := hr.nest g1 gw (k := lo1) h1 (by omega) g2 (by omega)
  by_cases e : w = w'
  · subst e
    have : lo' = lo := by omega
    subst this
    exact neq
  · exact anc lo' w' g1 n1 n2 (by omega)
theorem Anc.one {k : Nat} (anc : Anc h0 g0 x k 1) : ¬ Blind h0 g0 x k := fun ⟨lo', w', g1, g2, g3, g4, g5⟩ => anc lo' w' g1 g3 (by omega) g2 g5
theorem Anc.all : Anc h0 g0 x 0 h0.length := fun lo' w' g1 g2 g3 g4 => by have := g1.le; omega
end
def sp_is_blind : ASp := fun ds A Q _ => ∃ (p q : Addr) (hs gs : List Sta) (L : List SP) (x k : Nat), ds = [.ref p, .ref q, .int (x : Int), .int (k : Int)] ∧ Hs (StoreS p hs :: StoreS q gs :: L) A ∧ gs.length = hs.length ∧ k < hs.length ∧ x < 10000 ∧
  ∀ A' (b : Bool), (b = true ↔ Blind hs gs x k) → Hs (StoreS p hs :: StoreS q gs :: L) A' → Q (.bl b) A'
def T_is_blind : TSA := sSeq (sSet 4 (xC (.int 0))) (sSeq (sSet 5 (xFld "Store" (xVar 0) "size")) (sSeq (sWhile (xTest (xBin gtA (xBin subA (xVar 5) (xVar 4)) (xC (.int 1)))) (sSeq (sIf (xTest (xBin (eqA id) (xMeth "Store" "total" sp_Store_total (xVar 0) (xsCons (xVar 4) (xsCons (xVar 5) (xsCons (xVar 2) (xsNil))))) (xMeth "Store" "total" sp_Store_total (xVar 1) (xsCons (xVar 4) (xsCons (xVar 5) (xsCons (xVar 2) (xsNil))))))) (sRet (xC (.bl true))) (sNil)) (sSeq (sSet 6 (xBin divA (xBin addA (xVar 4) (xVar 5)) (xC (.int 2)))) (sIf (xTest (xBin ltA (xVar 3) (xVar 6))) (sSet 5 (xVar 6)) (sSet 4 (xVar 6)))))) (sRet (xC (.bl false)))))
theorem l_is_blind : ∀ ds A Q E, sp_is_blind ds A Q E → ds.length = ["one", "two", "salt", "key"].length := by
  rintro ds A Q E ⟨p, q, hs, gs, L, x, k, rfl, _⟩; rfl
theorem w_is_blind : ∀ ds A Q E, sp_is_blind ds A Q E → T_is_blind (fun _ c pl A' => E c pl A') (bodyE Q) (envA 7 ds) A := by
  rintro ds A Q E ⟨p, q, hs, gs, L, x, k, rfl, S, eg, hk, x1, h⟩
  unfold T_is_blind
  have all0 := StoreS.all (S.at_ 0)
  walk_at "sj"
  refine jsize S 0 rfl ?_
  walk_at "sj"
  refine wh_rule (fun m ρ A' => ∃ (lo : Nat) (o : Option D), Rng hs.length lo m ∧ lo ≤ k ∧ k < lo + m ∧ Anc hs gs x lo m ∧ ρ = [some (.ref p), some (.ref q), some (.int (x : Int)), some (.int (k : Int)), some (.int (lo : Int)), some (.int ((lo : Int) + (m : Int))), o] ∧ Hs (StoreS p hs :: StoreS q gs :: L) A')
    (fun m ρ A' hI NX nx => ?step) (m := hs.length) ⟨0, none, all0, Nat.zero_le _, by omega, Anc.all, by simp only [Int.natCast_zero, Int.zero_add]; rfl, S⟩
  obtain ⟨lo, o, hr, k1, k2, anc, rfl, S⟩ := hI
  walk_at "sj"
  refine i_two (fun hb => ?_) (fun hb => ?_)
  · have m1 : 1 < m := by have := of_decide_eq_true hb; omega
    walk_at "sj"
    refine jmeth S 0 rfl (fun _ _ _ => rfl) ?_
    walk_at "sj"
    refine c_tot S 0 rfl (by omega) (by omega) hr rfl rfl fun A1 S => ?_
    walk_at "tj"
    refine jmeth S 1 rfl (fun _ _ _ => rfl) ?_
    walk_at "sj"
    refine c_tot S 1 rfl (by omega) (by omega) (by rw [eg]; exact hr) rfl rfl fun A2 S => ?_
    walk_at "tj"
    refine i_two (fun h1 => ?_) (fun h1 => ?_)
    · have e : EqS hs gs x lo m := by unfold EqS; simpa using h1
      walk_at "sj"
      exact h _ _ ⟨fun _ => ⟨lo, m, hr, m1, k1, k2, e⟩, fun _ => rfl⟩ S
    · have ne : ¬ EqS hs gs x lo m := by unfold EqS; simpa using h1
      obtain ⟨r1, r2, r3⟩ := hr.half (by omega)
      walk_at "sj"
      refine i_div (by decide) (by decide) ?_
      have em : ((lo : Int) + ((lo : Int) + (m : Int))) / 2 = ((lo + m / 2 : Nat) : Int) := by omega
      rw [em]
      walk_at "sj"
      refine i_two (fun h2 => ?_) (fun h2 => ?_)
      · have kl : k < lo + m / 2 := by have := of_decide_eq_true h2; omega
        walk_at "sj"
        refine nx (m / 2) _ _ (by omega) ⟨lo, some (.int ((lo + m / 2 : Nat) : Int)), r1, k1, kl, Anc.half hr (by omega) anc ne (Nat.le_refl _) (by omega) r1, ?_, S⟩
        rw [show ((lo : Int) + ((m / 2 : Nat) : Int)) = ((lo + m / 2 : Nat) : Int) by omega]
        rfl
      · have kl : lo + m / 2 ≤ k := by have := of_decide_eq_false h2; omega
        walk_at "sj"
        refine nx (m / 2) _ _ (by omega) ⟨lo + m / 2, some (.int ((lo + m / 2 : Nat) : Int)), r2, kl, by omega, Anc.half hr (by omega) anc ne (by omega) (by omega) r2, ?_, S⟩
        rw [show (((lo + m / 2 : Nat) : Int) + ((m / 2 : Nat) : Int)) = (lo : Int) + (m : Int) by omega]
        rfl
  · have m1 : m = 1 := by have := of_decide_eq_false hb; have := hr.le; omega
    subst m1
    have : k = lo := by omega
    subst this
    walk_at "sj"
    exact h _ _ ⟨fun z => (by cases z), fun z => absurd z anc.one⟩ S
def sp_most_letters : ASp := fun ds A Q _ => ∃ (g m : Nat), ds = [.int ((2 ^ g : Nat) : Int), .int (m : Int)] ∧ g ≤ 6 ∧ m ≤ 64 ∧ Q (.int ((1 + 2 * m * (g + 1) : Nat) : Int)) A
def T_most_letters : TSA := sSeq (sSet 2 (xC (.int 0))) (sSeq (sWhile (xTest (xBin ltA (xBin shlA (xC (.int 1)) (xVar 2)) (xVar 0))) (sAug 2 (xC (.int 1)))) (sRet (xBin addA (xC (.int 1)) (xBin mulA (xBin mulA (xC (.int 2)) (xVar 1)) (xBin addA (xVar 2) (xC (.int 1)))))))
theorem l_most_letters : ∀ ds A Q E, sp_most_letters ds A Q E → ds.length = ["size", "many"].length := by
  rintro ds A Q E ⟨g, m, rfl, _⟩; rfl
theorem w_most_letters : ∀ ds A Q E, sp_most_letters ds A Q E → T_most_letters (fun _ c pl A' => E c pl A') (bodyE Q) (envA 3 ds) A := by
  rintro ds A Q E ⟨g, m, rfl, g6, m6, h⟩
  unfold T_most_letters
  walk_at "sj"
  refine wh_rule (fun n ρ A' => ∃ d : Nat, d + n = g ∧ A' = A ∧ ρ = [some (.int ((2 ^ g : Nat) : Int)), some (.int (m : Int)), some (.int (d : Int))]) (fun n ρ A' hI NX nx => ?step) (m := g) ⟨0, by omega, rfl, rfl⟩
  obtain ⟨d, hd, rfl, rfl⟩ := hI
  walk_at "sj"
  refine i_int (C := CPow) ⟨by omega, by omega, by decide⟩ ?_
  walk_at "sj"
  have e1 : (1 : Int) * 2 ^ ((d : Int)).toNat = ((2 ^ d : Nat) : Int) := by rw [Int.toNat_natCast, Int.one_mul, Int.natCast_pow]; rfl
  rw [e1]
  refine i_two (fun hb => ?_) (fun hb => ?_)
  · have lt : 2 ^ d < 2 ^ g := Int.ofNat_lt.mp (of_decide_eq_true hb)
    have : d < g := (Nat.pow_lt_pow_iff_right (by decide)).mp lt
    walk_at "sj"
    exact nx (n - 1) _ _ (by omega) ⟨d + 1, by omega, rfl, rfl⟩
  · have nl : ¬ 2 ^ d < 2 ^ g := fun z => of_decide_eq_false hb (Int.ofNat_lt.mpr z)
    have : d = g := by
      rcases Nat.lt_or_ge d g with z | z
      · exact absurd (Nat.pow_lt_pow_right (by decide) z) nl
      · omega
    subst this
    walk_at "sj"
    refine i_mul (.inl (.inl ⟨by decide, by decide⟩)) ?_
    walk_at "sj"
    refine i_mul (.inl (.inr ⟨by omega, by omega⟩)) ?_
    walk_at "sj"
    have e2 : (1 : Int) + 2 * (m : Int) * ((d : Int) + 1) = ((1 + 2 * m * (d + 1) : Nat) : Int) := by
      simp only [Int.natCast_add, Int.natCast_mul]; rfl
    rw [e2]
    exact h
end Mu

namespace Mu
open PySem L2
local macro_rules | `(tactic| walk_at "sj1") => `(tactic| first
  | with_reducible refine i_seq ?_ | with_reducible refine i_bin ?_ | with_reducible refine i_var rfl ?_ | with_reducible refine i_c ?_ | with_reducible refine i_cons ?_ | with_reducible refine i_nil ?_
  | with_reducible refine i_call ?_ | with_reducible refine i_cb ?_ | with_reducible refine i_test ?_ | with_reducible refine i_bl ?_ | with_reducible refine i_asg ?_ | with_reducible refine i_gname ?_
  | with_reducible refine i_sif ?_ | with_reducible refine i_ret ?_ | with_reducible refine i_drop ?_ | with_reducible refine i_lm ?_ | with_reducible refine i_snil ?_ | with_reducible refine i_retN ?_
  | with_reducible refine i_tup ?_ | with_reducible refine j_lst ?_ | with_reducible refine i_and ?_ | with_reducible refine i_or ?_ | with_reducible refine i_not ?_ | with_reducible refine i_andV ?_ | with_reducible refine i_orV ?_
  | with_reducible refine i_notV ?_ | with_reducible refine i_if ?_ | with_reducible refine i_chain ?_ | with_reducible refine i_tru ?_ | with_reducible refine i_trub ?_ | with_reducible refine i_yes ?_ | with_reducible refine i_sl ?_
  | with_reducible refine i_ono ?_ | with_reducible refine i_oso ?_ | with_reducible refine i_ex_int ?_ | with_reducible refine i_break ?_ | with_reducible refine i_aug rfl ?_ | with_reducible refine i_gtup rfl ?_
  | with_reducible refine i_gscons ?_ | with_reducible refine i_gsnil ?_ | with_reducible refine i_gsub ?_ | with_reducible refine i_for ?_ | with_reducible refine j_lc ?_ | with_reducible refine i_iT ?_ | with_reducible refine i_iL ?_ | with_reducible refine i_iR1 ?_ | with_reducible refine i_iR2 ?_ | with_reducible refine i_iR3 ?_
  | with_reducible refine i_dg ?_ | with_reducible refine i_din ?_ | with_reducible refine j_dnew ?_ | with_reducible refine i_dput ?_
  | with_reducible refine i_raise ?_ | with_reducible refine i_raiseK ?_ | with_reducible refine i_tryAs ?_ | with_reducible refine i_tryOnly ?_ | with_reducible refine i_err rfl ?_
  | with_reducible refine i_fld ?_ | with_reducible refine i_sfld ?_ | with_reducible refine i_meth ?_ | with_reducible refine i_new ?_ | with_reducible refine i_neg ?_
  | with_reducible refine i_add ?_ | with_reducible refine i_sub ?_ | with_reducible refine i_cmp ?_ | with_reducible refine i_int1 ?_ | with_reducible refine i_int2 ?_ | with_reducible refine i_isb ?_ | with_reducible refine i_eqi ?_ | with_reducible refine i_eqb ?_ | refine i_ixt rfl rfl ?_)
local macro_rules | `(tactic| walk_at "sj") => `(tactic| repeat (walk_at "sj1"))
local macro_rules | `(tactic| walk_at "tj") => `(tactic| repeat (first | walk_at "sj1" | refine i_len (Nat.le_of_ble_eq_true rfl) ?_))
/-! ## differences, what is compared -/
theorem pln_stD (s : Sta) : pln (stD s) = true := (cmp_stD s).1
theorem dep_stD3 (s : Sta) : dep (stD s) ≤ 3 := by
  have h3 := tIs_deps (vers s)
  have h0 : dep (seenD (seen s)) = 1 := by simp [seenD, dep, deps]
  simp only [stD, dep, deps]
  rw [h0]; omega
theorem cmp_rows (hs : List Sta) : Cmp (.tup (rowsD hs)) := by
  refine ⟨?_, ?_⟩
  · simp only [pln]
    refine plns_of fun d hd => ?_
    obtain ⟨k, _, rfl⟩ := List.mem_map.mp hd
    simp only [pln, plns, pln_stD, Bool.and_self]
  · simp only [dep]
    have : deps (rowsD hs) ≤ 5 := deps_le fun d hd => by
      obtain ⟨k, _, rfl⟩ := List.mem_map.mp hd
      have := dep_stD3 (hs.getD k emp)
      simp only [dep, deps]; omega
    omega
theorem i_eqE {f : Bool → Bool} {x : D} {A : AHp} {Q : AK} (hx : Cmp x) (k : Q (.bl (f true)) A) : eqA f x x A Q := i_eq hx hx fun b hb => by rw [hb.mpr rfl]; exact k
theorem i_eqlE {f : Bool → Bool} {a b : Addr} {xs ys : List D} {A : AHp} {Q : AK} (h1 : A a = some (.lst xs)) (h2 : A b = some (.lst ys)) (hx : Cmp (.tup xs)) (e : ys = xs) (k : Q (.bl (f true)) A) : eqA f (.ref a) (.ref b) A Q :=
  i_eql h1 h2 hx (by rw [e]; exact hx) fun t ht => by rw [ht.mpr e.symm]; exact k
theorem b_of {b : Bool} {P : Prop} (h : b = true ↔ P) (n : ¬ P) : b = false := by
  cases b with
  | false => rfl
  | true => exact absurd (h.mp rfl) n
theorem b_not {b : Bool} {P : Prop} (h : b = true ↔ P) (z : (!b) = true) : ¬ P := fun p => by rw [h.mpr p] at z; cases z
theorem b_yes {b : Bool} {P : Prop} (h : b = true ↔ P) (z : (!b) = false) : P := h.mp (by cases b with
  | true => rfl
  | false => cases z)
theorem natsD (ks : List Nat) : (ks.map fun k : Nat => D.int (k : Int)) = (ks.map fun k : Nat => (k : Int)).map D.int := by rw [List.map_map]; rfl
theorem cmp_nats (ks : List Nat) : Cmp (.tup (ks.map fun k : Nat => D.int (k : Int))) := by rw [natsD]; exact cmp_tI _
/-- the keys at which two stores differ -/
def apart (hs gs : List Sta) : List Nat := (List.range hs.length).filter fun k => decide (Dif hs gs k)
def sp_differences : ASp := fun ds A Q _ => ∃ (p q : Addr) (hs gs : List Sta) (L : List SP), ds = [.ref p, .ref q] ∧ Hs (StoreS p hs :: StoreS q gs :: L) A ∧ gs.length = hs.length ∧
  ∀ a A', Hs (pt a (.lst ((apart hs gs).map fun k : Nat => D.int (k : Int))) :: StoreS p hs :: StoreS q gs :: L) A' → Q (.ref a) A'
def T_differences : TSA := sRet (xLc 2 (iR1 (xsCons (xFld "Store" (xVar 0) "size") (xsNil))) (xTest (xBin (eqA not) (xMeth "Store" "state" sp_Store_state (xVar 0) (xsCons (xVar 2) (xsNil))) (xMeth "Store" "state" sp_Store_state (xVar 1) (xsCons (xVar 2) (xsNil))))) (xVar 2))
theorem l_differences : ∀ ds A Q E, sp_differences ds A Q E → ds.length = ["one", "two"].length := by
  rintro ds A Q E ⟨p, q, hs, gs, L, rfl, _⟩; rfl
theorem w_differences : ∀ ds A Q E, sp_differences ds A Q E → T_differences (fun _ c pl A' => E c pl A') (bodyE Q) (envA 3 ds) A := by
  rintro ds A Q E ⟨p, q, hs, gs, L, rfl, S, eg, h⟩
  have n64 := StoreS.n64 (S.at_ 0)
  unfold T_differences
  walk_at "sj"
  refine jsize S 0 rfl ?_
  walk_at "sj"
  refine i_iR1K (by omega) (by omega) ?_
  rw [Int.toNat_natCast, show rngD 0 1 hs.length = _ from rng_nat (n := hs.length)]
  refine lc_rule (fun i : Nat => D.int (i : Int)) (fun k : Nat => D.int (k : Int)) (fun k => decide (Dif hs gs k)) (fun _ A' => A' = A) (List.range hs.length) (by rw [List.length_range]; omega) (fun _ _ _ => trivial)
    (fun pre i post e A1 eA K1 K2 k1 k2 => ?step) (fun A1 eA => ?fin) rfl
  case step =>
    subst eA
    obtain ⟨rfl, lx⟩ := rng_pre e
    walk_at "sj"
    refine jmeth S 0 rfl (fun _ _ _ => rfl) ?_
    walk_at "sj"
    refine c_sstate S 0 rfl (by omega) ?_
    walk_at "sj"
    refine jmeth S 1 rfl (fun _ _ _ => rfl) ?_
    walk_at "sj"
    refine c_sstate S 1 rfl (by omega) ?_
    walk_at "sj"
    refine i_eq (cmp_stD _) (cmp_stD _) fun b hb => ?_
    rw [stD_eq] at hb
    walk_at "sj"
    refine i_two (fun h1 => ?_) (fun h1 => ?_)
    · walk_at "sj"
      exact k1 (decide_eq_true (b_not hb h1)) _ rfl
    · exact k2 (decide_eq_false fun z => z (b_yes hb h1)) _ rfl
  subst eA
  exact jnew S h
end Mu

namespace Mu
open PySem L2
/-! ## states that make sums equal; odds and ends -/
def lone (n : Int) : Sta := fun k => ⟨if k = 3 then n else 0, none⟩
theorem lone_ok {n : Int} (h0 : 0 ≤ n) (h1 : n ≤ 255) : StOk (lone n) := fun k => by
  refine ⟨?_, ?_, fun c w e => by cases e⟩ <;> (simp only [lone]; split <;> omega)
theorem lone_code (n : Int) : codeN (lone n) = n := by
  have hv : vers (lone n) = [] := rfl
  have p : ∀ i, pad (lone n) i = [0, 0, 0] := fun i => by unfold pad; rw [hv]; rfl
  have z : codeV (lone n) 4 = 0 := by
    rw [codeV_succ, codeV_succ, codeV_succ, codeV_succ, p, p, p, p]
    have : codeV (lone n) 0 = 0 := by show ((vers (lone n)).length : Int) = 0; rw [hv]; rfl
    rw [this]; decide
  have s0 : seen (lone n) 0 = 0 := rfl
  have s1 : seen (lone n) 1 = 0 := rfl
  have s2 : seen (lone n) 2 = 0 := rfl
  have s3 : seen (lone n) 3 = n := rfl
  unfold codeN
  rw [z, s0, s1, s2, s3]; omega
theorem lone_trap {hs gs : List Sta} {j : Nat} {u : Int} (h1 : 2 * j + 1 < hs.length) (h2 : 2 * j + 1 < gs.length) :
    EqS ((hs.set (2 * j) (lone (u + 2))).set (2 * j + 1) (lone u)) ((gs.set (2 * j) (lone u)).set (2 * j + 1) (lone (u + 1))) 2 (2 * j) 2 := by
  have e : ∀ (ts : List Sta) (lo : Nat), tot ts (2 : Nat) lo 2 = (codeN (at_ ts lo) * (2 : Int) ^ lo + codeN (at_ ts (lo + 1)) * (2 : Int) ^ (lo + 1)) % PR := fun ts lo => by
    simp [tot, rsum, hf, List.range_succ]
  have a : ∀ (ts : List Sta) (s t : Sta), 2 * j + 1 < ts.length → at_ ((ts.set (2 * j) s).set (2 * j + 1) t) (2 * j) = s ∧ at_ ((ts.set (2 * j) s).set (2 * j + 1) t) (2 * j + 1) = t := fun ts s t h => by
    refine ⟨?_, ?_⟩
    · show ((ts.set (2 * j) s).set (2 * j + 1) t).getD (2 * j) emp = s
      rw [hset (by rw [List.length_set]; exact h), if_neg (by omega), hset (by omega), if_pos rfl]
    · show ((ts.set (2 * j) s).set (2 * j + 1) t).getD (2 * j + 1) emp = t
      rw [hset (by rw [List.length_set]; exact h), if_pos rfl]
  unfold EqS
  rw [e, e, (a hs _ _ h1).1, (a hs _ _ h1).2, (a gs _ _ h2).1, (a gs _ _ h2).2, lone_code, lone_code, lone_code]
  congr 1
  rw [Int.pow_succ, Int.add_mul, Int.add_mul, Int.one_mul, Int.mul_comm ((2 : Int) ^ (2 * j)) 2]
  generalize (2 : Int) ^ (2 * j) = z
  rw [Int.mul_left_comm]
  omega
theorem div2 {g : Nat} (h : 1 ≤ g) : ((2 ^ g : Nat) : Int) / 2 = ((2 ^ (g - 1) : Nat) : Int) := by
  obtain ⟨e, rfl⟩ : ∃ e, g = e + 1 := ⟨g - 1, by omega⟩
  rw [Nat.add_sub_cancel, Nat.pow_succ]; omega
theorem rangeAt {α : Type} {f : Nat → α} {n k : Nat} {d : α} (h : k < n) : ((List.range n).map f)[k]? = some (f k) := by rw [List.getElem?_map, List.getElem?_range h]; rfl
theorem mem_apart {hs gs : List Sta} {k : Nat} : k ∈ apart hs gs ↔ k < hs.length ∧ Dif hs gs k := by
  unfold apart; rw [List.mem_filter, List.mem_range, decide_eq_true_iff]
theorem mm_apart (hs gs : List Sta) : mm_ hs gs 0 hs.length = (apart hs gs).length := by
  unfold mm_ apart; congr 2; funext j; rw [Nat.zero_add]
theorem int_mem {ks : List Nat} {k : Nat} : D.int (k : Int) ∈ (ks.map fun k : Nat => D.int (k : Int)) ↔ k ∈ ks := by
  rw [List.mem_map]
  constructor
  · rintro ⟨j, hj, e⟩
    have := D.int.inj e
    have e : j = k := by omega
    rw [← e]; exact hj
  · exact fun h => ⟨k, h, rfl⟩
open Classical in
theorem b_dec {b : Bool} {P : Prop} (h : b = true ↔ P) : b = decide P := by
  rw [Bool.eq_iff_iff, h, decide_eq_true_iff]
theorem rng_one {n : Nat} : rngD 1 1 n = (List.range n).map fun i : Nat => D.int ((i + 1 : Nat) : Int) := by
  unfold rngD
  refine List.map_congr_left fun i _ => ?_
  congr 1; omega
end Mu

namespace Mu
open PySem L2

/-! ## records, in plain numbers -/
def ck (bs : List Int) : Int := bs.foldl (fun t b => (t * 31 + b + 7) % 251) 181
theorem ck_snoc (bs : List Int) (b : Int) : ck (bs ++ [b]) = (ck bs * 31 + b + 7) % 251 := by unfold ck; rw [List.foldl_append]; rfl
theorem ck_bd (bs : List Int) : 0 ≤ ck bs ∧ ck bs < 251 := by
  rcases List.eq_nil_or_concat bs with rfl | ⟨L, b, rfl⟩
  · decide
  · rw [List.concat_eq_append, ck_snoc]; exact ⟨Int.emod_nonneg _ (by decide), Int.emod_lt_of_pos _ (by decide)⟩
def digs (n : Int) (m : Nat) : List Int := (List.range m).map fun i => dn i n % 256
def val : List Int → Int
  | [] => 0
  | b :: bs => b + 256 * val bs
theorem dn_succ' (i : Nat) (n : Int) : dn (i + 1) n = dn i (n / 256) := by
  induction i with
  | zero => rfl
  | succ i ih =>
    have e1 : dn (i + 1 + 1) n = dn (i + 1) n / 256 := rfl
    have e2 : dn (i + 1) (n / 256) = dn i (n / 256) / 256 := rfl
    rw [e1, e2, ih]
theorem digs_succ (n : Int) (m : Nat) : digs n (m + 1) = n % 256 :: digs (n / 256) m := by
  unfold digs
  rw [List.range_succ_eq_map, List.map_cons, List.map_map]
  congr 1
  refine List.map_congr_left fun i _ => ?_
  simp only [Function.comp]
  rw [Nat.succ_eq_add_one, dn_succ']
theorem val_digs : ∀ (m : Nat) (n : Int), 0 ≤ n → n < 256 ^ m → val (digs n m) = n
  | 0, n, h0, h1 => by
    rw [Int.pow_zero] at h1
    have : digs n 0 = [] := rfl
    rw [this]; show (0 : Int) = n; omega
  | m + 1, n, h0, h1 => by
    rw [digs_succ]
    show n % 256 + 256 * val (digs (n / 256) m) = n
    rw [Int.pow_succ] at h1
    rw [val_digs m (n / 256) (by omega) (by omega)]
    omega
theorem digs_bd (n : Int) (m : Nat) : ∀ b ∈ digs n m, 0 ≤ b ∧ b ≤ 255 := by
  intro b hb
  obtain ⟨i, _, rfl⟩ := List.mem_map.mp hb
  omega
theorem digs_len (n : Int) (m : Nat) : (digs n m).length = m := by unfold digs; simp
def recH (key : Int) (s : Sta) : List Int := 181 :: key :: digs (codeN s) 17
def recB (key : Int) (s : Sta) : List Int := recH key s ++ [ck (recH key s)]
theorem recH_len (key : Int) (s : Sta) : (recH key s).length = 19 := by unfold recH; simp [digs_len]
theorem recB_len (key : Int) (s : Sta) : (recB key s).length = 20 := by unfold recB; rw [List.length_append, recH_len]; rfl
def num (part : List Int) : Int := val ((part.drop 2).take 17)
structure IsRec (part : List Int) : Prop where
  len : part.length = 20
  mark : part.getD 0 0 = 181
  chk : part.getD 19 0 = ck (part.take 19)
theorem recB_is (key : Int) (s : Sta) : IsRec (recB key s) := by
  refine ⟨recB_len key s, rfl, ?_⟩
  unfold recB
  rw [List.take_left' (recH_len key s), List.getD_eq_getElem?_getD, List.getElem?_append_right (by rw [recH_len]; decide), recH_len]
  rfl
theorem recB_num {s : Sta} (ok : StOk s) (key : Int) : num (recB key s) = codeN s := by
  unfold num recB recH
  simp only [List.cons_append, List.drop_succ_cons, List.drop_zero]
  rw [List.take_left' (digs_len _ _)]
  have := code_bd ok
  exact val_digs 17 _ this.1 (Int.lt_trans this.2 (by decide))
theorem recB_key (key : Int) (s : Sta) : (recB key s).getD 1 0 = key := rfl
theorem recB_bd {s : Sta} {key : Int} (h0 : 0 ≤ key) (h1 : key ≤ 255) : ∀ b ∈ recB key s, 0 ≤ b ∧ b ≤ 255 := by
  intro b hb
  unfold recB recH at hb
  have := ck_bd (181 :: key :: digs (codeN s) 17)
  simp only [List.cons_append, List.mem_cons, List.mem_append, List.not_mem_nil, or_false] at hb
  rcases hb with rfl | rfl | hb | rfl
  · decide
  · exact ⟨h0, h1⟩
  · exact digs_bd _ _ b hb
  · omega
/-! ## what is read -/
def Len20 (bs : List Int) : Prop := ¬ IsRec (bs.take 20)
inductive Recs (n : Int) : List Int → List (Int × Sta) → Prop
  | done {bs} : ¬ IsRec (bs.take 20) → Recs n bs []
  | more {bs s rows} : IsRec (bs.take 20) → StOk s → codeN s = num (bs.take 20) → (bs.take 20).getD 1 0 < n → Recs n (bs.drop 20) rows → Recs n bs (((bs.take 20).getD 1 0, s) :: rows)
inductive Bad (n : Int) : List Int → Str → Prop
  | code {bs} : IsRec (bs.take 20) → (∀ s, StOk s → codeN s ≠ num (bs.take 20)) → Bad n bs "code"
  | disk {bs s} : IsRec (bs.take 20) → StOk s → codeN s = num (bs.take 20) → ¬ (bs.take 20).getD 1 0 < n → Bad n bs "disk"
  | more {bs s nm} : IsRec (bs.take 20) → StOk s → codeN s = num (bs.take 20) → (bs.take 20).getD 1 0 < n → Bad n (bs.drop 20) nm → Bad n bs nm
theorem Bad.name {n : Int} {bs : List Int} {nm : Str} (h : Bad n bs nm) : nm = "disk" ∨ nm = "code" := by
  induction h with
  | code _ _ => exact .inr rfl
  | disk _ _ _ _ => exact .inl rfl
  | more _ _ _ _ _ ih => exact ih
theorem Recs.det {n : Int} {bs : List Int} {r1 : List (Int × Sta)} (h : Recs n bs r1) : ∀ {r2}, Recs n bs r2 → r1 = r2 := by
  induction h with
  | done h => intro r2 h2; cases h2 with
    | done _ => rfl
    | more h' _ _ _ _ => exact absurd h' h
  | more h1 h2 h3 h4 _ ih => intro r2 h'; cases h' with
    | done h' => exact absurd h1 h'
    | more g1 g2 g3 g4 g5 =>
      rw [codeN_inj h2 g2 (h3.trans g3.symm), ih g5]
theorem Recs.notBad {n : Int} {bs : List Int} {r : List (Int × Sta)} {nm : Str} (h : Recs n bs r) (b : Bad n bs nm) : False := by
  induction h with
  | done h => cases b with
    | code h' _ => exact h h'
    | disk h' _ _ _ => exact h h'
    | more h' _ _ _ _ => exact h h'
  | more h1 h2 h3 h4 _ ih => cases b with
    | code _ h' => exact h' _ h2 h3
    | disk _ _ _ h' => exact h' h4
    | more _ _ _ _ h' => exact ih h'
/-- the bytes of rows -/
def bytes (rows : List (Int × Sta)) : List Int := (rows.map fun r => recB r.1 r.2).flatten
theorem bytes_len (rows : List (Int × Sta)) : (bytes rows).length = 20 * rows.length := by
  induction rows with
  | nil => rfl
  | cons r rows ih =>
    show (recB r.1 r.2 ++ bytes rows).length = _
    rw [List.length_append, recB_len, ih, List.length_cons]; omega
theorem bytes_snoc (rows : List (Int × Sta)) (k : Int) (s : Sta) : bytes (rows ++ [(k, s)]) = bytes rows ++ recB k s := by simp [bytes]
theorem bytes_cons (k : Int) (s : Sta) (rows : List (Int × Sta)) : bytes ((k, s) :: rows) = recB k s ++ bytes rows := rfl
theorem bytes_app (r1 r2 : List (Int × Sta)) : bytes (r1 ++ r2) = bytes r1 ++ bytes r2 := by simp [bytes]
theorem rec_take (k : Int) (s : Sta) (t : List Int) : (recB k s ++ t).take 20 = recB k s := List.take_left' (recB_len k s)
theorem rec_drop (k : Int) (s : Sta) (t : List Int) : (recB k s ++ t).drop 20 = t := List.drop_left' (recB_len k s)
def RowsOk (n : Int) (rows : List (Int × Sta)) : Prop := ∀ r ∈ rows, 0 ≤ r.1 ∧ r.1 < n ∧ StOk r.2
theorem Recs.app {n : Int} {rows r2 : List (Int × Sta)} {t : List Int} (ok : RowsOk n rows) (h : Recs n t r2) : Recs n (bytes rows ++ t) (rows ++ r2) := by
  induction rows with
  | nil => exact h
  | cons r rows ih =>
    obtain ⟨k, s⟩ := r
    obtain ⟨h0, h1, h2⟩ := ok (k, s) List.mem_cons_self
    have ih := ih fun r hr => ok r (List.mem_cons_of_mem _ hr)
    rw [bytes_cons, List.append_assoc]
    have e1 := rec_take k s (bytes rows ++ t)
    have e2 := rec_drop k s (bytes rows ++ t)
    have := Recs.more (n := n) (bs := recB k s ++ (bytes rows ++ t)) (s := s) (rows := rows ++ r2) (by rw [e1]; exact recB_is k s) h2 (by rw [e1, recB_num h2]) (by rw [e1, recB_key]; exact h1) (by rw [e2]; exact ih)
    rw [e1, recB_key] at this
    exact this
/-- what is read behind good records -/
theorem Recs.strip {n : Int} {rows rs : List (Int × Sta)} {t : List Int} (ok : RowsOk n rows) (h : Recs n (bytes rows ++ t) rs) : ∃ r2, rs = rows ++ r2 ∧ Recs n t r2 := by
  induction rows generalizing rs with
  | nil => exact ⟨rs, rfl, h⟩
  | cons r rows ih =>
    obtain ⟨k, s⟩ := r
    obtain ⟨h0, h1, h2⟩ := ok (k, s) List.mem_cons_self
    rw [bytes_cons, List.append_assoc] at h
    have e1 := rec_take k s (bytes rows ++ t)
    have e2 := rec_drop k s (bytes rows ++ t)
    cases h with
    | done h => rw [e1] at h; exact absurd (recB_is k s) h
    | more g1 g2 g3 g4 g5 =>
      rw [e2] at g5
      obtain ⟨r2, e, h⟩ := ih (fun r hr => ok r (List.mem_cons_of_mem _ hr)) g5
      refine ⟨r2, ?_, h⟩
      rw [e1, recB_num h2] at g3
      rw [e1, recB_key, codeN_inj g2 h2 g3, e]
      rfl
theorem Recs.short {n : Int} {t : List Int} (h : t.length < 20) : Recs n t [] := .done fun z => by have := z.len; rw [List.length_take] at this; omega
theorem Recs.zero {n : Int} {m : Nat} : Recs n (List.replicate m 0) [] := .done fun z => by
  have h1 := z.len
  have h2 := z.mark
  rw [List.length_take, List.length_replicate] at h1
  have : m = m - 1 + 1 := by omega
  rw [this, List.replicate_succ] at h2
  simp at h2
theorem bytes_take (rows : List (Int × Sta)) : ∀ c : Nat, ∃ t : List Int, t.length < 20 ∧ (bytes rows).take c = bytes (rows.take (c / 20)) ++ t := by
  induction rows with
  | nil => intro c; exact ⟨[], by decide, by simp [bytes]⟩
  | cons r rows ih =>
    intro c
    obtain ⟨k, s⟩ := r
    rw [bytes_cons]
    by_cases h : c < 20
    · refine ⟨(recB k s ++ bytes rows).take c, by rw [List.length_take]; omega, ?_⟩
      rw [Nat.div_eq_of_lt h]; rfl
    · obtain ⟨t, h1, h2⟩ := ih (c - 20)
      refine ⟨t, h1, ?_⟩
      rw [List.take_append, recB_len, List.take_of_length_le (by rw [recB_len]; omega), h2]
      have e : c / 20 = (c - 20) / 20 + 1 := by omega
      rw [e, List.take_succ_cons, bytes_cons, List.append_assoc]
theorem bytes_take20 (rows : List (Int × Sta)) (m : Nat) : (bytes rows).take (m * 20) = bytes (rows.take m) := by
  obtain ⟨t, h1, h2⟩ := bytes_take rows (m * 20)
  rw [Nat.mul_div_cancel m (by decide)] at h2
  have h3 := congrArg List.length h2
  rw [List.length_append, List.length_take, bytes_len, bytes_len, List.length_take] at h3
  have : t = [] := List.eq_nil_of_length_eq_zero (by omega)
  rw [h2, this, List.append_nil]
/-! ## slices -/
theorem cut_from (ds : List D) (k : Nat) : cutD ds (some (k : Int)) none = ds.drop k := by
  unfold cutD
  rw [HT.sIx_none, HT.sIx_nat]
  by_cases h : k ≤ ds.length
  · rw [Nat.min_eq_left h, List.take_of_length_le (by rw [List.length_drop]; omega)]
  · rw [Nat.min_eq_right (by omega), List.drop_of_length_le (Nat.le_refl _), List.drop_of_length_le (by omega), List.take_nil]
theorem cut_mid (ds : List D) (i j : Nat) : cutD ds (some (i : Int)) (some (j : Int)) = (ds.drop i).take (j - i) := by
  unfold cutD
  rw [HT.sIx_nat, HT.sIx_nat]
  by_cases h : i ≤ ds.length
  · rw [Nat.min_eq_left h]
    by_cases h2 : j ≤ ds.length
    · rw [Nat.min_eq_left h2]
    · rw [Nat.min_eq_right (by omega), List.take_of_length_le (by rw [List.length_drop]; omega), List.take_of_length_le (by rw [List.length_drop]; omega)]
  · rw [Nat.min_eq_right (show ds.length ≤ i by omega), List.drop_of_length_le (Nat.le_refl _), List.drop_of_length_le (show ds.length ≤ i by omega), List.take_nil, List.take_nil]
theorem cut_last (ds : List D) (h : 1 ≤ ds.length) : cutD ds none (some (-1)) = ds.take (ds.length - 1) := by
  unfold cutD
  have : HT.sIx ds.length ds.length (some (-1)) = ds.length - 1 := by
    show (if (-1 : Int) < 0 then ((-1 : Int) + (ds.length : Int)).toNat else min (-1 : Int).toNat ds.length) = _
    rw [if_pos (by decide)]; omega
  rw [this, HT.sIx_none, List.drop_zero, Nat.sub_zero]
end Mu

namespace Mu
open PySem L2
local macro_rules | `(tactic| walk_at "sj1") => `(tactic| first
  | with_reducible refine i_seq ?_ | with_reducible refine i_bin ?_ | with_reducible refine i_var rfl ?_ | with_reducible refine i_c ?_ | with_reducible refine i_cons ?_ | with_reducible refine i_nil ?_
  | with_reducible refine i_call ?_ | with_reducible refine i_cb ?_ | with_reducible refine i_test ?_ | with_reducible refine i_bl ?_ | with_reducible refine i_asg ?_ | with_reducible refine i_gname ?_
  | with_reducible refine i_sif ?_ | with_reducible refine i_ret ?_ | with_reducible refine i_drop ?_ | with_reducible refine i_lm ?_ | with_reducible refine i_snil ?_ | with_reducible refine i_retN ?_
  | with_reducible refine i_tup ?_ | with_reducible refine j_lst ?_ | with_reducible refine i_and ?_ | with_reducible refine i_or ?_ | with_reducible refine i_not ?_ | with_reducible refine i_andV ?_ | with_reducible refine i_orV ?_
  | with_reducible refine i_notV ?_ | with_reducible refine i_if ?_ | with_reducible refine i_chain ?_ | with_reducible refine i_tru ?_ | with_reducible refine i_trub ?_ | with_reducible refine i_yes ?_ | with_reducible refine i_sl ?_
  | with_reducible refine i_ono ?_ | with_reducible refine i_oso ?_ | with_reducible refine i_ex_int ?_ | with_reducible refine i_break ?_ | with_reducible refine i_aug rfl ?_ | with_reducible refine i_gtup rfl ?_
  | with_reducible refine i_gscons ?_ | with_reducible refine i_gsnil ?_ | with_reducible refine i_gsub ?_ | with_reducible refine i_for ?_ | with_reducible refine j_lc ?_ | with_reducible refine i_iT ?_ | with_reducible refine i_iL ?_ | with_reducible refine i_iR1 ?_ | with_reducible refine i_iR2 ?_ | with_reducible refine i_iR3 ?_
  | with_reducible refine i_disp ?_ | with_reducible refine i_pnil ?_ | with_reducible refine i_pcons ?_
  | with_reducible refine i_dg ?_ | with_reducible refine i_din ?_ | with_reducible refine j_dnew ?_ | with_reducible refine i_dput ?_
  | with_reducible refine i_raise ?_ | with_reducible refine i_raiseK ?_ | with_reducible refine i_tryAs ?_ | with_reducible refine i_tryOnly ?_ | with_reducible refine i_err rfl ?_
  | with_reducible refine i_fld ?_ | with_reducible refine i_sfld ?_ | with_reducible refine i_meth ?_ | with_reducible refine i_new ?_ | with_reducible refine i_neg ?_
  | with_reducible refine i_add ?_ | with_reducible refine i_sub ?_ | with_reducible refine i_cmp ?_ | with_reducible refine i_int1 ?_ | with_reducible refine i_int2 ?_ | with_reducible refine i_isb ?_ | with_reducible refine i_eqi ?_ | with_reducible refine i_eqb ?_ | refine i_ixt rfl rfl ?_)
local macro_rules | `(tactic| walk_at "sj") => `(tactic| repeat (walk_at "sj1"))
local macro_rules | `(tactic| walk_at "tj") => `(tactic| repeat (first | walk_at "sj1" | refine i_len (Nat.le_of_ble_eq_true rfl) ?_))
/-! ## disks: the bytes of records -/
abbrev IL (bs : List Int) : AO := .lst (bs.map D.int)
theorem bsAt {bs : List Int} {i : Nat} (h : i < bs.length) : atI (bs.map D.int) (i : Int) = some (.int (bs.getD i 0)) := getD_at h
theorem atLast {bs : List Int} (h : 1 ≤ bs.length) : atI (bs.map D.int) (-1) = some (.int (bs.getD (bs.length - 1) 0)) := by
  have e : ixN (bs.map D.int).length (-1) = some (bs.length - 1) := by
    unfold ixN
    rw [List.length_map]
    rw [if_neg (by decide), if_pos (by omega)]
    congr 1; omega
  unfold atI
  rw [e]
  show (bs.map D.int)[bs.length - 1]? = _
  rw [List.getElem?_map, List.getElem?_eq_getElem (by omega), List.getD_eq_getElem?_getD, List.getElem?_eq_getElem (by omega)]; rfl
abbrev k_RECORD : D := .int 20
abbrev k_MARK : D := .int 181
def sp_check_byte : ASp := fun ds A Q _ => ∃ (a : Addr) (bs : List Int), ds = [.ref a] ∧ A a = some (IL bs) ∧ Q (.int (ck bs)) A
def T_check_byte : TSA := sSeq (sSet 1 (xC k_MARK)) (sSeq (sFor (iL (xVar 0)) (gName 2) (sSet 1 (xBin modA (xBin addA (xBin addA (xBin mulA (xVar 1) (xC (.int 31))) (xVar 2)) (xC (.int 7))) (xC (.int 251))))) (sRet (xVar 1)))
theorem l_check_byte : ∀ ds A Q E, sp_check_byte ds A Q E → ds.length = ["part"].length := by
  rintro ds A Q E ⟨a, bs, rfl, _⟩; rfl
theorem w_check_byte : ∀ ds A Q E, sp_check_byte ds A Q E → T_check_byte (fun _ c pl A' => E c pl A') (bodyE Q) (envA 3 ds) A := by
  rintro ds A Q E ⟨a, bs, rfl, ha, h⟩
  unfold T_check_byte
  walk_at "sj"
  refine i_iL_l ha ?_
  refine for_rule (f := D.int) (fun pre ρ A' => A' = A ∧ ∃ o, ρ = [some (.ref a), some (.int (ck pre)), o]) bs (fun _ _ _ ⟨e, _⟩ => by rw [e]; exact ha)
    (fun pre b post e ρ A1 hI NX nx => ?step) (fun ρ A1 hI => ?fin) ⟨rfl, none, rfl⟩
  case step =>
    obtain ⟨rfl, o, rfl⟩ := hI
    walk_at "sj"
    refine i_mul (.inl (.inr (by decide))) ?_
    walk_at "sj"
    refine i_mod (by decide) ?_
    walk_at "sj"
    refine nx _ _ ⟨rfl, some (.int b), ?_⟩
    rw [ck_snoc]; rfl
  obtain ⟨rfl, o, rfl⟩ := hI
  walk_at "sj"
  exact h
def sp_record : ASp := fun ds A Q _ => ∃ (k : Int) (s : Sta) (L : List SP), ds = [.int k, stD s] ∧ StOk s ∧ Hs L A ∧ ∀ q A', Hs (pt q (IL (recB k s)) :: L) A' → Q (.ref q) A'
def T_record : TSA := sSeq (sSet 2 (xCall sp_code (xsCons (xVar 1) (xsNil)))) (sSeq (sSet 3 (xLst (xsCons (xC k_MARK) (xsCons (xVar 0) (xsNil))))) (sSeq (sFor (iR1 (xsCons (xBin subA (xC k_RECORD) (xC (.int 3))) (xsNil))) (gName 4) (sSeq (sDrop (xLM appA (xVar 3) (xsCons (xBin modA (xVar 2) (xC (.int 256))) (xsNil)))) (sSet 2 (xBin divA (xVar 2) (xC (.int 256)))))) (sSeq (sDrop (xLM appA (xVar 3) (xsCons (xCall sp_check_byte (xsCons (xVar 3) (xsNil))) (xsNil)))) (sRet (xVar 3)))))
theorem l_record : ∀ ds A Q E, sp_record ds A Q E → ds.length = ["key", "state"].length := by
  rintro ds A Q E ⟨k, s, L, rfl, _⟩; rfl
theorem w_record : ∀ ds A Q E, sp_record ds A Q E → T_record (fun _ c pl A' => E c pl A') (bodyE Q) (envA 5 ds) A := by
  rintro ds A Q E ⟨k, s, L, rfl, ok, S, h⟩
  unfold T_record
  walk_at "sj"
  refine ⟨s, rfl, ok, ?_⟩
  walk_at "tj"
  refine jnew S fun q A1 S => ?_
  walk_at "sj"
  refine i_iR1K (by decide) (by decide) ?_
  rw [show rngD 0 1 (20 - 3 : Int).toNat = _ from rng_nat (n := 17)]
  refine for_rule (f := fun i : Nat => D.int (i : Int)) (fun pre ρ A' => ∃ o, ρ = [some (.int k), some (stD s), some (.int (dn pre.length (codeN s))), some (.ref q), o] ∧ Hs (pt q (IL (181 :: k :: digs (codeN s) pre.length)) :: L) A') (List.range 17) (fun _ _ _ _ => trivial)
    (fun pre i post e ρ A1 hI NX nx => ?step) (fun ρ A1 hI => ?fin) ⟨none, rfl, S⟩
  case step =>
    obtain ⟨o, rfl, S⟩ := hI
    have lp := pre_len e
    walk_at "sj"
    refine i_lsr (S.at_ 0) ?_
    walk_at "sj"
    refine i_mod (by decide) ?_
    walk_at "sj"
    refine japp S 0 rfl (by rw [List.length_map]; simp only [List.length_cons]; rw [digs_len, sizeLine_eq]; omega) fun A2 S => ?_
    walk_at "sj"
    refine i_div (by decide) (by decide) ?_
    walk_at "sj"
    refine nx _ _ ⟨_, by rw [List.length_append, List.length_singleton]; rfl, ?_⟩
    have e2 : (181 :: k :: digs (codeN s) pre.length).map D.int ++ [D.int (dn pre.length (codeN s) % 256)] = (181 :: k :: digs (codeN s) (pre ++ [i]).length).map D.int := by
      rw [List.length_append, List.length_singleton, show digs (codeN s) (pre.length + 1) = digs (codeN s) pre.length ++ [dn pre.length (codeN s) % 256] from (snoc_range (fun i => dn i (codeN s) % 256) pre.length).symm]
      simp
    have S : Hs (pt q (.lst ((181 :: k :: digs (codeN s) pre.length).map D.int ++ [D.int (dn pre.length (codeN s) % 256)])) :: L) A2 := S
    rw [e2] at S
    exact S
  obtain ⟨o, rfl, S⟩ := hI
  rw [List.length_range] at S ⊢
  walk_at "sj"
  refine i_lsr (S.at_ 0) ?_
  walk_at "sj"
  refine ⟨q, recH k s, rfl, S.at_ 0, ?_⟩
  walk_at "sj"
  refine japp S 0 rfl (by rw [List.length_map, show (181 :: k :: digs (codeN s) 17).length = 19 from recH_len k s, sizeLine_eq]; omega) fun A2 S => ?_
  walk_at "sj"
  refine h q A2 ?_
  have e2 : (181 :: k :: digs (codeN s) 17).map D.int ++ [D.int (ck (recH k s))] = (recB k s).map D.int := by
    unfold recB; rw [List.map_append]; rfl
  have S : Hs (pt q (.lst ((181 :: k :: digs (codeN s) 17).map D.int ++ [D.int (ck (recH k s))])) :: L) A2 := S
  rw [e2] at S
  exact S
def sp_is_record : ASp := fun ds A Q _ => ∃ (a : Addr) (bs : List Int) (L : List SP), ds = [.ref a] ∧ Hs (pt a (IL bs) :: L) A ∧ ∀ (b : Bool) A', (b = true ↔ IsRec bs) → Hs (pt a (IL bs) :: L) A' → Q (.bl b) A'
def T_is_record : TSA := sRet (xAndV (xBin (eqA id) (xCB lenA (xsCons (xVar 0) (xsNil))) (xC k_RECORD)) (xAndV (xBin (eqA id) (xBin ixB (xVar 0) (xC (.int 0))) (xC k_MARK)) (xBin (eqA id) (xBin ixB (xVar 0) (xNeg (xC (.int 1)))) (xCall sp_check_byte (xsCons (xSl (xVar 0) (oNone) (oSome (xNeg (xC (.int 1))))) (xsNil))))))
theorem l_is_record : ∀ ds A Q E, sp_is_record ds A Q E → ds.length = ["part"].length := by
  rintro ds A Q E ⟨a, bs, L, rfl, _⟩; rfl
theorem w_is_record : ∀ ds A Q E, sp_is_record ds A Q E → T_is_record (fun _ c pl A' => E c pl A') (bodyE Q) (envA 1 ds) A := by
  rintro ds A Q E ⟨a, bs, L, rfl, S, h⟩
  unfold T_is_record
  walk_at "sj"
  refine i_lenl (S.at_ 0) ?_
  rw [List.length_map]
  walk_at "sj"
  refine i_two (fun h1 => ?_) (fun h1 => ?_)
  · have len : bs.length = 20 := by have := beq_iff_eq.mp h1; omega
    walk_at "sj"
    refine i_ixl (S.at_ 0) (bsAt (i := 0) (by omega)) ?_
    walk_at "sj"
    refine i_two (fun h2 => ?_) (fun h2 => ?_)
    · have mk : bs.getD 0 0 = 181 := beq_iff_eq.mp h2
      walk_at "sj"
      refine i_ixl (S.at_ 0) (atLast (by omega)) ?_
      rw [len]
      walk_at "sj"
      refine jslL (S.at_ 0) ?_
      rw [cut_last _ (by rw [List.length_map]; omega), List.length_map, len, ← List.map_take]
      refine jnew S fun q A1 S => ?_
      walk_at "sj"
      refine ⟨q, bs.take 19, rfl, S.at_ 0, ?_⟩
      walk_at "sj"
      refine h _ _ ?_ (S.pick 2 [1])
      show ((bs.getD 19 0) == ck (bs.take 19)) = true ↔ _
      rw [beq_iff_eq]
      exact ⟨fun z => ⟨len, mk, z⟩, fun z => z.chk⟩
    · refine h _ _ ⟨fun z => (by cases z), fun z => ?_⟩ S
      have : ¬ bs.getD 0 0 = 181 := beq_eq_false_iff_ne.mp h2
      exact absurd z.mark this
  · refine h _ _ ⟨fun z => (by cases z), fun z => ?_⟩ S
    have := beq_eq_false_iff_ne.mp h1
    have := z.len
    omega
def sp_read_record : ASp := fun ds A Q EX => ∃ (a : Addr) (bs : List Int) (L : List SP), ds = [.ref a] ∧ Hs (pt a (IL bs) :: L) A ∧ IsRec bs ∧ (∀ b ∈ bs, 0 ≤ b) ∧
  ∀ A', Hs (pt a (IL bs) :: L) A' → (∀ s, StOk s → codeN s = num bs → Q (.tup [.int (bs.getD 1 0), stD s]) A') ∧ ((∀ s, StOk s → codeN s ≠ num bs) → EX "Invalid" (.str "code") A')
def T_read_record : TSA := sSeq (sSet 1 (xC (.int 0))) (sSeq (sFor (iR3 (xsCons (xBin subA (xC k_RECORD) (xC (.int 2))) (xsCons (xC (.int 1)) (xsCons (xNeg (xC (.int 1))) (xsNil))))) (gName 2) (sSet 1 (xBin addA (xBin mulA (xVar 1) (xC (.int 256))) (xBin ixB (xVar 0) (xVar 2))))) (sRet (xTup (xsCons (xBin ixB (xVar 0) (xC (.int 1))) (xsCons (xCall sp_decoded (xsCons (xVar 1) (xsNil))) (xsNil))))))
theorem l_read_record : ∀ ds A Q E, sp_read_record ds A Q E → ds.length = ["part"].length := by
  rintro ds A Q E ⟨a, bs, L, rfl, _⟩; rfl
theorem val_nn : ∀ {bs : List Int}, (∀ b ∈ bs, 0 ≤ b) → 0 ≤ val bs
  | [], _ => Int.le_refl _
  | b :: bs, h => by
    have h1 := h b List.mem_cons_self
    have h2 := val_nn fun c hc => h c (List.mem_cons_of_mem _ hc)
    show 0 ≤ b + 256 * val bs
    omega
theorem w_read_record : ∀ ds A Q E, sp_read_record ds A Q E → T_read_record (fun _ c pl A' => E c pl A') (bodyE Q) (envA 3 ds) A := by
  rintro ds A Q E ⟨a, bs, L, rfl, S, ir, nn, h⟩
  have len := ir.len
  unfold T_read_record
  walk_at "sj"
  refine i_iR3K (n := 17) ⟨by decide, by decide, by decide, by decide⟩ ?_
  refine for_rule (f := fun i : Nat => D.int ((20 - 2) + (i : Int) * -1)) (fun pre ρ A' => ∃ o, ρ = [some (.ref a), some (.int (val (((bs.drop 2).take 17).drop (17 - pre.length)))), o] ∧ Hs (pt a (IL bs) :: L) A') (List.range 17) (fun _ _ _ _ => trivial)
    (fun pre i post e ρ A1 hI NX nx => ?step) (fun ρ A1 hI => ?fin) ⟨none, ?_, S⟩
  case step =>
    obtain ⟨o, rfl, S⟩ := hI
    obtain ⟨rfl, lx⟩ := rng_pre e
    walk_at "sj"
    refine i_mul (.inl (.inr (by decide))) ?_
    walk_at "sj"
    rw [show ((20 : Int) - 2) + (pre.length : Int) * -1 = ((18 - pre.length : Nat) : Int) by omega]
    refine i_ixl (S.at_ 0) (bsAt (by omega)) ?_
    walk_at "sj"
    refine nx _ _ ⟨some (.int ((18 - pre.length : Nat) : Int)), ?_, S⟩
    have e3 : ((bs.drop 2).take 17).drop (17 - (pre.length + 1)) = bs.getD (18 - pre.length) 0 :: ((bs.drop 2).take 17).drop (17 - pre.length) := by
      have l : 17 - (pre.length + 1) < ((bs.drop 2).take 17).length := by rw [List.length_take, List.length_drop]; omega
      rw [List.drop_eq_getElem_cons l, show 17 - (pre.length + 1) + 1 = 17 - pre.length by omega]
      congr 1
      rw [List.getElem_take, List.getElem_drop, List.getD_eq_getElem?_getD, List.getElem?_eq_getElem (by omega)]
      show _ = bs[18 - pre.length]
      congr 1; omega
    rw [List.length_append, List.length_singleton, e3]
    have e4 : val (bs.getD (18 - pre.length) 0 :: ((bs.drop 2).take 17).drop (17 - pre.length)) = val (((bs.drop 2).take 17).drop (17 - pre.length)) * 256 + bs.getD (18 - pre.length) 0 := by
      show _ + 256 * _ = _
      omega
    rw [e4]; rfl
  case fin =>
    obtain ⟨o, rfl, S⟩ := hI
    rw [List.length_range, Nat.sub_self, List.drop_zero]
    walk_at "sj"
    refine i_ixl (S.at_ 0) (bsAt (i := 1) (by omega)) ?_
    walk_at "sj"
    refine ⟨num bs, rfl, val_nn fun b hb => nn b (List.mem_of_mem_drop (List.mem_of_mem_take hb)), fun A2 x2 => ⟨fun s ok es => ?_, fun no => ?_⟩⟩
    · walk_at "tj"
      exact (h A2 (S.ext x2)).1 s ok es
    · exact (h A2 (S.ext x2)).2 no
  · have : ((bs.drop 2).take 17).drop (17 - ([] : List Nat).length) = [] := List.drop_of_length_le (by rw [List.length_take]; simp; omega)
    rw [this]; rfl
def rowD (r : Int × Sta) : D := .tup [.int r.1, stD r.2]
def sp_recover : ASp := fun ds A Q EX => ∃ (a : Addr) (bs : List Int) (n : Int) (L : List SP), ds = [.ref a, .int n] ∧ Hs (pt a (IL bs) :: L) A ∧ (∀ b ∈ bs, 0 ≤ b) ∧ bs.length ≤ 10000000 ∧
  (∀ rows, Recs n bs rows → ∀ q A', Hs (pt q (.lst (rows.map rowD)) :: pt a (IL bs) :: L) A' → Q (.ref q) A') ∧ ∀ nm, Bad n bs nm → ∀ A', Hs (pt a (IL bs) :: L) A' → EX "Invalid" (.str nm) A'
def T_recover : TSA := sSeq (sSet 2 (xLst (xsNil))) (sSeq (sSet 3 (xC (.int 0))) (sSeq (sWhile (xTru (xCall sp_is_record (xsCons (xSl (xVar 0) (oSome (xVar 3)) (oSome (xBin addA (xVar 3) (xC k_RECORD)))) (xsNil)))) (sSeq (sAsg (xCall sp_read_record (xsCons (xSl (xVar 0) (oSome (xVar 3)) (oSome (xBin addA (xVar 3) (xC k_RECORD)))) (xsNil))) (gTup 2 (gsCons (gName 4) (gsCons (gName 5) (gsNil))))) (sSeq (sIf (xTest (xBin geA (xVar 4) (xVar 1))) (sRaise "Invalid" (xsCons (xC (.str "disk")) (xsNil))) (sNil)) (sSeq (sDrop (xLM appA (xVar 2) (xsCons (xTup (xsCons (xVar 4) (xsCons (xVar 5) (xsNil)))) (xsNil)))) (sAug 3 (xC k_RECORD)))))) (sRet (xVar 2))))
theorem l_recover : ∀ ds A Q E, sp_recover ds A Q E → ds.length = ["data", "size"].length := by
  rintro ds A Q E ⟨a, bs, n, L, rfl, _⟩; rfl
set_option maxHeartbeats 2000000 in
theorem w_recover : ∀ ds A Q E, sp_recover ds A Q E → T_recover (fun _ c pl A' => E c pl A') (bodyE Q) (envA 6 ds) A := by
  rintro ds A Q E ⟨a, bs, n, L, rfl, S, nn, hb, hq, he⟩
  unfold T_recover
  walk_at "tj"
  refine jnew S fun q A1 S => ?_
  walk_at "sj"
  refine wh_rule (fun m ρ A' => ∃ (acc : List (Int × Sta)) (p : Nat) (o4 o5 : Option D), ρ = [some (.ref a), some (.int n), some (.ref q), some (.int (p : Int)), o4, o5] ∧ Hs (pt q (.lst (acc.map rowD)) :: pt a (IL bs) :: L) A' ∧ 20 * acc.length = p ∧ p ≤ bs.length + 0 ∧ m = bs.length - p ∧
      (∀ rows, Recs n (bs.drop p) rows → Recs n bs (acc ++ rows)) ∧ ∀ nm, Bad n (bs.drop p) nm → Bad n bs nm)
    (fun m ρ A' hI NX nx => ?step) (m := bs.length) ⟨[], 0, none, none, rfl, S, rfl, by omega, by omega, fun rows h => h, fun nm h => h⟩
  obtain ⟨acc, p, o4, o5, rfl, S, lp, pb, em, h1, h2⟩ := hI
  have ecut : cutD (bs.map D.int) (some (p : Int)) (some ((p : Int) + 20)) = ((bs.drop p).take 20).map D.int := by
    rw [show (p : Int) + 20 = ((p + 20 : Nat) : Int) by omega, cut_mid, Nat.add_sub_cancel_left, List.map_take, List.map_drop]
  walk_at "sj"
  refine jslL (S.at_ 1) ?_
  rw [ecut]
  refine jnew S fun z A2 S => ?_
  walk_at "sj"
  refine ⟨z, (bs.drop p).take 20, _, rfl, S, fun b A3 hb3 S => ?_⟩
  walk_at "sj"
  refine i_two (fun hb1 => ?_) (fun hb1 => ?_)
  · have ir := hb3.mp hb1
    walk_at "sj"
    refine jslL (S.at_ 2) ?_
    rw [ecut]
    refine jnew S fun z2 A4 S => ?_
    walk_at "sj"
    refine ⟨z2, (bs.drop p).take 20, _, rfl, S, ir, fun b hb => nn b (List.mem_of_mem_drop (List.mem_of_mem_take hb)), fun A5 S => ⟨fun s ok es => ?_, fun no => ?_⟩⟩
    · have l20 := ir.len
      rw [List.length_take, List.length_drop] at l20
      refine i_gtup rfl ?_
      walk_at "sj"
      refine i_two (fun hk => ?_) (fun hk => ?_)
      · have hk' := of_decide_eq_true hk
        walk_at "sj"
        exact he "disk" (h2 _ (.disk ir ok es (by omega))) A5 (S.pick 4 [3])
      · have hk' := of_decide_eq_false hk
        walk_at "sj"
        refine i_lsr (S.at_ 2) ?_
        walk_at "tj"
        refine japp S 2 rfl (by rw [List.length_map, sizeLine_eq]; omega) fun A6 S => ?_
        walk_at "sj"
        have S2 : Hs (pt q (.lst ((acc ++ [(((bs.drop p).take 20).getD 1 0, s)]).map rowD)) :: pt a (IL bs) :: L) A6 := by
          rw [List.map_append]; exact S.pick 4 [2, 3]
        have hd : (bs.drop p).drop 20 = bs.drop (p + 20) := List.drop_drop
        refine nx (bs.length - (p + 20)) _ _ (by omega) ⟨acc ++ [(((bs.drop p).take 20).getD 1 0, s)], p + 20, _, _, rfl, S2, by rw [List.length_append, List.length_singleton]; omega, by omega, rfl, fun rows hr => ?_, fun nm hn => ?_⟩
        · have := h1 _ (.more ir ok es (by omega) (by rw [hd]; exact hr))
          rwa [List.append_assoc]
        · exact h2 _ (.more ir ok es (by omega) (by rw [hd]; exact hn))
    · exact he "code" (h2 _ (.code ir no)) A5 (S.pick 4 [3])
  · have ir : ¬ IsRec ((bs.drop p).take 20) := fun y => by rw [hb3.mpr y] at hb1; cases hb1
    walk_at "sj"
    have := h1 [] (.done ir)
    rw [List.append_nil] at this
    exact hq acc this q _ S.tail
end Mu

namespace Mu
open PySem L2
local macro_rules | `(tactic| walk_at "sj1") => `(tactic| first
  | with_reducible refine i_seq ?_ | with_reducible refine i_bin ?_ | with_reducible refine i_var rfl ?_ | with_reducible refine i_c ?_ | with_reducible refine i_cons ?_ | with_reducible refine i_nil ?_
  | with_reducible refine i_call ?_ | with_reducible refine i_cb ?_ | with_reducible refine i_test ?_ | with_reducible refine i_bl ?_ | with_reducible refine i_asg ?_ | with_reducible refine i_gname ?_
  | with_reducible refine i_sif ?_ | with_reducible refine i_ret ?_ | with_reducible refine i_drop ?_ | with_reducible refine i_lm ?_ | with_reducible refine i_snil ?_ | with_reducible refine i_retN ?_
  | with_reducible refine i_tup ?_ | with_reducible refine j_lst ?_ | with_reducible refine i_and ?_ | with_reducible refine i_or ?_ | with_reducible refine i_not ?_ | with_reducible refine i_andV ?_ | with_reducible refine i_orV ?_
  | with_reducible refine i_notV ?_ | with_reducible refine i_if ?_ | with_reducible refine i_chain ?_ | with_reducible refine i_tru ?_ | with_reducible refine i_trub ?_ | with_reducible refine i_yes ?_ | with_reducible refine i_sl ?_
  | with_reducible refine i_ono ?_ | with_reducible refine i_oso ?_ | with_reducible refine i_ex_int ?_ | with_reducible refine i_break ?_ | with_reducible refine i_aug rfl ?_ | with_reducible refine i_gtup rfl ?_
  | with_reducible refine i_gscons ?_ | with_reducible refine i_gsnil ?_ | with_reducible refine i_gsub ?_ | with_reducible refine i_for ?_ | with_reducible refine j_lc ?_ | with_reducible refine i_iT ?_ | with_reducible refine i_iL ?_ | with_reducible refine i_iR1 ?_ | with_reducible refine i_iR2 ?_ | with_reducible refine i_iR3 ?_
  | with_reducible refine i_disp ?_ | with_reducible refine i_pnil ?_ | with_reducible refine i_pcons ?_
  | with_reducible refine i_dg ?_ | with_reducible refine i_din ?_ | with_reducible refine j_dnew ?_ | with_reducible refine i_dput ?_
  | with_reducible refine i_raise ?_ | with_reducible refine i_raiseK ?_ | with_reducible refine i_tryAs ?_ | with_reducible refine i_tryOnly ?_ | with_reducible refine i_err rfl ?_
  | with_reducible refine i_fld ?_ | with_reducible refine i_sfld ?_ | with_reducible refine i_meth ?_ | with_reducible refine i_new ?_ | with_reducible refine i_neg ?_
  | with_reducible refine i_add ?_ | with_reducible refine i_sub ?_ | with_reducible refine i_cmp ?_ | with_reducible refine i_int1 ?_ | with_reducible refine i_int2 ?_ | with_reducible refine i_isb ?_ | with_reducible refine i_eqi ?_ | with_reducible refine i_eqb ?_ | refine i_ixt rfl rfl ?_)
local macro_rules | `(tactic| walk_at "sj") => `(tactic| repeat (walk_at "sj1"))
local macro_rules | `(tactic| walk_at "tj") => `(tactic| repeat (first | walk_at "sj1" | refine i_len (Nat.le_of_ble_eq_true rfl) ?_))
/-! ## the whole heap as a piece -/
def whole (A : AHp) : SP := ⟨fun h => Ext A h, fun x y => x.trans y⟩
theorem Hs.whole {A : AHp} : Hs [whole A] A := Hs.cons_iff.mpr ⟨A, Ext.refl A, Ext.refl A, [], .nil, .nil, fun _ h => (by cases h)⟩
/-! ## writes and removals, slot by slot -/
def drp (n : Int) : Option (Int × Int) → Option (Int × Int)
  | none => none
  | some p => if p.1 ≤ n then none else some p
theorem drp_some {n : Int} {v : Option (Int × Int)} {p : Int × Int} : drp n v = some p ↔ v = some p ∧ n < p.1 := by
  cases v with
  | none => simp [drp]
  | some q =>
    simp only [drp]
    split
    · rename_i h
      simp only [Option.some.injEq, false_iff, not_and, reduceCtorEq]
      rintro rfl; omega
    · rename_i h
      simp only [Option.some.injEq]
      constructor
      · rintro rfl; exact ⟨rfl, by omega⟩
      · exact fun z => z.1
def SnOk (n : Fin 4 → Int) : Prop := ∀ k, 0 ≤ n k ∧ n k ≤ 255
theorem seen_ok {s : Sta} (h : StOk s) : SnOk (seen s) := fun k => ⟨(h k).lo, (h k).hi⟩
def rmS (s : Sta) (n : Fin 4 → Int) : Sta := fun k => ⟨imax (s k).n (n k), drp (n k) (s k).v⟩
def wrS (s : Sta) (r : Fin 4) (c w : Int) (n : Fin 4 → Int) : Sta := fun k => if k = r then ⟨imax (imax (s k).n (n k)) c, some (c, w)⟩ else ⟨imax (s k).n (n k), drp (n k) (s k).v⟩
theorem rmS_ok {s : Sta} {n : Fin 4 → Int} (h : StOk s) (hn : SnOk n) : StOk (rmS s n) := fun k => by
  have := (h k).lo; have := (h k).hi; have := hn k; have m := imax_le (i := (s k).n) (j := n k)
  refine ⟨by show 0 ≤ imax _ _; omega, by show imax _ _ ≤ 255; omega, fun c w e => ?_⟩
  have := (h k).ver c w (drp_some.mp e).1
  show _ ∧ c ≤ imax _ _ ∧ _
  omega
theorem wrS_ok {s : Sta} {r : Fin 4} {c w : Int} {n : Fin 4 → Int} (h : StOk s) (hn : SnOk n) (c1 : 1 ≤ c) (c2 : c ≤ 255) (w1 : 0 ≤ w) (w2 : w ≤ 255) : StOk (wrS s r c w n) := fun k => by
  by_cases e : k = r
  · subst e
    have e2 : wrS s k c w n k = ⟨imax (imax (s k).n (n k)) c, some (c, w)⟩ := if_pos rfl
    rw [e2]
    have := (h k).lo; have := (h k).hi; have := hn k; have m := imax_le (i := (s k).n) (j := n k); have m2 := imax_le (i := imax (s k).n (n k)) (j := c)
    refine ⟨by show 0 ≤ imax _ _; omega, by show imax _ _ ≤ 255; omega, fun c' w' e => ?_⟩
    cases e
    show _ ∧ c ≤ imax _ _ ∧ _
    omega
  · have e2 : wrS s r c w n k = rmS s n k := if_neg e
    rw [e2]; exact rmS_ok h hn k
theorem finOf {k : Fin 4} {c w : Int} : (⟨(([(k.val : Int), c, w] : List Int).getD 0 0).toNat % 4, Nat.mod_lt _ (by decide)⟩ : Fin 4) = k := Fin.ext (by show ((k.val : Int)).toNat % 4 = k.val; have := k.isLt; omega)
/-- the versions that someone has not seen -/
theorem drop_vers (s : Sta) (n : Fin 4 → Int) : (vers s).filter (fun x => !decide (x.getD 1 0 ≤ n ⟨(x.getD 0 0).toNat % 4, Nat.mod_lt _ (by decide)⟩)) = versOf fun k => drp (n k) (s k).v := by
  refine filter_versOf fun k q => ?_
  rw [drp_some, finOf]
  have e2 : ([(k.val : Int), q.1, q.2] : List Int).getD 1 0 = q.1 := rfl
  rw [e2]
  simp
theorem drop_versR (s : Sta) (r : Fin 4) (n : Fin 4 → Int) : (vers s).filter (fun x => !decide (x.getD 0 0 = (r.val : Int)) && !decide (x.getD 1 0 ≤ n ⟨(x.getD 0 0).toNat % 4, Nat.mod_lt _ (by decide)⟩)) = versOf fun k => if k = r then none else drp (n k) (s k).v := by
  refine filter_versOf fun k q => ?_
  rw [finOf]
  have e1 : ([(k.val : Int), q.1, q.2] : List Int).getD 0 0 = (k.val : Int) := rfl
  have e2 : ([(k.val : Int), q.1, q.2] : List Int).getD 1 0 = q.1 := rfl
  rw [e1, e2]
  by_cases e : k = r
  · subst e; simp
  · have ne : ¬ (k.val : Int) = (r.val : Int) := fun z => e ((fin4 k r).mp z)
    rw [if_neg e, drp_some]
    simp [ne]
theorem perm_wr (g : Fin 4 → Option (Int × Int)) (r : Fin 4) (c w : Int) (h : g r = none) : (versOf g ++ [[(r.val : Int), c, w]]).Perm (versOf fun k => if k = r then some (c, w) else g k) := by
  refine (List.perm_ext_iff_of_nodup ?_ (versOf_nodup _)).mpr fun x => ?_
  · rw [List.nodup_append]
    refine ⟨versOf_nodup _, by simp, fun a ha b hb e => ?_⟩
    simp only [List.mem_singleton] at hb
    subst e
    rw [hb, versOf_at, h] at ha
    cases ha
  · simp only [List.mem_append, List.mem_singleton, mem_versOf]
    constructor
    · rintro (⟨k, p, hk, rfl⟩ | rfl)
      · refine ⟨k, p, ?_, rfl⟩
        rw [if_neg fun z => by rw [z, h] at hk; cases hk]; exact hk
      · exact ⟨r, (c, w), if_pos rfl, rfl⟩
    · rintro ⟨k, p, hk, rfl⟩
      by_cases e : k = r
      · subst e
        rw [if_pos rfl] at hk
        cases hk; exact .inr rfl
      · rw [if_neg e] at hk
        exact .inl ⟨k, p, hk, rfl⟩
theorem jsrt {d : Nat} {C : Int} {A : AHp} {Q : AK} {p : Addr} {nss : List (List Int)} (h : A p = some (.lst (nss.map tI))) (hl : nss.length < 64) (hb : ∀ ns ∈ nss, ns.length = d ∧ TS.Bd C ns)
    (k : ∀ nss' : List (List Int), nss'.Perm nss → nss'.Pairwise (fun n m => TS.code C n ≤ TS.code C m) → NewK A (.lst (nss'.map tI)) Q) : srtA d C [.ref p] A Q := ⟨_, nss, rfl, .inl ⟨p, rfl, h⟩, hl, hb, k⟩
/-! ### removed -/
def sp_removed : ASp := fun ds A Q _ => ∃ (s : Sta) (n : Fin 4 → Int), ds = [stD s, seenD n] ∧ ∀ A', Ext A A' → Q (stD (rmS s n)) A'
def T_removed : TSA := sSeq (sSet 2 (xLc 3 (iT (xBin ixB (xVar 0) (xC (.int 1)))) (xNot (xTru (xCall sp_covers (xsCons (xVar 1) (xsCons (xVar 3) (xsNil)))))) (xVar 3))) (sRet (xTup (xsCons (xCall sp_joined_seen (xsCons (xBin ixB (xVar 0) (xC (.int 0))) (xsCons (xVar 1) (xsNil)))) (xsCons (xCB tupA (xsCons (xVar 2) (xsNil))) (xsNil)))))
theorem l_removed : ∀ ds A Q E, sp_removed ds A Q E → ds.length = ["state", "seen"].length := by
  rintro ds A Q E ⟨s, n, rfl, _⟩; rfl
theorem w_removed : ∀ ds A Q E, sp_removed ds A Q E → T_removed (fun _ c pl A' => E c pl A') (bodyE Q) (envA 4 ds) A := by
  rintro ds A Q E ⟨s, n, rfl, h⟩
  have S := Hs.whole (A := A)
  unfold T_removed
  walk_at "sj"
  refine i_iTK rfl ?_
  refine lc_rule (f := tI) (r := tI) (p := fun x => !decide (x.getD 1 0 ≤ n ⟨(x.getD 0 0).toNat % 4, Nat.mod_lt _ (by decide)⟩)) (I := fun _ A' => A' = A) (vers s) (Nat.le_trans (versOf_len _) (by decide)) (fun _ _ _ => trivial) (fun pre x post e A1 e1 K1 K2 k1 k2 => ?step) (fun A1 e1 => ?fin) rfl
  case step =>
    subst e1
    have hx : x ∈ vers s := by rw [e]; simp
    obtain ⟨k, c, w, rfl, hv⟩ := mem_vers hx
    rw [finOf] at k1 k2
    have e2 : ([(k.val : Int), c, w] : List Int).getD 1 0 = c := rfl
    rw [e2] at k1 k2
    walk_at "sj"
    refine ⟨n, k, c, w, rfl, ?_⟩
    walk_at "sj"
    refine i_two (fun h2 => ?_) (fun h2 => ?_)
    · walk_at "sj"
      exact k1 h2 _ rfl
    · exact k2 h2 _ rfl
  subst e1
  rw [drop_vers]
  refine jnew S fun p A2 S => ?_
  walk_at "sj"
  refine ⟨seen s, n, rfl, fun A3 x3 => ?_⟩
  have S := S.ext x3
  walk_at "sj"
  refine i_tupl (S.at_ 0) ?_
  walk_at "tj"
  exact h A3 (S.at_ 1)
/-! ### written -/
def sp_written : ASp := fun ds A Q EX => ∃ (s : Sta) (r : Fin 4) (c w : Int) (n : Fin 4 → Int), ds = [stD s, .int (r.val : Int), .int c, .int w, seenD n] ∧ StOk s ∧ SnOk n ∧ 0 ≤ w ∧ w ≤ 255 ∧
  ((s r).n < c ∧ c ≤ 255 → ∀ A', Ext A A' → Q (stD (wrS s r c w n)) A') ∧ (¬ ((s r).n < c ∧ c ≤ 255) → EX "Full" (.str "count") A)
def T_written : TSA := sSeq (sIf (xNot (xTru (xCall sp_is_number (xsCons (xVar 2) (xsCons (xBin addA (xBin ixB (xBin ixB (xVar 0) (xC (.int 0))) (xVar 1)) (xC (.int 1))) (xsCons (xC k_MAX_COUNT) (xsNil))))))) (sRaise "Full" (xsCons (xC (.str "count")) (xsNil))) (sNil)) (sSeq (sSet 5 (xLc 6 (iT (xBin ixB (xVar 0) (xC (.int 1)))) (xAnd (xTest (xBin (eqA not) (xBin ixB (xVar 6) (xC (.int 0))) (xVar 1))) (xNot (xTru (xCall sp_covers (xsCons (xVar 4) (xsCons (xVar 6) (xsNil))))))) (xVar 6))) (sSeq (sDrop (xLM appA (xVar 5) (xsCons (xTup (xsCons (xVar 1) (xsCons (xVar 2) (xsCons (xVar 3) (xsNil))))) (xsNil)))) (sSeq (sSet 7 (xCB tupA (xsCons (xLc 8 (iR1 (xsCons (xC k_REPLICAS) (xsNil))) xYes (xIf (xTest (xBin (eqA id) (xVar 8) (xVar 1))) (xVar 2) (xC (.int 0)))) (xsNil)))) (sRet (xTup (xsCons (xCall sp_joined_seen (xsCons (xCall sp_joined_seen (xsCons (xBin ixB (xVar 0) (xC (.int 0))) (xsCons (xVar 4) (xsNil)))) (xsCons (xVar 7) (xsNil)))) (xsCons (xCB tupA (xsCons (xCB (srtA 3 256) (xsCons (xVar 5) (xsNil))) (xsNil))) (xsNil))))))))
theorem l_written : ∀ ds A Q E, sp_written ds A Q E → ds.length = ["state", "replica", "count", "value", "seen"].length := by
  rintro ds A Q E ⟨s, r, c, w, n, rfl, _⟩; rfl
theorem w_written : ∀ ds A Q E, sp_written ds A Q E → T_written (fun _ c pl A' => E c pl A') (bodyE Q) (envA 9 ds) A := by
  rintro ds A Q E ⟨s, r, c, w, n, rfl, ok, okn, w0, w1, h, he⟩
  have S := Hs.whole (A := A)
  unfold T_written
  walk_at "sj"
  refine i_ixt rfl (at4 (seen s) r) ?_
  walk_at "sj"
  refine ⟨.int c, seen s r + 1, 255, rfl, trivial, ?_⟩
  walk_at "sj"
  refine i_two (fun hb => ?_) (fun hb => ?_)
  · have no : ¬ ((s r).n < c ∧ c ≤ 255) := fun z => by
      have hb' : (!(decide (seen s r + 1 ≤ c) && decide (c ≤ 255))) = true := hb
      rw [decide_eq_true (show seen s r + 1 ≤ c from z.1), decide_eq_true z.2] at hb'
      cases hb'
    walk_at "sj"
    exact he no
  have hb' : (!(decide (seen s r + 1 ≤ c) && decide (c ≤ 255))) = false := hb
  have yes : (s r).n < c ∧ c ≤ 255 := by
    simp only [Bool.not_eq_false', Bool.and_eq_true, decide_eq_true_eq] at hb'
    exact ⟨hb'.1, hb'.2⟩
  have h := h yes
  have ok2 := wrS_ok (r := r) ok okn (by have := (ok r).lo; omega) yes.2 w0 w1
  walk_at "sj"
  refine i_iTK rfl ?_
  refine lc_rule (f := tI) (r := tI) (p := fun x => !decide (x.getD 0 0 = (r.val : Int)) && !decide (x.getD 1 0 ≤ n ⟨(x.getD 0 0).toNat % 4, Nat.mod_lt _ (by decide)⟩)) (I := fun _ A' => A' = A) (vers s) (Nat.le_trans (versOf_len _) (by decide)) (fun _ _ _ => trivial) (fun pre x post e A1 e1 K1 K2 k1 k2 => ?step) (fun A1 e1 => ?fin) rfl
  case step =>
    subst e1
    have hx : x ∈ vers s := by rw [e]; simp
    obtain ⟨k, c', w', rfl, hv⟩ := mem_vers hx
    rw [finOf] at k1 k2
    have e1 : ([(k.val : Int), c', w'] : List Int).getD 0 0 = (k.val : Int) := rfl
    have e2 : ([(k.val : Int), c', w'] : List Int).getD 1 0 = c' := rfl
    rw [e1, e2] at k1 k2
    walk_at "sj"
    refine i_two (fun h2 => ?_) (fun h2 => ?_)
    · have ne : ¬ (k.val : Int) = (r.val : Int) := by simpa using h2
      rw [decide_eq_false ne] at k1 k2
      walk_at "sj"
      refine ⟨n, k, c', w', rfl, ?_⟩
      walk_at "sj"
      refine i_two (fun h3 => ?_) (fun h3 => ?_)
      · walk_at "sj"
        exact k1 (by simpa using h3) _ rfl
      · exact k2 (by simpa using h3) _ rfl
    · have eq : (k.val : Int) = (r.val : Int) := by simpa using h2
      refine i_twoF rfl ?_
      exact k2 (by rw [decide_eq_true eq]; rfl) _ rfl
  subst e1
  rw [drop_versR]
  refine jnew S fun p A2 S => ?_
  walk_at "sj"
  refine i_lsr (S.at_ 0) ?_
  walk_at "tj"
  have lv := versOf_len fun k => if k = r then none else drp (n k) (s k).v
  refine japp S 0 rfl (by rw [List.length_map, sizeLine_eq]; omega) fun A3 S => ?_
  walk_at "sj"
  refine i_iR1K (by decide) (by decide) ?_
  rw [rng4]
  refine lc_map (fun k : Fin 4 => D.int (k.val : Int)) (fun k => D.int (if k = r then c else 0)) (fun _ A' => A' = A3) f4 (by decide) (fun _ _ _ => trivial) (fun pre k post e A1 eA K1 k1 => ?own) (fun A1 eA => ?fin2) rfl
  case own =>
    subst eA
    walk_at "sj"
    refine i_two (fun h2 => ?_) (fun h2 => ?_)
    · have eq : k = r := (fin4 k r).mp (by simpa using h2)
      rw [if_pos eq] at k1
      walk_at "sj"
      exact k1 _ rfl
    · have ne : ¬ k = r := fun z => by rw [z] at h2; simp at h2
      rw [if_neg ne] at k1
      walk_at "sj"
      exact k1 _ rfl
  subst eA
  refine jnew S fun q A4 S => ?_
  walk_at "sj"
  refine i_tupl (S.at_ 0) ?_
  walk_at "sj"
  refine ⟨seen s, n, rfl, fun A5 x5 => ?_⟩
  have S := S.ext x5
  walk_at "sj"
  refine ⟨_, fun k => if k = r then c else 0, rfl, fun A6 x6 => ?_⟩
  have S := S.ext x6
  walk_at "sj"
  have el : (versOf fun k => if k = r then none else drp (n k) (s k).v).map tI ++ [D.tup [.int (r.val : Int), .int c, .int w]] = ((versOf fun k => if k = r then none else drp (n k) (s k).v) ++ [[(r.val : Int), c, w]]).map tI := by
    rw [List.map_append]; rfl
  have S : Hs [pt q _, pt p (.lst ((versOf fun k => if k = r then none else drp (n k) (s k).v).map tI ++ [D.tup [.int (r.val : Int), .int c, .int w]])), _] A6 := S
  rw [el] at S
  have pm := perm_wr (fun k => if k = r then none else drp (n k) (s k).v) r c w (if_pos rfl)
  have ev : (versOf fun k => if k = r then some (c, w) else if k = r then none else drp (n k) (s k).v) = vers (wrS s r c w n) := by
    unfold vers
    congr 1
    funext k
    unfold wrS
    by_cases e : k = r
    · rw [if_pos e, if_pos e]
    · rw [if_neg e, if_neg e, if_neg e]
  rw [ev] at pm
  have bd := vers_bd ok2
  refine jsrt (S.at_ 1) ?_ (fun ns hns => bd ns (pm.subset hns)) fun nss' p2 pw => ?_
  · rw [pm.length_eq]; exact Nat.lt_of_le_of_lt (versOf_len _) (by decide)
  have e5 : nss' = vers (wrS s r c w n) := sorted_vers pm p2 pw bd
  subst e5
  refine jnew S fun z A7 S => ?_
  walk_at "sj"
  refine i_tupl (S.at_ 0) ?_
  walk_at "tj"
  have es : (fun k => imax (imax (seen s k) (n k)) (if k = r then c else 0)) = seen (wrS s r c w n) := by
    funext k
    unfold seen wrS
    by_cases e : k = r
    · rw [if_pos e, if_pos e]
    · rw [if_neg e, if_neg e]
      have := (ok k).lo; have m := imax_le (i := (s k).n) (j := n k)
      have m2 := imax_le (i := imax (s k).n (n k)) (j := 0)
      show imax (imax (s k).n (n k)) 0 = imax (s k).n (n k)
      omega
  rw [es]
  exact h A7 (S.at_ 3)
end Mu

namespace Mu
open PySem L2
local macro_rules | `(tactic| walk_at "sj1") => `(tactic| first
  | with_reducible refine i_seq ?_ | with_reducible refine i_bin ?_ | with_reducible refine i_var rfl ?_ | with_reducible refine i_c ?_ | with_reducible refine i_cons ?_ | with_reducible refine i_nil ?_
  | with_reducible refine i_call ?_ | with_reducible refine i_cb ?_ | with_reducible refine i_test ?_ | with_reducible refine i_bl ?_ | with_reducible refine i_asg ?_ | with_reducible refine i_gname ?_
  | with_reducible refine i_sif ?_ | with_reducible refine i_ret ?_ | with_reducible refine i_drop ?_ | with_reducible refine i_lm ?_ | with_reducible refine i_snil ?_ | with_reducible refine i_retN ?_
  | with_reducible refine i_tup ?_ | with_reducible refine j_lst ?_ | with_reducible refine i_and ?_ | with_reducible refine i_or ?_ | with_reducible refine i_not ?_ | with_reducible refine i_andV ?_ | with_reducible refine i_orV ?_
  | with_reducible refine i_notV ?_ | with_reducible refine i_if ?_ | with_reducible refine i_chain ?_ | with_reducible refine i_tru ?_ | with_reducible refine i_trub ?_ | with_reducible refine i_yes ?_ | with_reducible refine i_sl ?_
  | with_reducible refine i_ono ?_ | with_reducible refine i_oso ?_ | with_reducible refine i_ex_int ?_ | with_reducible refine i_break ?_ | with_reducible refine i_aug rfl ?_ | with_reducible refine i_gtup rfl ?_
  | with_reducible refine i_gscons ?_ | with_reducible refine i_gsnil ?_ | with_reducible refine i_gsub ?_ | with_reducible refine i_for ?_ | with_reducible refine j_lc ?_ | with_reducible refine i_iT ?_ | with_reducible refine i_iL ?_ | with_reducible refine i_iR1 ?_ | with_reducible refine i_iR2 ?_ | with_reducible refine i_iR3 ?_
  | with_reducible refine i_disp ?_ | with_reducible refine i_pnil ?_ | with_reducible refine i_pcons ?_
  | with_reducible refine i_dg ?_ | with_reducible refine i_din ?_ | with_reducible refine j_dnew ?_ | with_reducible refine i_dput ?_
  | with_reducible refine i_raise ?_ | with_reducible refine i_raiseK ?_ | with_reducible refine i_tryAs ?_ | with_reducible refine i_tryOnly ?_ | with_reducible refine i_err rfl ?_
  | with_reducible refine i_fld ?_ | with_reducible refine i_sfld ?_ | with_reducible refine i_meth ?_ | with_reducible refine i_new ?_ | with_reducible refine i_neg ?_
  | with_reducible refine i_add ?_ | with_reducible refine i_sub ?_ | with_reducible refine i_cmp ?_ | with_reducible refine i_int1 ?_ | with_reducible refine i_int2 ?_ | with_reducible refine i_isb ?_ | with_reducible refine i_eqi ?_ | with_reducible refine i_eqb ?_ | refine i_ixt rfl rfl ?_)
local macro_rules | `(tactic| walk_at "sj") => `(tactic| repeat (walk_at "sj1"))
local macro_rules | `(tactic| walk_at "tj") => `(tactic| repeat (first | walk_at "sj1" | refine i_len (Nat.le_of_ble_eq_true rfl) ?_))
/-! ## disks -/
def DiskB (dk : Addr) (bs : List Int) (safe : Nat) : SP := ex_ fun da => Hp_ [pt dk (.ins "Disk" [("data", .ref da), ("safe", .int (safe : Int))]), pt da (IL bs)]
section
variable {L : List SP} {A : AHp} {Q : AK}
theorem Hs.disk {dk : Addr} {bs : List Int} {safe : Nat} (S : Hs (DiskB dk bs safe :: L) A) : ∃ da, Hs (pt dk (.ins "Disk" [("data", .ref da), ("safe", .int (safe : Int))]) :: pt da (IL bs) :: L) A := by
  obtain ⟨da, S⟩ := Hs.ex_iff.mp S
  exact ⟨da, S.open_⟩
theorem Hs.mkDisk {dk da : Addr} {bs : List Int} {safe : Nat} (S : Hs (pt dk (.ins "Disk" [("data", .ref da), ("safe", .int (safe : Int))]) :: pt da (IL bs) :: L) A) : Hs (DiskB dk bs safe :: L) A :=
  Hs.ex_iff.mpr ⟨da, Hs.close (R := [_, _]) S⟩
theorem jext (S : Hs L A) (n : Nat) {p b : Addr} {xs zs : List D} (e : nth L n = pt p (.lst xs)) (hb : A b = some (.lst zs)) (hz : xs.length + zs.length ≤ sizeLine) (k : ∀ A', Hs (setN L n (pt p (.lst (xs ++ zs)))) A' → Q .non A') : extA (.ref p) [.ref b] A Q :=
  ⟨p, b, xs, zs, rfl, rfl, (by have := S.at_ n; rw [e] at this; exact this), hb, hz, k _ (S.setAt n _ e)⟩
theorem DiskB.ins {dk : Addr} {bs : List Int} {safe : Nat} (s : (DiskB dk bs safe).P A) : ∃ da, A dk = some (.ins "Disk" [("data", .ref da), ("safe", .int (safe : Int))]) ∧ A da = some (IL bs) := by
  obtain ⟨da, h⟩ := s
  have h' : Hs _ A := h
  exact ⟨da, h'.at_ 0, h'.at_ 1⟩
end
def sp_Disk___init__ : ASp := fun ds A Q _ => ∃ (p : Addr) (L : List SP), ds = [.ref p] ∧ Hs (pt p (.ins "Disk" []) :: L) A ∧ ∀ A', Hs (DiskB p [] 0 :: L) A' → Q .non A'
def T_Disk___init__ : TSA := sSeq (sFld "Disk" (xVar 0) (xLst (xsNil)) "data") (sFld "Disk" (xVar 0) (xC (.int 0)) "safe")
theorem l_Disk___init__ : ∀ ds A Q E, sp_Disk___init__ ds A Q E → ds.length = ["self"].length := by
  rintro ds A Q E ⟨p, L, rfl, _⟩; rfl
theorem w_Disk___init__ : ∀ ds A Q E, sp_Disk___init__ ds A Q E → T_Disk___init__ (fun _ c pl A' => E c pl A') (bodyE Q) (envA 1 ds) A := by
  rintro ds A Q E ⟨p, L, rfl, S, h⟩
  unfold T_Disk___init__
  walk_at "tj"
  refine jnew S fun a A1 S => ?_
  walk_at "sj"
  refine jsfld S 1 rfl (Nat.le_of_ble_eq_true rfl) fun A2 S => ?_
  walk_at "sj"
  refine jsfld S 1 rfl (Nat.le_of_ble_eq_true rfl) fun A3 S => ?_
  exact h A3 (Hs.mkDisk (da := a) (bs := []) (safe := 0) (S.pick 2 [1, 0]))
def sp_Disk_append : ASp := fun ds A Q _ => ∃ (p : Addr) (bs : List Int) (sf : Nat) (L : List SP) (k : Int) (s : Sta), ds = [.ref p, .int k, stD s] ∧ StOk s ∧ bs.length ≤ 10000000 ∧ Hs (DiskB p bs sf :: L) A ∧ ∀ A', Hs (DiskB p (bs ++ recB k s) sf :: L) A' → Q .non A'
def T_Disk_append : TSA := sDrop (xLM extA (xFld "Disk" (xVar 0) "data") (xsCons (xCall sp_record (xsCons (xVar 1) (xsCons (xVar 2) (xsNil)))) (xsNil)))
theorem l_Disk_append : ∀ ds A Q E, sp_Disk_append ds A Q E → ds.length = ["self", "key", "state"].length := by
  rintro ds A Q E ⟨p, bs, sf, L, k, s, rfl, _⟩; rfl
theorem w_Disk_append : ∀ ds A Q E, sp_Disk_append ds A Q E → T_Disk_append (fun _ c pl A' => E c pl A') (bodyE Q) (envA 3 ds) A := by
  rintro ds A Q E ⟨p, bs, sf, L, k, s, rfl, ok, hz, S, h⟩
  obtain ⟨da, S⟩ := S.disk
  unfold T_Disk_append
  walk_at "sj"
  refine i_fldK (S.at_ 0) rfl ?_
  refine i_lsr (S.at_ 1) ?_
  walk_at "sj"
  refine ⟨k, s, _, rfl, ok, S, fun q A1 S => ?_⟩
  walk_at "sj"
  refine jext S 2 rfl (S.at_ 0) (by simp only [List.length_map]; rw [recB_len, sizeLine_eq]; omega) fun A2 S => ?_
  walk_at "sj"
  have S : Hs (pt q _ :: pt p _ :: pt da (.lst (bs.map D.int ++ (recB k s).map D.int)) :: L) A2 := S
  rw [← List.map_append] at S
  exact h A2 (Hs.mkDisk (S.pick 3 [1, 2]))
def sp_Disk_sync : ASp := fun ds A Q _ => ∃ (p : Addr) (bs : List Int) (sf : Nat) (L : List SP), ds = [.ref p] ∧ Hs (DiskB p bs sf :: L) A ∧ ∀ A', Hs (DiskB p bs bs.length :: L) A' → Q .non A'
def T_Disk_sync : TSA := sFld "Disk" (xVar 0) (xCB lenA (xsCons (xFld "Disk" (xVar 0) "data") (xsNil))) "safe"
theorem l_Disk_sync : ∀ ds A Q E, sp_Disk_sync ds A Q E → ds.length = ["self"].length := by
  rintro ds A Q E ⟨p, bs, sf, L, rfl, _⟩; rfl
theorem w_Disk_sync : ∀ ds A Q E, sp_Disk_sync ds A Q E → T_Disk_sync (fun _ c pl A' => E c pl A') (bodyE Q) (envA 1 ds) A := by
  rintro ds A Q E ⟨p, bs, sf, L, rfl, S, h⟩
  obtain ⟨da, S⟩ := S.disk
  unfold T_Disk_sync
  walk_at "sj"
  refine i_fldK (S.at_ 0) rfl ?_
  walk_at "sj"
  refine i_lenl (S.at_ 1) ?_
  rw [List.length_map]
  walk_at "sj"
  refine jsfld S 0 rfl (Nat.le_of_ble_eq_true rfl) fun A1 S => ?_
  exact h A1 (Hs.mkDisk S)
def sp_Disk_cut : ASp := fun ds A Q _ => ∃ (p : Addr) (bs : List Int) (sf : Nat) (L : List SP) (x : Nat), ds = [.ref p, .int (x : Int)] ∧ Hs (DiskB p bs sf :: L) A ∧ ∀ A', Hs (DiskB p (bs.take (min bs.length (sf + x))) sf :: L) A' → Q .non A'
def T_Disk_cut : TSA := sSeq (sSet 2 (xCB (int2A minI) (xsCons (xCB lenA (xsCons (xFld "Disk" (xVar 0) "data") (xsNil))) (xsCons (xBin addA (xFld "Disk" (xVar 0) "safe") (xVar 1)) (xsNil))))) (sFld "Disk" (xVar 0) (xSl (xFld "Disk" (xVar 0) "data") (oNone) (oSome (xVar 2))) "data")
theorem l_Disk_cut : ∀ ds A Q E, sp_Disk_cut ds A Q E → ds.length = ["self", "left"].length := by
  rintro ds A Q E ⟨p, bs, sf, L, x, rfl, _⟩; rfl
theorem minI_nat (a b : Nat) : minI (a : Int) (b : Int) = ((min a b : Nat) : Int) := by unfold minI; split <;> omega
theorem w_Disk_cut : ∀ ds A Q E, sp_Disk_cut ds A Q E → T_Disk_cut (fun _ c pl A' => E c pl A') (bodyE Q) (envA 3 ds) A := by
  rintro ds A Q E ⟨p, bs, sf, L, x, rfl, S, h⟩
  obtain ⟨da, S⟩ := S.disk
  unfold T_Disk_cut
  walk_at "sj"
  refine i_fldK (S.at_ 0) rfl ?_
  walk_at "sj"
  refine i_lenl (S.at_ 1) ?_
  rw [List.length_map]
  walk_at "sj"
  refine i_fldK (S.at_ 0) rfl ?_
  walk_at "sj"
  rw [show (sf : Int) + (x : Int) = ((sf + x : Nat) : Int) by omega, minI_nat]
  refine i_fldK (S.at_ 0) rfl ?_
  walk_at "sj"
  refine jslL (S.at_ 1) ?_
  rw [cut_take, ← List.map_take]
  refine jnew S fun q A1 S => ?_
  walk_at "sj"
  refine jsfld S 1 rfl (Nat.le_of_ble_eq_true rfl) fun A2 S => ?_
  exact h A2 (Hs.mkDisk (S.pick 3 [1, 0]))
def sp_Disk_trim : ASp := fun ds A Q _ => ∃ (p : Addr) (bs : List Int) (sf : Nat) (L : List SP) (m : Nat), ds = [.ref p, .int (m : Int)] ∧ Hs (DiskB p bs sf :: L) A ∧ ∀ A', Hs (DiskB p (bs.take (m * 20)) (bs.take (m * 20)).length :: L) A' → Q .non A'
def T_Disk_trim : TSA := sSeq (sFld "Disk" (xVar 0) (xSl (xFld "Disk" (xVar 0) "data") (oNone) (oSome (xBin mulA (xVar 1) (xC k_RECORD)))) "data") (sFld "Disk" (xVar 0) (xCB lenA (xsCons (xFld "Disk" (xVar 0) "data") (xsNil))) "safe")
theorem l_Disk_trim : ∀ ds A Q E, sp_Disk_trim ds A Q E → ds.length = ["self", "many"].length := by
  rintro ds A Q E ⟨p, bs, sf, L, x, rfl, _⟩; rfl
theorem w_Disk_trim : ∀ ds A Q E, sp_Disk_trim ds A Q E → T_Disk_trim (fun _ c pl A' => E c pl A') (bodyE Q) (envA 2 ds) A := by
  rintro ds A Q E ⟨p, bs, sf, L, m, rfl, S, h⟩
  obtain ⟨da, S⟩ := S.disk
  unfold T_Disk_trim
  walk_at "sj"
  refine i_fldK (S.at_ 0) rfl ?_
  walk_at "sj"
  refine i_mul (.inl (.inr (by decide))) ?_
  rw [show (m : Int) * 20 = ((m * 20 : Nat) : Int) by omega]
  walk_at "sj"
  refine jslL (S.at_ 1) ?_
  rw [cut_take, ← List.map_take]
  refine jnew S fun q A1 S => ?_
  walk_at "sj"
  refine jsfld S 1 rfl (Nat.le_of_ble_eq_true rfl) fun A2 S => ?_
  walk_at "sj"
  refine i_fldK (S.at_ 1) rfl ?_
  walk_at "sj"
  refine i_lenl (S.at_ 0) ?_
  rw [List.length_map]
  walk_at "sj"
  refine jsfld S 1 rfl (Nat.le_of_ble_eq_true rfl) fun A3 S => ?_
  exact h A3 (Hs.mkDisk (S.pick 3 [1, 0]))
/-- rows with keys -/
abbrev KRow := Nat × Sta
def rI (r : KRow) : Int × Sta := ((r.1 : Int), r.2)
def kD_ (r : KRow) : D := .tup [.int (r.1 : Int), stD r.2]
def kb (rows : List KRow) : List Int := bytes (rows.map rI)
theorem kb_len (rows : List KRow) : (kb rows).length = 20 * rows.length := by unfold kb; rw [bytes_len, List.length_map]
theorem kb_snoc (rows : List KRow) (k : Nat) (s : Sta) : kb (rows ++ [(k, s)]) = kb rows ++ recB (k : Int) s := by unfold kb; rw [List.map_append]; exact bytes_snoc _ _ _
def sp_Disk_replace : ASp := fun ds A Q _ => ∃ (p a : Addr) (bs : List Int) (sf : Nat) (rows : List KRow) (L : List SP) (x : Nat), ds = [.ref p, .ref a, .int (x : Int)] ∧ (∀ r ∈ rows, StOk r.2) ∧ rows.length ≤ 100000 ∧ Hs (DiskB p bs sf :: pt a (.lst (rows.map kD_)) :: L) A ∧
  (x < 20 * rows.length → ∀ A', Hs (DiskB p bs sf :: pt a (.lst (rows.map kD_)) :: L) A' → Q (.bl false) A') ∧ (¬ x < 20 * rows.length → ∀ A', Hs (DiskB p (kb rows) (20 * rows.length) :: pt a (.lst (rows.map kD_)) :: L) A' → Q (.bl true) A')
def T_Disk_replace : TSA := sSeq (sSet 3 (xLst (xsNil))) (sSeq (sFor (iL (xVar 1)) (gTup 2 (gsCons (gName 4) (gsCons (gName 5) (gsNil)))) (sDrop (xLM extA (xVar 3) (xsCons (xCall sp_record (xsCons (xVar 4) (xsCons (xVar 5) (xsNil)))) (xsNil))))) (sSeq (sIf (xTest (xBin ltA (xVar 2) (xCB lenA (xsCons (xVar 3) (xsNil))))) (sRet (xC (.bl false))) (sNil)) (sSeq (sFld "Disk" (xVar 0) (xVar 3) "data") (sSeq (sFld "Disk" (xVar 0) (xCB lenA (xsCons (xVar 3) (xsNil))) "safe") (sRet (xC (.bl true)))))))
theorem l_Disk_replace : ∀ ds A Q E, sp_Disk_replace ds A Q E → ds.length = ["self", "rows", "left"].length := by
  rintro ds A Q E ⟨p, a, bs, sf, rows, L, x, rfl, _⟩; rfl
theorem w_Disk_replace : ∀ ds A Q E, sp_Disk_replace ds A Q E → T_Disk_replace (fun _ c pl A' => E c pl A') (bodyE Q) (envA 6 ds) A := by
  rintro ds A Q E ⟨p, a, bs, sf, rows, L, x, rfl, ok, hz, S, h1, h2⟩
  unfold T_Disk_replace
  walk_at "tj"
  refine jnew S fun f A1 S => ?_
  walk_at "sj"
  refine i_iL_l (S.at_ 2) ?_
  refine for_rule (f := kD_) (fun pre ρ A' => ∃ o4 o5, ρ = [some (.ref p), some (.ref a), some (.int (x : Int)), some (.ref f), o4, o5] ∧ Hs (pt f (IL (kb pre)) :: DiskB p bs sf :: pt a (.lst (rows.map kD_)) :: L) A') rows (fun _ _ _ ⟨_, _, _, S⟩ => S.at_ 2)
    (fun pre r post e ρ A1 hI NX nx => ?step) (fun ρ A1 hI => ?fin) ⟨none, none, rfl, S⟩
  case step =>
    obtain ⟨o4, o5, rfl, S⟩ := hI
    obtain ⟨k, s⟩ := r
    have oks := ok (k, s) (by rw [e]; simp)
    have lp : pre.length ≤ rows.length := by rw [e, List.length_append]; omega
    refine i_gtup rfl ?_
    walk_at "sj"
    refine i_lsr (S.at_ 0) ?_
    walk_at "sj"
    refine ⟨(k : Int), s, _, rfl, oks, S, fun q A2 S => ?_⟩
    walk_at "sj"
    refine jext S 1 rfl (S.at_ 0) (by simp only [List.length_map]; rw [recB_len, kb_len, sizeLine_eq]; omega) fun A3 S => ?_
    have S : Hs (pt q _ :: pt f (.lst ((kb pre).map D.int ++ (recB (k : Int) s).map D.int)) :: DiskB p bs sf :: pt a (.lst (rows.map kD_)) :: L) A3 := S
    rw [← List.map_append, ← kb_snoc] at S
    exact nx _ _ ⟨_, _, rfl, S.tail⟩
  obtain ⟨o4, o5, rfl, S⟩ := hI
  walk_at "sj"
  refine i_lenl (S.at_ 0) ?_
  rw [List.length_map, kb_len]
  walk_at "sj"
  refine i_two (fun hb => ?_) (fun hb => ?_)
  · have lt : x < 20 * rows.length := Int.ofNat_lt.mp (of_decide_eq_true hb)
    walk_at "sj"
    exact h1 lt _ S.tail
  · have nl : ¬ x < 20 * rows.length := fun z => of_decide_eq_false hb (Int.ofNat_lt.mpr z)
    walk_at "sj"
    obtain ⟨da, S⟩ := (S.f 1).disk
    have S : Hs (pt p (.ins "Disk" [("data", .ref da), ("safe", .int (sf : Int))]) :: pt da (IL bs) :: pt f (IL (kb rows)) :: pt a (.lst (rows.map kD_)) :: L) A1 := S
    refine jsfld S 0 rfl (Nat.le_of_ble_eq_true rfl) fun A2 S => ?_
    walk_at "sj"
    refine i_lenl (S.at_ 2) ?_
    rw [List.length_map, kb_len]
    walk_at "sj"
    refine jsfld S 0 rfl (Nat.le_of_ble_eq_true rfl) fun A3 S => ?_
    walk_at "sj"
    exact h2 nl A3 (Hs.mkDisk (da := f) (S.pick 4 [0, 2, 3]))
end Mu

namespace Mu
open PySem L2
local macro_rules | `(tactic| walk_at "sj1") => `(tactic| first
  | with_reducible refine i_seq ?_ | with_reducible refine i_bin ?_ | with_reducible refine i_var rfl ?_ | with_reducible refine i_c ?_ | with_reducible refine i_cons ?_ | with_reducible refine i_nil ?_
  | with_reducible refine i_call ?_ | with_reducible refine i_cb ?_ | with_reducible refine i_test ?_ | with_reducible refine i_bl ?_ | with_reducible refine i_asg ?_ | with_reducible refine i_gname ?_
  | with_reducible refine i_sif ?_ | with_reducible refine i_ret ?_ | with_reducible refine i_drop ?_ | with_reducible refine i_lm ?_ | with_reducible refine i_snil ?_ | with_reducible refine i_retN ?_
  | with_reducible refine i_tup ?_ | with_reducible refine j_lst ?_ | with_reducible refine i_and ?_ | with_reducible refine i_or ?_ | with_reducible refine i_not ?_ | with_reducible refine i_andV ?_ | with_reducible refine i_orV ?_
  | with_reducible refine i_notV ?_ | with_reducible refine i_if ?_ | with_reducible refine i_chain ?_ | with_reducible refine i_tru ?_ | with_reducible refine i_trub ?_ | with_reducible refine i_yes ?_ | with_reducible refine i_sl ?_
  | with_reducible refine i_ono ?_ | with_reducible refine i_oso ?_ | with_reducible refine i_ex_int ?_ | with_reducible refine i_break ?_ | with_reducible refine i_aug rfl ?_ | with_reducible refine i_gtup rfl ?_
  | with_reducible refine i_gscons ?_ | with_reducible refine i_gsnil ?_ | with_reducible refine i_gsub ?_ | with_reducible refine i_for ?_ | with_reducible refine j_lc ?_ | with_reducible refine i_iT ?_ | with_reducible refine i_iL ?_ | with_reducible refine i_iR1 ?_ | with_reducible refine i_iR2 ?_ | with_reducible refine i_iR3 ?_
  | with_reducible refine i_disp ?_ | with_reducible refine i_pnil ?_ | with_reducible refine i_pcons ?_
  | with_reducible refine i_dg ?_ | with_reducible refine i_din ?_ | with_reducible refine j_dnew ?_ | with_reducible refine i_dput ?_
  | with_reducible refine i_raise ?_ | with_reducible refine i_raiseK ?_ | with_reducible refine i_tryAs ?_ | with_reducible refine i_tryOnly ?_ | with_reducible refine i_err rfl ?_
  | with_reducible refine i_fld ?_ | with_reducible refine i_sfld ?_ | with_reducible refine i_meth ?_ | with_reducible refine i_new ?_ | with_reducible refine i_neg ?_
  | with_reducible refine i_add ?_ | with_reducible refine i_sub ?_ | with_reducible refine i_cmp ?_ | with_reducible refine i_int1 ?_ | with_reducible refine i_int2 ?_ | with_reducible refine i_isb ?_ | with_reducible refine i_eqi ?_ | with_reducible refine i_eqb ?_ | refine i_ixt rfl rfl ?_)
local macro_rules | `(tactic| walk_at "sj") => `(tactic| repeat (walk_at "sj1"))
local macro_rules | `(tactic| walk_at "tj") => `(tactic| repeat (first | walk_at "sj1" | refine i_len (Nat.le_of_ble_eq_true rfl) ?_))
/-! ## replicas, in plain numbers -/
structure Rep where
  num : Fin 4
  hs : List Sta
  rows : List KRow
  sr : Nat
  wait : List (Nat × Int × Int)
  cnt : List Int
  lim : List Int
def wD (n : Fin 4) (e : Nat × Int × Int) : D := .tup [.int (e.1 : Int), .tup [.int (n.val : Int), .int e.2.1, .int e.2.2]]
def Rep.new (n : Fin 4) (m : Nat) : Rep := ⟨n, List.replicate m emp, [], 0, [], List.replicate m 0, List.replicate m 0⟩
def Rep.nextC (R : Rep) (k : Nat) : Int := R.cnt.getD k 0 + 1
def Rep.nextL (R : Rep) (k : Nat) : List Int := if R.lim.getD k 0 < R.nextC k then R.lim.set k (minI 255 (R.nextC k + 8)) else R.lim
def Rep.keep (R : Rep) (k : Nat) (s : Sta) : Rep := { R with hs := R.hs.set k s, rows := R.rows ++ [(k, s)] }
def Rep.newS (R : Rep) (k : Nat) (v : Int) (n : Fin 4 → Int) : Sta := wrS (at_ R.hs k) R.num (R.nextC k) v n
def Rep.write (R : Rep) (k : Nat) (v : Int) (n : Fin 4 → Int) : Rep :=
  { R with hs := R.hs.set k (R.newS k v n), rows := R.rows ++ [(k, R.newS k v n)], wait := R.wait ++ [(k, R.nextC k, v)], cnt := R.cnt.set k (R.nextC k), lim := R.nextL k }
def Rep.remove (R : Rep) (k : Nat) (n : Fin 4 → Int) : Rep := R.keep k (rmS (at_ R.hs k) n)
def Rep.take (R : Rep) (k : Nat) : Rep := { R with rows := R.rows ++ [(k, at_ R.hs k)] }
def Rep.sync (R : Rep) : Rep := { R with sr := R.rows.length, wait := [] }
def Rep.left (R : Rep) (x : Nat) : Nat := min (20 * R.rows.length) (20 * R.sr + x) / 20
def putAll (h : List Sta) (rows : List KRow) : List Sta := rows.foldl (fun h r => h.set r.1 r.2) h
def Rep.crash (R : Rep) (x : Nat) : Rep := { R with hs := putAll (List.replicate R.hs.length emp) (R.rows.take (R.left x)), rows := R.rows.take (R.left x), sr := R.left x, wait := [], cnt := R.lim }
def rowsK (hs : List Sta) : List KRow := ((List.range hs.length).filter fun k => decide (hs.getD k emp ≠ emp)).map fun k => (k, hs.getD k emp)
theorem rowsD_K (hs : List Sta) : rowsD hs = (rowsK hs).map kD_ := by unfold rowsD rowsK; rw [List.map_map]; rfl
def Rep.pack (R : Rep) (x : Nat) : Rep := if x < 20 * (rowsK R.hs).length then R.crash 0 else { R with rows := rowsK R.hs, sr := (rowsK R.hs).length }
def Rep.RowsIn (R : Rep) : Prop := ∀ r ∈ R.rows, r.1 < R.hs.length ∧ StOk r.2
theorem rowsK_ok {hs : List Sta} (h : ∀ k, k < hs.length → StOk (at_ hs k)) : ∀ r ∈ rowsK hs, r.1 < hs.length ∧ StOk r.2 := fun r hr => by
  obtain ⟨k, hk, rfl⟩ := List.mem_map.mp hr
  have := List.mem_range.mp (List.mem_filter.mp hk).1
  exact ⟨this, h k this⟩
theorem rowsK_len (hs : List Sta) : (rowsK hs).length ≤ hs.length := by
  unfold rowsK
  rw [List.length_map]
  have := List.length_filter_le (fun k => decide (hs.getD k emp ≠ emp)) (List.range hs.length)
  rwa [List.length_range] at this
theorem rI_ok {n : Nat} {rows : List KRow} (h : ∀ r ∈ rows, r.1 < n ∧ StOk r.2) : RowsOk (n : Int) (rows.map rI) := fun r hr => by
  obtain ⟨q, hq, rfl⟩ := List.mem_map.mp hr
  have := h q hq
  exact ⟨Int.natCast_nonneg _, Int.ofNat_lt.mpr this.1, this.2⟩
/-! ### as a piece -/
abbrev repF (n : Fin 4) (st dk w c l : Addr) : AO := .ins "Replica" [("number", .int (n.val : Int)), ("store", .ref st), ("disk", .ref dk), ("waiting", .ref w), ("counts", .ref c), ("limits", .ref l)]
def RepS (p : Addr) (R : Rep) : SP := ex_ fun st => ex_ fun dk => ex_ fun w => ex_ fun c => ex_ fun l => Hp_ [pt p (repF R.num st dk w c l), StoreS st R.hs, DiskB dk (kb R.rows) (20 * R.sr), pt w (.lst (R.wait.map (wD R.num))), pt c (IL R.cnt), pt l (IL R.lim)]
section
variable {L : List SP} {A : AHp} {Q : AK} {EX : String → D → AHp → Prop}
theorem Hs.rep {p : Addr} {R : Rep} (S : Hs (RepS p R :: L) A) : ∃ st dk w c l, Hs (pt p (repF R.num st dk w c l) :: StoreS st R.hs :: DiskB dk (kb R.rows) (20 * R.sr) :: pt w (.lst (R.wait.map (wD R.num))) :: pt c (IL R.cnt) :: pt l (IL R.lim) :: L) A := by
  obtain ⟨st, S⟩ := Hs.ex_iff.mp S
  obtain ⟨dk, S⟩ := Hs.ex_iff.mp S
  obtain ⟨w, S⟩ := Hs.ex_iff.mp S
  obtain ⟨c, S⟩ := Hs.ex_iff.mp S
  obtain ⟨l, S⟩ := Hs.ex_iff.mp S
  exact ⟨st, dk, w, c, l, S.open_⟩
theorem Hs.mkRep {p : Addr} {R : Rep} {st dk w c l : Addr} (S : Hs (pt p (repF R.num st dk w c l) :: StoreS st R.hs :: DiskB dk (kb R.rows) (20 * R.sr) :: pt w (.lst (R.wait.map (wD R.num))) :: pt c (IL R.cnt) :: pt l (IL R.lim) :: L) A) : Hs (RepS p R :: L) A :=
  Hs.ex_iff.mpr ⟨st, Hs.ex_iff.mpr ⟨dk, Hs.ex_iff.mpr ⟨w, Hs.ex_iff.mpr ⟨c, Hs.ex_iff.mpr ⟨l, Hs.close (R := [_, _, _, _, _, _]) S⟩⟩⟩⟩⟩
theorem c_dappend (S : Hs L A) (n : Nat) {p : Addr} {bs : List Int} {sf : Nat} {k : Int} {s : Sta} (e : nth L n = DiskB p bs sf) (ok : StOk s) (hz : bs.length ≤ 10000000) (q : ∀ A', Hs (setN L n (DiskB p (bs ++ recB k s) sf)) A' → Q .non A') : sp_Disk_append [.ref p, .int k, stD s] A Q EX := by
  have S1 := S.f n; rw [e] at S1
  exact ⟨p, bs, sf, _, k, s, rfl, ok, hz, S1, fun A' S => q A' (S.b n)⟩
theorem jmethD (S : Hs L A) (n : Nat) {p : Addr} {bs : List Int} {sf : Nat} {m : Str} {P : Addr → Prop} (e : nth L n = DiskB p bs sf) (hm : ∀ a b, List.lookup m [("data", D.ref a), ("safe", .int b)] = none) (k : P p) :
    ∃ q fs, D.ref p = .ref q ∧ A q = some (.ins "Disk" fs) ∧ fs.lookup m = none ∧ P q := by
  have s := S.at_ n; rw [e] at s
  obtain ⟨da, h, _⟩ := DiskB.ins s
  exact ⟨p, _, rfl, h, hm _ _, k⟩
end
def sp_Replica___init__ : ASp := fun ds A Q _ => ∃ (p : Addr) (L : List SP) (nm : Fin 4) (h : Nat) (m n : Int), ds = [.ref p, .int m, .int n] ∧ m = (nm.val : Int) ∧ n = ((2 ^ h : Nat) : Int) ∧ h ≤ 6 ∧ Hs (pt p (.ins "Replica" []) :: L) A ∧ ∀ A', Hs (RepS p (Rep.new nm (2 ^ h)) :: L) A' → Q .non A'
def T_Replica___init__ : TSA := sSeq (sFld "Replica" (xVar 0) (xVar 1) "number") (sSeq (sFld "Replica" (xVar 0) (xNew "Store" sp_Store___init__ (xsCons (xVar 2) (xsNil))) "store") (sSeq (sFld "Replica" (xVar 0) (xNew "Disk" sp_Disk___init__ (xsNil)) "disk") (sSeq (sFld "Replica" (xVar 0) (xLst (xsNil)) "waiting") (sSeq (sFld "Replica" (xVar 0) (xBin mulA (xLst (xsCons (xC (.int 0)) (xsNil))) (xVar 2)) "counts") (sFld "Replica" (xVar 0) (xBin mulA (xLst (xsCons (xC (.int 0)) (xsNil))) (xVar 2)) "limits")))))
theorem l_Replica___init__ : ∀ ds A Q E, sp_Replica___init__ ds A Q E → ds.length = ["self", "number", "size"].length := by
  rintro ds A Q E ⟨p, L, nm, h, m, n, rfl, _⟩; rfl
theorem zeros (m : Nat) : (List.replicate ((m : Int)).toNat [D.int 0]).flatten = (List.replicate m (0 : Int)).map D.int := by
  rw [Int.toNat_natCast]
  induction m with
  | zero => rfl
  | succ m ih => rw [List.replicate_succ, List.flatten_cons, ih, List.replicate_succ]; rfl
theorem w_Replica___init__ : ∀ ds A Q E, sp_Replica___init__ ds A Q E → T_Replica___init__ (fun _ c pl A' => E c pl A') (bodyE Q) (envA 3 ds) A := by
  rintro ds A Q E ⟨p, L, nm, h, m, n, rfl, rfl, rfl, h6, S, k⟩
  have p64 : 2 ^ h ≤ 64 := Nat.le_trans (Nat.pow_le_pow_right (by decide) h6) (by decide)
  unfold T_Replica___init__
  walk_at "sj"
  refine jsfld S 0 rfl (Nat.le_of_ble_eq_true rfl) fun A1 S => ?_
  walk_at "sj"
  intro st nst
  refine c_storeN S h h6 rfl nst fun A2 S => ?_
  walk_at "sj"
  refine jsfld S 1 rfl (Nat.le_of_ble_eq_true rfl) fun A3 S => ?_
  walk_at "sj"
  intro dk ndk
  refine ⟨dk, _, rfl, S.new ndk, fun A4 S => ⟨rfl, ?_⟩⟩
  walk_at "sj"
  refine jsfld S 2 rfl (Nat.le_of_ble_eq_true rfl) fun A5 S => ?_
  walk_at "tj"
  refine jnew S fun w A6 S => ?_
  walk_at "sj"
  refine jsfld S 3 rfl (Nat.le_of_ble_eq_true rfl) fun A7 S => ?_
  walk_at "tj"
  refine jnew S fun z A8 S => ?_
  walk_at "sj"
  refine jmul (S.at_ 0) (Int.natCast_nonneg _) (by omega) (by rw [Int.toNat_natCast, sizeLine_eq]; simp; omega) ?_
  rw [zeros]
  refine jnew S fun c A9 S => ?_
  walk_at "sj"
  refine jsfld S 5 rfl (Nat.le_of_ble_eq_true rfl) fun A10 S => ?_
  walk_at "tj"
  refine jnew S fun z2 A11 S => ?_
  walk_at "sj"
  refine jmul (S.at_ 0) (Int.natCast_nonneg _) (by omega) (by rw [Int.toNat_natCast, sizeLine_eq]; simp; omega) ?_
  rw [zeros]
  refine jnew S fun l A12 S => ?_
  walk_at "sj"
  refine jsfld S 7 rfl (Nat.le_of_ble_eq_true rfl) fun A13 S => ?_
  exact k A13 (Hs.mkRep (R := Rep.new nm (2 ^ h)) (S.pick 8 [7, 6, 5, 4, 2, 0]))
/-! ### keep -/
def sp_Replica_keep : ASp := fun ds A Q _ => ∃ (p : Addr) (R : Rep) (L : List SP) (k : Nat) (s : Sta), ds = [.ref p, .int (k : Int), stD s] ∧ StOk s ∧ k < R.hs.length ∧ R.rows.length ≤ 100000 ∧ Hs (RepS p R :: L) A ∧ ∀ A', Hs (RepS p (R.keep k s) :: L) A' → Q .non A'
def T_Replica_keep : TSA := sSeq (sDrop (xMeth "Store" "place" sp_Store_place (xFld "Replica" (xVar 0) "store") (xsCons (xVar 1) (xsCons (xVar 2) (xsNil))))) (sDrop (xMeth "Disk" "append" sp_Disk_append (xFld "Replica" (xVar 0) "disk") (xsCons (xVar 1) (xsCons (xVar 2) (xsNil)))))
theorem l_Replica_keep : ∀ ds A Q E, sp_Replica_keep ds A Q E → ds.length = ["self", "key", "state"].length := by
  rintro ds A Q E ⟨p, R, L, k, s, rfl, _⟩; rfl
theorem w_Replica_keep : ∀ ds A Q E, sp_Replica_keep ds A Q E → T_Replica_keep (fun _ c pl A' => E c pl A') (bodyE Q) (envA 3 ds) A := by
  rintro ds A Q E ⟨p, R, L, k, s, rfl, ok, hk, hz, S, h⟩
  obtain ⟨st, dk, w, c, l, S⟩ := S.rep
  unfold T_Replica_keep
  walk_at "sj"
  refine i_fldK (S.at_ 0) rfl ?_
  refine jmeth S 1 rfl (fun _ _ _ => rfl) ?_
  walk_at "sj"
  refine c_place S 1 rfl hk ok fun A1 S => ?_
  walk_at "sj"
  refine i_fldK (S.at_ 0) rfl ?_
  refine jmethD S 2 rfl (fun _ _ => rfl) ?_
  walk_at "sj"
  refine c_dappend S 2 rfl ok (by rw [kb_len]; omega) fun A2 S => ?_
  have S : Hs (pt p (repF R.num st dk w c l) :: StoreS st (R.hs.set k s) :: DiskB dk (kb R.rows ++ recB (k : Int) s) (20 * R.sr) :: pt w (.lst (R.wait.map (wD R.num))) :: pt c (IL R.cnt) :: pt l (IL R.lim) :: L) A2 := S
  rw [← kb_snoc] at S
  exact h A2 (Hs.mkRep (R := R.keep k s) S)
/-! ### counts -/
theorem setI {ns : List Int} {k : Nat} {i : Int} : (ns.map D.int).set k (.int i) = (ns.set k i).map D.int := by rw [List.map_set]
def sp_Replica_next_count : ASp := fun ds A Q EX => ∃ (p : Addr) (R : Rep) (L : List SP) (k : Nat), ds = [.ref p, .int (k : Int)] ∧ k < R.cnt.length ∧ k < R.lim.length ∧ Hs (RepS p R :: L) A ∧
  (R.nextC k ≤ 255 → ∀ A', Hs (RepS p { R with lim := R.nextL k } :: L) A' → Q (.int (R.nextC k)) A') ∧ (255 < R.nextC k → EX "Full" (.str "count") A)
abbrev k_AHEAD : D := .int 8
def T_Replica_next_count : TSA := sSeq (sSet 2 (xBin addA (xBin ixB (xFld "Replica" (xVar 0) "counts") (xVar 1)) (xC (.int 1)))) (sSeq (sIf (xTest (xBin gtA (xVar 2) (xC k_MAX_COUNT))) (sRaise "Full" (xsCons (xC (.str "count")) (xsNil))) (sNil)) (sSeq (sIf (xTest (xBin gtA (xVar 2) (xBin ixB (xFld "Replica" (xVar 0) "limits") (xVar 1)))) (sAsg (xCB (int2A minI) (xsCons (xC k_MAX_COUNT) (xsCons (xBin addA (xVar 2) (xC k_AHEAD)) (xsNil)))) (gSubL (xFld "Replica" (xVar 0) "limits") (xVar 1))) (sNil)) (sRet (xVar 2))))
theorem l_Replica_next_count : ∀ ds A Q E, sp_Replica_next_count ds A Q E → ds.length = ["self", "key"].length := by
  rintro ds A Q E ⟨p, R, L, k, rfl, _⟩; rfl
theorem w_Replica_next_count : ∀ ds A Q E, sp_Replica_next_count ds A Q E → T_Replica_next_count (fun _ c pl A' => E c pl A') (bodyE Q) (envA 3 ds) A := by
  rintro ds A Q E ⟨p, R, L, k, rfl, hc, hl, S, h, he⟩
  obtain ⟨st, dk, w, c, l, S⟩ := S.rep
  unfold T_Replica_next_count
  walk_at "sj"
  refine i_fldK (S.at_ 0) rfl ?_
  walk_at "sj"
  refine i_ixl (S.at_ 4) (bsAt hc) ?_
  walk_at "sj"
  refine i_two (fun hb => ?_) (fun hb => ?_)
  · walk_at "sj"
    exact he (of_decide_eq_true hb)
  have le : R.nextC k ≤ 255 := Int.not_lt.mp (of_decide_eq_false hb)
  have h := h le
  walk_at "sj"
  refine i_fldK (S.at_ 0) rfl ?_
  walk_at "sj"
  refine i_ixl (S.at_ 5) (bsAt hl) ?_
  walk_at "sj"
  refine i_two (fun hb => ?_) (fun hb => ?_)
  · have lt : R.lim.getD k 0 < R.nextC k := of_decide_eq_true hb
    walk_at "sj"
    refine i_fldK (S.at_ 0) rfl ?_
    walk_at "sj"
    refine jgsub S 5 rfl (ixN_nat (by rw [List.length_map]; exact hl)) fun A1 S => ?_
    walk_at "sj"
    have en : R.nextL k = R.lim.set k (minI 255 (R.nextC k + 8)) := if_pos lt
    have S : Hs (pt p (repF R.num st dk w c l) :: StoreS st R.hs :: DiskB dk (kb R.rows) (20 * R.sr) :: pt w (.lst (R.wait.map (wD R.num))) :: pt c (IL R.cnt) :: pt l (.lst ((R.lim.map D.int).set k (.int (minI 255 (R.nextC k + 8))))) :: L) A1 := S
    rw [setI, ← en] at S
    exact h A1 (Hs.mkRep (R := { R with lim := R.nextL k }) S)
  · have nl : ¬ R.lim.getD k 0 < R.nextC k := of_decide_eq_false hb
    walk_at "sj"
    have en : R.nextL k = R.lim := if_neg nl
    rw [en] at h
    exact h _ (Hs.mkRep (R := R) S)
/-! ### write, remove, take, sync -/
def sp_Replica_write : ASp := fun ds A Q EX => ∃ (p : Addr) (R : Rep) (L : List SP) (k : Nat) (v : Int) (n : Fin 4 → Int), ds = [.ref p, .int (k : Int), .int v, seenD n] ∧ k < R.hs.length ∧ R.cnt.length = R.hs.length ∧ R.lim.length = R.hs.length ∧ SnOk n ∧ 0 ≤ v ∧ v ≤ 255 ∧ (at_ R.hs k R.num).n ≤ R.cnt.getD k 0 ∧ R.rows.length ≤ 100000 ∧ R.wait.length ≤ 100000 ∧ Hs (RepS p R :: L) A ∧
  (R.nextC k ≤ 255 → ∀ A', Hs (RepS p (R.write k v n) :: L) A' → Q (.tup [.int (R.num.val : Int), .int (R.nextC k), .int v]) A') ∧ (255 < R.nextC k → EX "Full" (.str "count") A)
def T_Replica_write : TSA := sSeq (sSet 4 (xMeth "Replica" "next_count" sp_Replica_next_count (xVar 0) (xsCons (xVar 1) (xsNil)))) (sSeq (sSet 5 (xCall sp_written (xsCons (xMeth "Store" "state" sp_Store_state (xFld "Replica" (xVar 0) "store") (xsCons (xVar 1) (xsNil))) (xsCons (xFld "Replica" (xVar 0) "number") (xsCons (xVar 4) (xsCons (xVar 2) (xsCons (xVar 3) (xsNil)))))))) (sSeq (sAsg (xVar 4) (gSubL (xFld "Replica" (xVar 0) "counts") (xVar 1))) (sSeq (sDrop (xMeth "Replica" "keep" sp_Replica_keep (xVar 0) (xsCons (xVar 1) (xsCons (xVar 5) (xsNil))))) (sSeq (sDrop (xLM appA (xFld "Replica" (xVar 0) "waiting") (xsCons (xTup (xsCons (xVar 1) (xsCons (xTup (xsCons (xFld "Replica" (xVar 0) "number") (xsCons (xVar 4) (xsCons (xVar 2) (xsNil))))) (xsNil)))) (xsNil)))) (sRet (xTup (xsCons (xFld "Replica" (xVar 0) "number") (xsCons (xVar 4) (xsCons (xVar 2) (xsNil))))))))))
theorem l_Replica_write : ∀ ds A Q E, sp_Replica_write ds A Q E → ds.length = ["self", "key", "value", "seen"].length := by
  rintro ds A Q E ⟨p, R, L, k, v, n, rfl, _⟩; rfl
theorem jmethR {L : List SP} {A : AHp} (S : Hs L A) (n : Nat) {p st dk w c l : Addr} {nm : Fin 4} {m : Str} {P : Addr → Prop} (e : nth L n = pt p (repF nm st dk w c l)) (hm : ∀ i a b c d e, List.lookup m [("number", D.int i), ("store", .ref a), ("disk", .ref b), ("waiting", .ref c), ("counts", .ref d), ("limits", .ref e)] = none) (k : P p) :
    ∃ q fs, D.ref p = .ref q ∧ A q = some (.ins "Replica" fs) ∧ fs.lookup m = none ∧ P q := by
  have s := S.at_ n; rw [e] at s
  exact ⟨p, _, rfl, s, hm _ _ _ _ _ _, k⟩
theorem RepS.ins {A : AHp} {p : Addr} {R : Rep} (s : (RepS p R).P A) : ∃ st dk w c l, A p = some (repF R.num st dk w c l) := by
  obtain ⟨st, dk, w, c, l, h⟩ := s
  have h' : Hs _ A := h
  exact ⟨st, dk, w, c, l, h'.at_ 0⟩
theorem jmethS {L : List SP} {A : AHp} (S : Hs L A) (n : Nat) {p : Addr} {R : Rep} {m : Str} {P : Addr → Prop} (e : nth L n = RepS p R) (hm : ∀ i a b c d e, List.lookup m [("number", D.int i), ("store", .ref a), ("disk", .ref b), ("waiting", .ref c), ("counts", .ref d), ("limits", .ref e)] = none) (k : P p) :
    ∃ q fs, D.ref p = .ref q ∧ A q = some (.ins "Replica" fs) ∧ fs.lookup m = none ∧ P q := by
  have s := S.at_ n; rw [e] at s
  obtain ⟨st, dk, w, c, l, h⟩ := RepS.ins s
  exact ⟨p, _, rfl, h, hm _ _ _ _ _ _, k⟩
set_option maxHeartbeats 1000000 in
theorem w_Replica_write : ∀ ds A Q E, sp_Replica_write ds A Q E → T_Replica_write (fun _ c pl A' => E c pl A') (bodyE Q) (envA 6 ds) A := by
  rintro ds A Q E ⟨p, R, L, k, v, n, rfl, hk, lc, ll, okn, v0, v1, hn, hz, hw, S, h, he⟩
  have okS : StOk (at_ R.hs k) := by
    obtain ⟨st, dk, w, c, l, S⟩ := S.rep
    exact StoreS.okAt (S.at_ 1) hk
  have cn := (okS R.num).lo
  unfold T_Replica_write
  walk_at "sj"
  refine jmethS S 0 rfl (fun _ _ _ _ _ _ => rfl) ?_
  walk_at "sj"
  refine ⟨p, R, L, k, rfl, by omega, by omega, S, fun le A1 S => ?_, fun gt => he gt⟩
  have h := h le
  obtain ⟨st, dk, w, c, l, S⟩ := S.rep
  walk_at "sj"
  refine i_fldK (S.at_ 0) rfl ?_
  refine jmeth S 1 rfl (fun _ _ _ => rfl) ?_
  walk_at "sj"
  refine c_sstate S 1 rfl hk ?_
  walk_at "sj"
  refine i_fldK (S.at_ 0) rfl ?_
  walk_at "sj"
  have lt : (at_ R.hs k R.num).n < R.nextC k := by unfold Rep.nextC; omega
  refine ⟨at_ R.hs k, R.num, R.nextC k, v, n, rfl, okS, okn, v0, v1, fun _ A2 x2 => ?_, fun no => absurd ⟨lt, le⟩ no⟩
  have S := S.ext x2
  have okN : StOk (R.newS k v n) := wrS_ok okS okn (by unfold Rep.nextC; omega) le v0 v1
  walk_at "sj"
  refine i_fldK (S.at_ 0) rfl ?_
  walk_at "sj"
  refine jgsub S 4 rfl (ixN_nat (by rw [List.length_map]; show k < R.cnt.length; omega)) fun A3 S => ?_
  rw [setI] at S
  walk_at "sj"
  refine jmethR S 0 rfl (fun _ _ _ _ _ _ => rfl) ?_
  walk_at "sj"
  refine ⟨p, { R with cnt := R.cnt.set k (R.nextC k), lim := R.nextL k }, L, k, R.newS k v n, rfl, okN, hk, hz, Hs.mkRep (R := { R with cnt := R.cnt.set k (R.nextC k), lim := R.nextL k }) S, fun A4 S => ?_⟩
  obtain ⟨st2, dk2, w2, c2, l2, S⟩ := S.rep
  walk_at "sj"
  refine i_fldK (S.at_ 0) rfl ?_
  refine i_lsr (S.at_ 3) ?_
  walk_at "sj"
  refine i_fldK (S.at_ 0) rfl ?_
  walk_at "tj"
  refine japp S 3 rfl (by rw [List.length_map, sizeLine_eq]; show R.wait.length < _; omega) fun A5 S => ?_
  walk_at "sj"
  refine i_fldK (S.at_ 0) rfl ?_
  walk_at "tj"
  have ew : R.wait.map (wD R.num) ++ [wD R.num (k, R.nextC k, v)] = (R.wait ++ [(k, R.nextC k, v)]).map (wD R.num) := by rw [List.map_append]; rfl
  have S : Hs (pt p (repF R.num st2 dk2 w2 c2 l2) :: StoreS st2 (R.write k v n).hs :: DiskB dk2 (kb (R.write k v n).rows) (20 * R.sr) :: pt w2 (.lst (R.wait.map (wD R.num) ++ [wD R.num (k, R.nextC k, v)])) :: pt c2 (IL (R.write k v n).cnt) :: pt l2 (IL (R.write k v n).lim) :: L) A5 := S
  rw [ew] at S
  exact h A5 (Hs.mkRep (R := R.write k v n) S)
def sp_Replica_remove : ASp := fun ds A Q _ => ∃ (p : Addr) (R : Rep) (L : List SP) (k : Nat) (n : Fin 4 → Int), ds = [.ref p, .int (k : Int), seenD n] ∧ k < R.hs.length ∧ SnOk n ∧ R.rows.length ≤ 100000 ∧ Hs (RepS p R :: L) A ∧ ∀ A', Hs (RepS p (R.remove k n) :: L) A' → Q .non A'
def T_Replica_remove : TSA := sDrop (xMeth "Replica" "keep" sp_Replica_keep (xVar 0) (xsCons (xVar 1) (xsCons (xCall sp_removed (xsCons (xMeth "Store" "state" sp_Store_state (xFld "Replica" (xVar 0) "store") (xsCons (xVar 1) (xsNil))) (xsCons (xVar 2) (xsNil)))) (xsNil))))
theorem l_Replica_remove : ∀ ds A Q E, sp_Replica_remove ds A Q E → ds.length = ["self", "key", "seen"].length := by
  rintro ds A Q E ⟨p, R, L, k, n, rfl, _⟩; rfl
theorem w_Replica_remove : ∀ ds A Q E, sp_Replica_remove ds A Q E → T_Replica_remove (fun _ c pl A' => E c pl A') (bodyE Q) (envA 3 ds) A := by
  rintro ds A Q E ⟨p, R, L, k, n, rfl, hk, okn, hz, S, h⟩
  obtain ⟨st, dk, w, c, l, S⟩ := S.rep
  have okS := StoreS.okAt (S.at_ 1) hk
  unfold T_Replica_remove
  walk_at "sj"
  refine jmethR S 0 rfl (fun _ _ _ _ _ _ => rfl) ?_
  walk_at "sj"
  refine i_fldK (S.at_ 0) rfl ?_
  refine jmeth S 1 rfl (fun _ _ _ => rfl) ?_
  walk_at "sj"
  refine c_sstate S 1 rfl hk ?_
  walk_at "sj"
  refine ⟨_, n, rfl, fun A1 x1 => ?_⟩
  have S := S.ext x1
  walk_at "sj"
  refine ⟨p, R, L, k, _, rfl, rmS_ok okS okn, hk, hz, Hs.mkRep S, fun A2 S => ?_⟩
  exact h A2 S
def sp_Replica_sync : ASp := fun ds A Q _ => ∃ (p : Addr) (R : Rep) (L : List SP), ds = [.ref p] ∧ Hs (RepS p R :: L) A ∧ ∀ w A', Hs (pt w (.lst (R.wait.map (wD R.num))) :: RepS p R.sync :: L) A' → Q (.ref w) A'
def T_Replica_sync : TSA := sSeq (sDrop (xMeth "Disk" "sync" sp_Disk_sync (xFld "Replica" (xVar 0) "disk") xsNil)) (sSeq (sSet 1 (xFld "Replica" (xVar 0) "waiting")) (sSeq (sFld "Replica" (xVar 0) (xLst (xsNil)) "waiting") (sRet (xVar 1))))
theorem l_Replica_sync : ∀ ds A Q E, sp_Replica_sync ds A Q E → ds.length = ["self"].length := by
  rintro ds A Q E ⟨p, R, L, rfl, _⟩; rfl
theorem w_Replica_sync : ∀ ds A Q E, sp_Replica_sync ds A Q E → T_Replica_sync (fun _ c pl A' => E c pl A') (bodyE Q) (envA 2 ds) A := by
  rintro ds A Q E ⟨p, R, L, rfl, S, h⟩
  obtain ⟨st, dk, w, c, l, S⟩ := S.rep
  unfold T_Replica_sync
  walk_at "sj"
  refine i_fldK (S.at_ 0) rfl ?_
  refine jmethD S 2 rfl (fun _ _ => rfl) ?_
  walk_at "sj"
  refine ⟨dk, _, _, _, rfl, S.f 2, fun A1 S => ?_⟩
  have S := S.b 2
  have S : Hs (pt p (repF R.num st dk w c l) :: StoreS st R.hs :: DiskB dk (kb R.rows) (kb R.rows).length :: pt w (.lst (R.wait.map (wD R.num))) :: pt c (IL R.cnt) :: pt l (IL R.lim) :: L) A1 := S
  rw [kb_len] at S
  walk_at "sj"
  refine i_fldK (S.at_ 0) rfl ?_
  walk_at "tj"
  refine jnew S fun z A2 S => ?_
  walk_at "sj"
  refine jsfld S 1 rfl (Nat.le_of_ble_eq_true rfl) fun A3 S => ?_
  walk_at "sj"
  have S := S.pick 7 [1, 2, 3, 0, 5, 6, 4]
  have S := Hs.mkRep (R := R.sync) S
  exact h w A3 (S.perm (.swap _ _ _))
end Mu

namespace Mu
open PySem L2
local macro_rules | `(tactic| walk_at "sj1") => `(tactic| first
  | with_reducible refine i_seq ?_ | with_reducible refine i_bin ?_ | with_reducible refine i_var rfl ?_ | with_reducible refine i_c ?_ | with_reducible refine i_cons ?_ | with_reducible refine i_nil ?_
  | with_reducible refine i_call ?_ | with_reducible refine i_cb ?_ | with_reducible refine i_test ?_ | with_reducible refine i_bl ?_ | with_reducible refine i_asg ?_ | with_reducible refine i_gname ?_
  | with_reducible refine i_sif ?_ | with_reducible refine i_ret ?_ | with_reducible refine i_drop ?_ | with_reducible refine i_lm ?_ | with_reducible refine i_snil ?_ | with_reducible refine i_retN ?_
  | with_reducible refine i_tup ?_ | with_reducible refine j_lst ?_ | with_reducible refine i_and ?_ | with_reducible refine i_or ?_ | with_reducible refine i_not ?_ | with_reducible refine i_andV ?_ | with_reducible refine i_orV ?_
  | with_reducible refine i_notV ?_ | with_reducible refine i_if ?_ | with_reducible refine i_chain ?_ | with_reducible refine i_tru ?_ | with_reducible refine i_trub ?_ | with_reducible refine i_yes ?_ | with_reducible refine i_sl ?_
  | with_reducible refine i_ono ?_ | with_reducible refine i_oso ?_ | with_reducible refine i_ex_int ?_ | with_reducible refine i_break ?_ | with_reducible refine i_aug rfl ?_ | with_reducible refine i_gtup rfl ?_
  | with_reducible refine i_gscons ?_ | with_reducible refine i_gsnil ?_ | with_reducible refine i_gsub ?_ | with_reducible refine i_for ?_ | with_reducible refine j_lc ?_ | with_reducible refine i_iT ?_ | with_reducible refine i_iL ?_ | with_reducible refine i_iR1 ?_ | with_reducible refine i_iR2 ?_ | with_reducible refine i_iR3 ?_
  | with_reducible refine i_disp ?_ | with_reducible refine i_pnil ?_ | with_reducible refine i_pcons ?_
  | with_reducible refine i_dg ?_ | with_reducible refine i_din ?_ | with_reducible refine j_dnew ?_ | with_reducible refine i_dput ?_
  | with_reducible refine i_raise ?_ | with_reducible refine i_raiseK ?_ | with_reducible refine i_tryAs ?_ | with_reducible refine i_tryOnly ?_ | with_reducible refine i_err rfl ?_
  | with_reducible refine i_fld ?_ | with_reducible refine i_sfld ?_ | with_reducible refine i_meth ?_ | with_reducible refine i_new ?_ | with_reducible refine i_neg ?_
  | with_reducible refine i_add ?_ | with_reducible refine i_sub ?_ | with_reducible refine i_cmp ?_ | with_reducible refine i_int1 ?_ | with_reducible refine i_int2 ?_ | with_reducible refine i_isb ?_ | with_reducible refine i_eqi ?_ | with_reducible refine i_eqb ?_ | refine i_ixt rfl rfl ?_)
local macro_rules | `(tactic| walk_at "sj") => `(tactic| repeat (walk_at "sj1"))
local macro_rules | `(tactic| walk_at "tj") => `(tactic| repeat (first | walk_at "sj1" | refine i_len (Nat.le_of_ble_eq_true rfl) ?_))
/-! ### crash, pack -/
theorem jlist {A : AHp} {Q : AK} {p : Addr} {es : List D} (h : A p = some (.lst es)) (k : NewK A (.lst es) Q) : lstA [.ref p] A Q := ⟨_, es, rfl, .inl (.inl ⟨p, rfl, h⟩), k⟩
theorem putAll_len (rows : List KRow) : ∀ h : List Sta, (putAll h rows).length = h.length := by
  induction rows with
  | nil => intro h; rfl
  | cons r rows ih => intro h; show (putAll (h.set r.1 r.2) rows).length = _; rw [ih, List.length_set]
theorem putAll_snoc (h : List Sta) (rows : List KRow) (r : KRow) : putAll h (rows ++ [r]) = (putAll h rows).set r.1 r.2 := by unfold putAll; rw [List.foldl_append]; rfl
theorem rowD_rI (rows : List KRow) : (rows.map rI).map rowD = rows.map kD_ := by rw [List.map_map]; rfl
theorem kb_nn {n : Nat} (hn : n ≤ 64) {rows : List KRow} (h : ∀ r ∈ rows, r.1 < n ∧ StOk r.2) : ∀ b ∈ kb rows, 0 ≤ b := by
  intro b hb
  unfold kb bytes at hb
  obtain ⟨l, hl, hb⟩ := List.mem_flatten.mp hb
  obtain ⟨r, hr, rfl⟩ := List.mem_map.mp hl
  obtain ⟨h0, h1, h2⟩ := rI_ok h r hr
  exact (recB_bd h0 (by omega) b hb).1
/-- what is read from a cut -/
theorem kb_recs {n : Nat} {rows : List KRow} (h : ∀ r ∈ rows, r.1 < n ∧ StOk r.2) (c : Nat) : Recs (n : Int) ((kb rows).take c) ((rows.take (c / 20)).map rI) := by
  obtain ⟨t, h1, h2⟩ := bytes_take (rows.map rI) c
  unfold kb
  rw [h2, List.map_take]
  have ok := rI_ok h
  have := Recs.app (t := t) (rows := (rows.map rI).take (c / 20)) (fun r hr => ok r (List.mem_of_mem_take hr)) (Recs.short (n := (n : Int)) h1)
  rwa [List.append_nil] at this
theorem kb_take20 (rows : List KRow) (m : Nat) : (kb rows).take (m * 20) = kb (rows.take m) := by unfold kb; rw [bytes_take20, List.map_take]
def sp_Replica_crash : ASp := fun ds A Q _ => ∃ (p : Addr) (R : Rep) (L : List SP) (x : Nat), ds = [.ref p, .int (x : Int)] ∧ R.RowsIn ∧ R.rows.length ≤ 100000 ∧ Hs (RepS p R :: L) A ∧ ∀ A', Hs (RepS p (R.crash x) :: L) A' → Q (.int ((R.crash x).rows.length : Int)) A'
def T_Replica_crash : TSA := sSeq (sDrop (xMeth "Disk" "cut" sp_Disk_cut (xFld "Replica" (xVar 0) "disk") (xsCons (xVar 1) (xsNil)))) (sSeq (sSet 2 (xFld "Store" (xFld "Replica" (xVar 0) "store") "size")) (sSeq (sSet 3 (xCall sp_recover (xsCons (xFld "Disk" (xFld "Replica" (xVar 0) "disk") "data") (xsCons (xVar 2) (xsNil))))) (sSeq (sDrop (xMeth "Disk" "trim" sp_Disk_trim (xFld "Replica" (xVar 0) "disk") (xsCons (xCB lenA (xsCons (xVar 3) (xsNil))) (xsNil)))) (sSeq (sFld "Replica" (xVar 0) (xNew "Store" sp_Store___init__ (xsCons (xVar 2) (xsNil))) "store") (sSeq (sFor (iL (xVar 3)) (gTup 2 (gsCons (gName 4) (gsCons (gName 5) (gsNil)))) (sDrop (xMeth "Store" "place" sp_Store_place (xFld "Replica" (xVar 0) "store") (xsCons (xVar 4) (xsCons (xVar 5) (xsNil)))))) (sSeq (sFld "Replica" (xVar 0) (xLst (xsNil)) "waiting") (sSeq (sFld "Replica" (xVar 0) (xCB lstA (xsCons (xFld "Replica" (xVar 0) "limits") (xsNil))) "counts") (sRet (xCB lenA (xsCons (xVar 3) (xsNil)))))))))))
theorem l_Replica_crash : ∀ ds A Q E, sp_Replica_crash ds A Q E → ds.length = ["self", "left"].length := by
  rintro ds A Q E ⟨p, R, L, x, rfl, _⟩; rfl
set_option maxHeartbeats 1000000 in
theorem w_Replica_crash : ∀ ds A Q E, sp_Replica_crash ds A Q E → T_Replica_crash (fun _ c pl A' => E c pl A') (bodyE Q) (envA 6 ds) A := by
  rintro ds A Q E ⟨p, R, L, x, rfl, ri, hz, S, h⟩
  obtain ⟨st, dk, w, c, l, S⟩ := S.rep
  have n64 := StoreS.n64 (S.at_ 1)
  obtain ⟨g, g6, eg⟩ := StoreS.size (S.at_ 1)
  unfold T_Replica_crash
  walk_at "sj"
  refine i_fldK (S.at_ 0) rfl ?_
  refine jmethD S 2 rfl (fun _ _ => rfl) ?_
  walk_at "sj"
  refine ⟨dk, _, _, _, x, rfl, S.f 2, fun A1 S => ?_⟩
  have S := S.b 2
  rw [kb_len] at S
  walk_at "sj"
  refine i_fldK (S.at_ 0) rfl ?_
  walk_at "sj"
  refine jsize S 1 rfl ?_
  walk_at "sj"
  refine i_fldK (S.at_ 0) rfl ?_
  have S := S.f 2
  obtain ⟨da, S⟩ := S.disk
  have S : Hs (pt dk (.ins "Disk" [("data", .ref da), ("safe", .int ((20 * R.sr : Nat) : Int))]) :: pt da (IL ((kb R.rows).take (min (20 * R.rows.length) (20 * R.sr + x)))) :: pt p (repF R.num st dk w c l) :: StoreS st R.hs :: pt w (.lst (R.wait.map (wD R.num))) :: pt c (IL R.cnt) :: pt l (IL R.lim) :: L) A1 := S
  walk_at "sj"
  refine i_fldK (S.at_ 0) rfl ?_
  walk_at "sj"
  have rcs := kb_recs ri (min (20 * R.rows.length) (20 * R.sr + x))
  have nn := kb_nn n64 ri
  refine ⟨da, _, (R.hs.length : Int), _, rfl, S.f 1, fun b hb => nn b (List.mem_of_mem_take hb), by rw [List.length_take, kb_len]; omega, fun rows hr q A2 S => ?_, fun nm hb => (rcs.notBad hb).elim⟩
  have := rcs.det hr
  subst this
  rw [rowD_rI] at S
  have lt : (R.rows.take (min (20 * R.rows.length) (20 * R.sr + x) / 20)).length = R.left x := by
    rw [List.length_take]; unfold Rep.left; omega
  have S : Hs (pt q (.lst ((R.rows.take (R.left x)).map kD_)) :: pt da (IL ((kb R.rows).take (min (20 * R.rows.length) (20 * R.sr + x)))) :: pt dk (.ins "Disk" [("data", .ref da), ("safe", .int ((20 * R.sr : Nat) : Int))]) :: pt p (repF R.num st dk w c l) :: StoreS st R.hs :: pt w (.lst (R.wait.map (wD R.num))) :: pt c (IL R.cnt) :: pt l (IL R.lim) :: L) A2 := S
  have lt : (R.rows.take (R.left x)).length = R.left x := lt
  walk_at "sj"
  refine i_fldK (S.at_ 3) rfl ?_
  have S := Hs.mkDisk (S.pick 3 [2, 1, 0])
  refine jmethD S 0 rfl (fun _ _ => rfl) ?_
  walk_at "sj"
  refine i_lenl (S.at_ 1) ?_
  rw [List.length_map, lt]
  walk_at "sj"
  refine ⟨dk, _, _, _, R.left x, rfl, S, fun A3 S => ?_⟩
  have et : ((kb R.rows).take (min (20 * R.rows.length) (20 * R.sr + x))).take (R.left x * 20) = kb (R.rows.take (R.left x)) := by
    rw [List.take_take, ← kb_take20]
    congr 1
    unfold Rep.left; omega
  rw [et, kb_len, lt] at S
  walk_at "sj"
  intro st2 nst2
  refine c_storeN S g g6 (show (R.hs.length : Int) = ((2 ^ g : Nat) : Int) by rw [eg]) nst2 fun A4 S => ?_
  rw [← eg] at S
  walk_at "sj"
  refine jsfld S 3 rfl (Nat.le_of_ble_eq_true rfl) fun A5 S => ?_
  have S : Hs (StoreS st2 (List.replicate R.hs.length emp) :: DiskB dk (kb (R.rows.take (R.left x))) (20 * R.left x) :: pt q (.lst ((R.rows.take (R.left x)).map kD_)) :: pt p (repF R.num st2 dk w c l) :: StoreS st R.hs :: pt w (.lst (R.wait.map (wD R.num))) :: pt c (IL R.cnt) :: pt l (IL R.lim) :: L) A5 := S
  walk_at "sj"
  refine i_iL_l (S.at_ 2) ?_
  refine for_rule (f := kD_) (fun pre ρ A' => ∃ o4 o5, ρ = [some (.ref p), some (.int (x : Int)), some (.int (R.hs.length : Int)), some (.ref q), o4, o5] ∧
      Hs (StoreS st2 (putAll (List.replicate R.hs.length emp) pre) :: DiskB dk (kb (R.rows.take (R.left x))) (20 * R.left x) :: pt q (.lst ((R.rows.take (R.left x)).map kD_)) :: pt p (repF R.num st2 dk w c l) :: StoreS st R.hs :: pt w (.lst (R.wait.map (wD R.num))) :: pt c (IL R.cnt) :: pt l (IL R.lim) :: L) A') (R.rows.take (R.left x)) (fun _ _ _ ⟨_, _, _, S⟩ => S.at_ 2)
    (fun pre r post e ρ A6 hI NX nx => ?step) (fun ρ A6 hI => ?fin) ⟨none, none, rfl, S⟩
  case step =>
    obtain ⟨o4, o5, rfl, S⟩ := hI
    obtain ⟨k, s⟩ := r
    obtain ⟨hk, oks⟩ := ri (k, s) (List.mem_of_mem_take (by rw [e]; simp))
    refine i_gtup rfl ?_
    walk_at "sj"
    refine i_fldK (S.at_ 3) rfl ?_
    refine jmeth S 0 rfl (fun _ _ _ => rfl) ?_
    walk_at "sj"
    refine c_place S 0 rfl (by rw [putAll_len, List.length_replicate]; exact hk) oks fun A7 S => ?_
    refine nx _ _ ⟨_, _, rfl, ?_⟩
    rw [putAll_snoc]
    exact S
  obtain ⟨o4, o5, rfl, S⟩ := hI
  walk_at "tj"
  refine jnew S fun z A7 S => ?_
  walk_at "sj"
  refine jsfld S 4 rfl (Nat.le_of_ble_eq_true rfl) fun A8 S => ?_
  walk_at "sj"
  refine i_fldK (S.at_ 4) rfl ?_
  walk_at "sj"
  refine jlist (S.at_ 8) ?_
  refine jnew S fun c2 A9 S => ?_
  walk_at "sj"
  refine jsfld S 5 rfl (Nat.le_of_ble_eq_true rfl) fun A10 S => ?_
  walk_at "sj"
  refine i_lenl (S.at_ 4) ?_
  rw [List.length_map]
  have S := S.pick 10 [5, 2, 3, 1, 0, 9]
  exact h A10 (Hs.mkRep (R := R.crash x) S)
def sp_Replica_pack : ASp := fun ds A Q _ => ∃ (p : Addr) (R : Rep) (L : List SP) (x : Nat), ds = [.ref p, .int (x : Int)] ∧ R.RowsIn ∧ R.rows.length ≤ 100000 ∧ Hs (RepS p R :: L) A ∧ ∀ A', Hs (RepS p (R.pack x) :: L) A' → Q (.bl (!decide (x < 20 * (rowsK R.hs).length))) A'
def T_Replica_pack : TSA := sSeq (sSet 2 (xMeth "Disk" "replace" sp_Disk_replace (xFld "Replica" (xVar 0) "disk") (xsCons (xMeth "Store" "rows" sp_Store_rows (xFld "Replica" (xVar 0) "store") xsNil) (xsCons (xVar 1) (xsNil))))) (sSeq (sIf (xNot (xTru (xVar 2))) (sDrop (xMeth "Replica" "crash" sp_Replica_crash (xVar 0) (xsCons (xC (.int 0)) (xsNil)))) (sNil)) (sRet (xVar 2)))
theorem l_Replica_pack : ∀ ds A Q E, sp_Replica_pack ds A Q E → ds.length = ["self", "left"].length := by
  rintro ds A Q E ⟨p, R, L, x, rfl, _⟩; rfl
theorem w_Replica_pack : ∀ ds A Q E, sp_Replica_pack ds A Q E → T_Replica_pack (fun _ c pl A' => E c pl A') (bodyE Q) (envA 3 ds) A := by
  rintro ds A Q E ⟨p, R, L, x, rfl, ri, hz, S, h⟩
  obtain ⟨st, dk, w, c, l, S⟩ := S.rep
  have n64 := StoreS.n64 (S.at_ 1)
  have okS : ∀ k, k < R.hs.length → StOk (at_ R.hs k) := fun k hk => StoreS.okAt (S.at_ 1) hk
  have lk := rowsK_len R.hs
  unfold T_Replica_pack
  walk_at "sj"
  refine i_fldK (S.at_ 0) rfl ?_
  refine jmethD S 2 rfl (fun _ _ => rfl) ?_
  walk_at "sj"
  refine i_fldK (S.at_ 0) rfl ?_
  refine jmeth S 1 rfl (fun _ _ _ => rfl) ?_
  walk_at "sj"
  refine c_rows S 1 rfl fun q A1 S => ?_
  rw [rowsD_K] at S
  walk_at "sj"
  refine ⟨dk, q, _, _, rowsK R.hs, _, x, rfl, fun r hr => (rowsK_ok okS r hr).2, by omega, S.pick 4 [3, 0, 1, 2], fun lt A2 S => ?_, fun nl A2 S => ?_⟩
  · have e : R.pack x = R.crash 0 := if_pos lt
    rw [e, decide_eq_true lt] at h
    walk_at "sj"
    refine i_twoT rfl ?_
    walk_at "sj"
    refine jmethR S 2 rfl (fun _ _ _ _ _ _ => rfl) ?_
    walk_at "sj"
    refine ⟨p, R, _, 0, rfl, ri, hz, Hs.mkRep (S.pick 4 [2, 3, 0]), fun A3 S => ?_⟩
    walk_at "sj"
    exact h A3 S
  · have e : R.pack x = { R with rows := rowsK R.hs, sr := (rowsK R.hs).length } := if_neg nl
    rw [e, decide_eq_false nl] at h
    walk_at "sj"
    refine i_twoF rfl ?_
    walk_at "sj"
    exact h A2 (Hs.mkRep (R := { R with rows := rowsK R.hs, sr := (rowsK R.hs).length }) (S.pick 4 [2, 3, 0]))
end Mu

namespace Mu
open PySem L2
/-! ## what holds of a replica -/
structure RInv (R : Rep) (n : Nat) : Prop where
  lh : R.hs.length = n
  lc : R.cnt.length = n
  ll : R.lim.length = n
  rows : ∀ r ∈ R.rows, r.1 < n ∧ StOk r.2 ∧ (r.2 R.num).n ≤ R.lim.getD r.1 0
  srl : R.sr ≤ R.rows.length
  ok : ∀ k, k < n → StOk (at_ R.hs k)
  seen : ∀ k, k < n → (at_ R.hs k R.num).n ≤ R.cnt.getD k 0
  cl : ∀ k, k < n → 0 ≤ R.cnt.getD k 0 ∧ R.cnt.getD k 0 ≤ R.lim.getD k 0 ∧ R.lim.getD k 0 ≤ 255
theorem RInv.rowsIn {R : Rep} {n : Nat} (h : RInv R n) : R.RowsIn := fun r hr => by
  have := h.rows r hr
  exact ⟨by rw [h.lh]; exact this.1, this.2.1⟩
theorem setG {ns : List Int} {k i : Nat} {x : Int} (h : k < ns.length) : (ns.set k x).getD i 0 = if k = i then x else ns.getD i 0 := by
  rw [List.getD_eq_getElem?_getD, List.getD_eq_getElem?_getD, List.getElem?_set]
  by_cases e : k = i
  · subst e; simp [h]
  · simp [e]
theorem atSet {hs : List Sta} {k i : Nat} {s : Sta} (h : k < hs.length) : at_ (hs.set k s) i = if k = i then s else at_ hs i := hset h
theorem minI_le (a b : Int) : minI a b ≤ a ∧ minI a b ≤ b ∧ (minI a b = a ∨ minI a b = b) := by unfold minI; split <;> omega
theorem RInv.new (nm : Fin 4) (n : Nat) : RInv (Rep.new nm n) n := by
  have h0 : ∀ k, at_ (List.replicate n emp) k = emp := fun k => by
    show (List.replicate n emp).getD k emp = emp
    rw [List.getD_eq_getElem?_getD, List.getElem?_replicate]; split <;> rfl
  have hz : ∀ k, (List.replicate n (0 : Int)).getD k 0 = 0 := fun k => by
    rw [List.getD_eq_getElem?_getD, List.getElem?_replicate]; split <;> rfl
  exact ⟨by simp [Rep.new], by simp [Rep.new], by simp [Rep.new], fun r hr => (by cases hr), Nat.le_refl _, fun k _ => by show StOk (at_ (List.replicate n emp) k); rw [h0]; exact emp_ok,
    fun k _ => by show (at_ (List.replicate n emp) k nm).n ≤ (List.replicate n (0 : Int)).getD k 0; rw [h0, hz]; exact Int.le_refl _, fun k _ => by show 0 ≤ (List.replicate n (0 : Int)).getD k 0 ∧ (List.replicate n (0 : Int)).getD k 0 ≤ (List.replicate n (0 : Int)).getD k 0 ∧ (List.replicate n (0 : Int)).getD k 0 ≤ 255; rw [hz]; decide⟩
theorem nextL_at {R : Rep} {k i : Nat} (hk : k < R.lim.length) : (R.nextL k).getD i 0 = if k = i then (if R.lim.getD k 0 < R.nextC k then minI 255 (R.nextC k + 8) else R.lim.getD k 0) else R.lim.getD i 0 := by
  unfold Rep.nextL
  by_cases h : R.lim.getD k 0 < R.nextC k
  · rw [if_pos h, setG hk, if_pos h]
  · rw [if_neg h]
    by_cases e : k = i
    · subst e; rw [if_pos rfl, if_neg h]
    · rw [if_neg e]
theorem nextL_len {R : Rep} {k : Nat} : (R.nextL k).length = R.lim.length := by unfold Rep.nextL; split <;> simp
/-- a limit never falls -/
theorem nextL_le {R : Rep} {k : Nat} (h : R.lim.getD k 0 ≤ 255) (hk : k < R.lim.length) (i : Nat) : R.lim.getD i 0 ≤ (R.nextL k).getD i 0 := by
  rw [nextL_at hk]
  by_cases e : k = i
  · subst e
    rw [if_pos rfl]
    split
    · have := minI_le 255 (R.nextC k + 8); omega
    · omega
  · rw [if_neg e]; omega
theorem wr_n {s : Sta} {r : Fin 4} {c w : Int} {n : Fin 4 → Int} (h1 : (s r).n < c) (h2 : n r < c) : (wrS s r c w n r).n = c := by
  have e : wrS s r c w n r = ⟨imax (imax (s r).n (n r)) c, some (c, w)⟩ := if_pos rfl
  rw [e]
  show imax (imax (s r).n (n r)) c = c
  have := imax_le (i := (s r).n) (j := n r)
  have := imax_le (i := imax (s r).n (n r)) (j := c)
  omega
theorem RInv.write {R : Rep} {n k : Nat} {v : Int} {sn : Fin 4 → Int} (h : RInv R n) (hk : k < n) (hc : R.nextC k ≤ 255) (v0 : 0 ≤ v) (v1 : v ≤ 255) (okn : SnOk sn) (hn : sn R.num ≤ R.cnt.getD k 0) : RInv (R.write k v sn) n := by
  have cl := h.cl k hk
  have ok := h.ok k hk
  have sk := h.seen k hk
  have kh : k < R.hs.length := by rw [h.lh]; exact hk
  have kc : k < R.cnt.length := by rw [h.lc]; exact hk
  have kl : k < R.lim.length := by rw [h.ll]; exact hk
  have cn := (ok R.num).lo
  have ec : R.nextC k = R.cnt.getD k 0 + 1 := rfl
  have okN : StOk (R.newS k v sn) := wrS_ok ok okn (by omega) hc v0 v1
  have nn : (R.newS k v sn R.num).n = R.nextC k := wr_n (by omega) (by omega)
  have lk : R.nextC k ≤ (R.nextL k).getD k 0 ∧ (R.nextL k).getD k 0 ≤ 255 := by
    rw [nextL_at kl, if_pos rfl]
    have := minI_le 255 (R.nextC k + 8)
    split <;> omega
  refine ⟨by show (R.hs.set k _).length = n; rw [List.length_set]; exact h.lh, by show (R.cnt.set k _).length = n; rw [List.length_set]; exact h.lc, by show (R.nextL k).length = n; rw [nextL_len]; exact h.ll, fun r hr => ?_, ?_, fun i hi => ?_, fun i hi => ?_, fun i hi => ?_⟩
  · have hr' : r ∈ R.rows ++ [(k, R.newS k v sn)] := hr
    show r.1 < n ∧ StOk r.2 ∧ (r.2 R.num).n ≤ (R.nextL k).getD r.1 0
    rcases List.mem_append.mp hr' with hr | hr
    · have := h.rows r hr
      exact ⟨this.1, this.2.1, Int.le_trans this.2.2 (nextL_le cl.2.2 kl _)⟩
    · rw [List.mem_singleton.mp hr]
      exact ⟨hk, okN, by show (R.newS k v sn R.num).n ≤ _; rw [nn]; exact lk.1⟩
  · show R.sr ≤ (R.rows ++ [_]).length
    have := h.srl
    rw [List.length_append]; omega
  · show StOk (at_ (R.hs.set k _) i)
    rw [atSet kh]
    split
    · exact okN
    · exact h.ok i hi
  · show (at_ (R.hs.set k _) i R.num).n ≤ (R.cnt.set k _).getD i 0
    rw [atSet kh, setG kc]
    by_cases e : k = i
    · subst e; rw [if_pos rfl, if_pos rfl, nn]; exact Int.le_refl _
    · rw [if_neg e, if_neg e]; exact h.seen i hi
  · show 0 ≤ (R.cnt.set k _).getD i 0 ∧ (R.cnt.set k _).getD i 0 ≤ (R.nextL k).getD i 0 ∧ (R.nextL k).getD i 0 ≤ 255
    rw [setG kc]
    by_cases e : k = i
    · subst e; rw [if_pos rfl]; exact ⟨by omega, lk⟩
    · have ci := h.cl i hi
      rw [if_neg e, nextL_at kl, if_neg e]; exact ci
/-- a state is kept whose own count is not above the last -/
theorem RInv.keep {R : Rep} {n k : Nat} {s : Sta} (h : RInv R n) (hk : k < n) (ok : StOk s) (hs : (s R.num).n ≤ R.cnt.getD k 0) : RInv (R.keep k s) n := by
  have kh : k < R.hs.length := by rw [h.lh]; exact hk
  refine ⟨by show (R.hs.set k s).length = n; rw [List.length_set]; exact h.lh, h.lc, h.ll, fun r hr => ?_, ?_, fun i hi => ?_, fun i hi => ?_, h.cl⟩
  · have hr' : r ∈ R.rows ++ [(k, s)] := hr
    rcases List.mem_append.mp hr' with hr | hr
    · exact h.rows r hr
    · rw [List.mem_singleton.mp hr]
      exact ⟨hk, ok, Int.le_trans hs (h.cl k hk).2.1⟩
  · show R.sr ≤ (R.rows ++ [_]).length
    have := h.srl
    rw [List.length_append]; omega
  · show StOk (at_ (R.hs.set k s) i)
    rw [atSet kh]
    split
    · exact ok
    · exact h.ok i hi
  · show (at_ (R.hs.set k s) i R.num).n ≤ R.cnt.getD i 0
    rw [atSet kh]
    by_cases e : k = i
    · subst e; rw [if_pos rfl]; exact hs
    · rw [if_neg e]; exact h.seen i hi
theorem RInv.remove {R : Rep} {n k : Nat} {sn : Fin 4 → Int} (h : RInv R n) (hk : k < n) (okn : SnOk sn) (hn : sn R.num ≤ R.cnt.getD k 0) : RInv (R.remove k sn) n := by
  refine h.keep hk (rmS_ok (h.ok k hk) okn) ?_
  show imax (at_ R.hs k R.num).n (sn R.num) ≤ _
  have := imax_le (i := (at_ R.hs k R.num).n) (j := sn R.num)
  have := h.seen k hk
  omega
theorem RInv.sync {R : Rep} {n : Nat} (h : RInv R n) : RInv R.sync n := ⟨h.lh, h.lc, h.ll, h.rows, Nat.le_refl _, h.ok, h.seen, h.cl⟩
theorem putAll_at (rows : List KRow) : ∀ (h : List Sta) (i : Nat), (∀ r ∈ rows, r.1 < h.length) → at_ (putAll h rows) i = at_ h i ∨ ∃ r ∈ rows, r.1 = i ∧ at_ (putAll h rows) i = r.2 := by
  induction rows with
  | nil => intro h i _; exact .inl rfl
  | cons r rows ih =>
    intro h i hr
    have h1 : r.1 < h.length := hr r List.mem_cons_self
    rcases ih (h.set r.1 r.2) i (fun q hq => by rw [List.length_set]; exact hr q (List.mem_cons_of_mem _ hq)) with z | ⟨q, hq, e1, e2⟩
    · have e : at_ (putAll h (r :: rows)) i = at_ (h.set r.1 r.2) i := z
      rw [atSet h1] at e
      by_cases w : r.1 = i
      · rw [if_pos w] at e; exact .inr ⟨r, List.mem_cons_self, w, e⟩
      · rw [if_neg w] at e; exact .inl e
    · exact .inr ⟨q, List.mem_cons_of_mem _ hq, e1, e2⟩
theorem left_le (R : Rep) (x : Nat) : R.left x ≤ R.rows.length := by unfold Rep.left; omega
theorem RInv.crash {R : Rep} {n : Nat} (h : RInv R n) (x : Nat) : RInv (R.crash x) n := by
  have hr : ∀ r ∈ R.rows.take (R.left x), r.1 < n ∧ StOk r.2 ∧ (r.2 R.num).n ≤ R.lim.getD r.1 0 := fun r hr => h.rows r (List.mem_of_mem_take hr)
  have h0 : ∀ k, at_ (List.replicate R.hs.length emp) k = emp := fun k => by
    show (List.replicate R.hs.length emp).getD k emp = emp
    rw [List.getD_eq_getElem?_getD, List.getElem?_replicate]; split <;> rfl
  have ca : ∀ i, at_ (R.crash x).hs i = emp ∨ ∃ r ∈ R.rows.take (R.left x), r.1 = i ∧ at_ (R.crash x).hs i = r.2 := fun i => by
    have := putAll_at (R.rows.take (R.left x)) (List.replicate R.hs.length emp) i fun r q => by rw [List.length_replicate, h.lh]; exact (hr r q).1
    rw [h0] at this; exact this
  refine ⟨by show (putAll _ _).length = n; rw [putAll_len, List.length_replicate]; exact h.lh, h.ll, h.ll, hr, by show R.left x ≤ (R.rows.take _).length; have := left_le R x; rw [List.length_take]; omega, fun i hi => ?_, fun i hi => ?_, fun i hi => ?_⟩
  · rcases ca i with z | ⟨r, q, e1, e2⟩
    · rw [z]; exact emp_ok
    · rw [e2]; exact (hr r q).2.1
  · show (at_ (R.crash x).hs i R.num).n ≤ R.lim.getD i 0
    have := h.cl i hi
    rcases ca i with z | ⟨r, q, e1, e2⟩
    · rw [z]; show (0 : Int) ≤ _; omega
    · rw [e2, ← e1]; exact (hr r q).2.2
  · have := h.cl i hi
    show 0 ≤ R.lim.getD i 0 ∧ R.lim.getD i 0 ≤ R.lim.getD i 0 ∧ R.lim.getD i 0 ≤ 255
    omega
theorem rowsK_mem {hs : List Sta} {r : KRow} (h : r ∈ rowsK hs) : r.1 < hs.length ∧ r.2 = at_ hs r.1 := by
  obtain ⟨k, hk, rfl⟩ := List.mem_map.mp h
  exact ⟨List.mem_range.mp (List.mem_filter.mp hk).1, rfl⟩
theorem RInv.pack {R : Rep} {n : Nat} (h : RInv R n) (x : Nat) : RInv (R.pack x) n := by
  unfold Rep.pack
  split
  · exact h.crash 0
  · refine ⟨h.lh, h.lc, h.ll, fun r hr => ?_, Nat.le_refl _, h.ok, h.seen, h.cl⟩
    obtain ⟨h1, h2⟩ := rowsK_mem hr
    rw [h.lh] at h1
    refine ⟨h1, by rw [h2]; exact h.ok _ h1, ?_⟩
    rw [h2]
    exact Int.le_trans (h.seen _ h1) (h.cl _ h1).2.1
theorem left_zero {R : Rep} {n : Nat} (h : RInv R n) : R.left 0 = R.sr := by unfold Rep.left; have := h.srl; omega
end Mu

namespace Mu
open PySem L2
local macro_rules | `(tactic| walk_at "sj1") => `(tactic| first
  | with_reducible refine i_seq ?_ | with_reducible refine i_bin ?_ | with_reducible refine i_var rfl ?_ | with_reducible refine i_c ?_ | with_reducible refine i_cons ?_ | with_reducible refine i_nil ?_
  | with_reducible refine i_call ?_ | with_reducible refine i_cb ?_ | with_reducible refine i_test ?_ | with_reducible refine i_bl ?_ | with_reducible refine i_asg ?_ | with_reducible refine i_gname ?_
  | with_reducible refine i_sif ?_ | with_reducible refine i_ret ?_ | with_reducible refine i_drop ?_ | with_reducible refine i_lm ?_ | with_reducible refine i_snil ?_ | with_reducible refine i_retN ?_
  | with_reducible refine i_tup ?_ | with_reducible refine j_lst ?_ | with_reducible refine i_and ?_ | with_reducible refine i_or ?_ | with_reducible refine i_not ?_ | with_reducible refine i_andV ?_ | with_reducible refine i_orV ?_
  | with_reducible refine i_notV ?_ | with_reducible refine i_if ?_ | with_reducible refine i_chain ?_ | with_reducible refine i_tru ?_ | with_reducible refine i_trub ?_ | with_reducible refine i_yes ?_ | with_reducible refine i_sl ?_
  | with_reducible refine i_ono ?_ | with_reducible refine i_oso ?_ | with_reducible refine i_ex_int ?_ | with_reducible refine i_break ?_ | with_reducible refine i_aug rfl ?_ | with_reducible refine i_gtup rfl ?_
  | with_reducible refine i_gscons ?_ | with_reducible refine i_gsnil ?_ | with_reducible refine i_gsub ?_ | with_reducible refine i_for ?_ | with_reducible refine j_lc ?_ | with_reducible refine i_iT ?_ | with_reducible refine i_iL ?_ | with_reducible refine i_iR1 ?_ | with_reducible refine i_iR2 ?_ | with_reducible refine i_iR3 ?_
  | with_reducible refine i_disp ?_ | with_reducible refine i_pnil ?_ | with_reducible refine i_pcons ?_
  | with_reducible refine i_dg ?_ | with_reducible refine i_din ?_ | with_reducible refine j_dnew ?_ | with_reducible refine i_dput ?_
  | with_reducible refine i_raise ?_ | with_reducible refine i_raiseK ?_ | with_reducible refine i_tryAs ?_ | with_reducible refine i_tryOnly ?_ | with_reducible refine i_err rfl ?_
  | with_reducible refine i_fld ?_ | with_reducible refine i_sfld ?_ | with_reducible refine i_meth ?_ | with_reducible refine i_new ?_ | with_reducible refine i_neg ?_
  | with_reducible refine i_add ?_ | with_reducible refine i_sub ?_ | with_reducible refine i_cmp ?_ | with_reducible refine i_int1 ?_ | with_reducible refine i_int2 ?_ | with_reducible refine i_isb ?_ | with_reducible refine i_eqi ?_ | with_reducible refine i_eqb ?_ | refine i_ixt rfl rfl ?_)
local macro_rules | `(tactic| walk_at "sj") => `(tactic| repeat (walk_at "sj1"))
local macro_rules | `(tactic| walk_at "tj") => `(tactic| repeat (first | walk_at "sj1" | refine i_len (Nat.le_of_ble_eq_true rfl) ?_))
/-! ## the law k14 -/
section
variable {L : List SP} {A : AHp}
theorem i_dgS {p : Addr} {kvs : List (Key × D)} {x : Str} {d : D} {P : D → Prop} (h : A p = some (.dk kvs)) (h2 : valD kvs (.inr x) = some d) (k : P d) : dgK (.ref p) (.str x) A P := ⟨p, kvs, .inr x, d, rfl, rfl, h, h2, k⟩
theorem jdputS (S : Hs L A) (n : Nat) {p : Addr} {kvs : List (Key × D)} {x : Str} {v : D} {P : AHp → Prop} (e : nth L n = pt p (.dk kvs)) (h2 : kvs.length < sizeLine) (k : ∀ A', Hs (setN L n (pt p (.dk (putKD kvs (.inr x) v)))) A' → P A') : dputK (.ref p) (.str x) v A P :=
  ⟨p, kvs, .inr x, rfl, rfl, (by have := S.at_ n; rw [e] at this; exact this), h2, k _ (S.setAt n _ e)⟩
abbrev wDk (h la li wa : Addr) : AO := .dk [(.inr "held", .ref h), (.inr "last", .ref la), (.inr "limit", .ref li), (.inr "waiting", .ref wa)]
theorem wDk_h {h la li wa : Addr} : valD [(.inr "held", .ref h), (.inr "last", .ref la), (.inr "limit", .ref li), (.inr "waiting", .ref wa)] (.inr "held") = some (D.ref h) := rfl
theorem wDk_la {h la li wa : Addr} : valD [(.inr "held", .ref h), (.inr "last", .ref la), (.inr "limit", .ref li), (.inr "waiting", .ref wa)] (.inr "last") = some (D.ref la) := rfl
theorem wDk_li {h la li wa : Addr} : valD [(.inr "held", .ref h), (.inr "last", .ref la), (.inr "limit", .ref li), (.inr "waiting", .ref wa)] (.inr "limit") = some (D.ref li) := rfl
theorem wDk_wa {h la li wa : Addr} : valD [(.inr "held", .ref h), (.inr "last", .ref la), (.inr "limit", .ref li), (.inr "waiting", .ref wa)] (.inr "waiting") = some (D.ref wa) := rfl
theorem put_h {h la li wa q : Addr} : putKD [(.inr "held", .ref h), (.inr "last", .ref la), (.inr "limit", .ref li), (.inr "waiting", .ref wa)] (.inr "held") (D.ref q) = [(.inr "held", .ref q), (.inr "last", .ref la), (.inr "limit", .ref li), (.inr "waiting", .ref wa)] := rfl
theorem put_la {h la li wa q : Addr} : putKD [(.inr "held", .ref h), (.inr "last", .ref la), (.inr "limit", .ref li), (.inr "waiting", .ref wa)] (.inr "last") (D.ref q) = [(.inr "held", .ref h), (.inr "last", .ref q), (.inr "limit", .ref li), (.inr "waiting", .ref wa)] := rfl
theorem put_wa {h la li wa q : Addr} : putKD [(.inr "held", .ref h), (.inr "last", .ref la), (.inr "limit", .ref li), (.inr "waiting", .ref wa)] (.inr "waiting") (D.ref q) = [(.inr "held", .ref h), (.inr "last", .ref la), (.inr "limit", .ref li), (.inr "waiting", .ref q)] := rfl
/-- what the law keeps -/
def LawS (wd : Addr) (hs : List Sta) (cnt lim : List Int) (n : Fin 4) (wait : List (Nat × Int × Int)) : SP := ex_ fun h => ex_ fun la => ex_ fun li => ex_ fun wa => Hp_ [pt wd (wDk h la li wa), pt h (.lst (hs.map stD)), pt la (IL cnt), pt li (IL lim), pt wa (.lst (wait.map (wD n)))]
theorem Hs.law {wd : Addr} {hs : List Sta} {cnt lim : List Int} {n : Fin 4} {wait : List (Nat × Int × Int)} (S : Hs (LawS wd hs cnt lim n wait :: L) A) : ∃ h la li wa, Hs (pt wd (wDk h la li wa) :: pt h (.lst (hs.map stD)) :: pt la (IL cnt) :: pt li (IL lim) :: pt wa (.lst (wait.map (wD n))) :: L) A := by
  obtain ⟨h, S⟩ := Hs.ex_iff.mp S
  obtain ⟨la, S⟩ := Hs.ex_iff.mp S
  obtain ⟨li, S⟩ := Hs.ex_iff.mp S
  obtain ⟨wa, S⟩ := Hs.ex_iff.mp S
  exact ⟨h, la, li, wa, S.open_⟩
theorem Hs.mkLaw {wd : Addr} {hs : List Sta} {cnt lim : List Int} {n : Fin 4} {wait : List (Nat × Int × Int)} {h la li wa : Addr} (S : Hs (pt wd (wDk h la li wa) :: pt h (.lst (hs.map stD)) :: pt la (IL cnt) :: pt li (IL lim) :: pt wa (.lst (wait.map (wD n))) :: L) A) : Hs (LawS wd hs cnt lim n wait :: L) A :=
  Hs.ex_iff.mpr ⟨h, Hs.ex_iff.mpr ⟨la, Hs.ex_iff.mpr ⟨li, Hs.ex_iff.mpr ⟨wa, Hs.close (R := [_, _, _, _, _]) S⟩⟩⟩⟩
end
theorem Hs.keep4 {A : AHp} {P1 P2 P3 P4 : SP} {L : List SP} (S : Hs (P1 :: P2 :: P3 :: P4 :: L) A) : Hs [P1, P2, P3, P4] A := by
  obtain ⟨hs, h1, h2, h3⟩ := S
  cases h1 with
  | cons r1 t => cases t with
    | cons r2 t => cases t with
      | cons r3 t => cases t with
        | cons r4 t =>
          rename_i k1 k2 k3 k4 ks
          exact ⟨[k1, k2, k3, k4], .cons r1 (.cons r2 (.cons r3 (.cons r4 .nil))), h2.sublist (by simp), fun h hh => h3 h (by simp only [List.mem_cons, List.not_mem_nil, or_false] at hh ⊢; rcases hh with z | z | z | z <;> simp [z])⟩
/-! ### what a cut disk holds -/
def sp_q_after : ASp := fun ds A Q _ => ∃ (a : Addr) (bs : List Int) (n : Nat) (rows : List KRow) (L : List SP), ds = [.ref a, .int (n : Int)] ∧ n ≤ 64 ∧ Recs (n : Int) bs (rows.map rI) ∧ (∀ r ∈ rows, r.1 < n) ∧ (∀ b ∈ bs, 0 ≤ b) ∧ bs.length ≤ 10000000 ∧ Hs (pt a (IL bs) :: L) A ∧
  ∀ q A', Hs (pt q (.lst ((putAll (List.replicate n emp) rows).map stD)) :: pt a (IL bs) :: L) A' → Q (.ref q) A'
def T_q_after : TSA := sSeq (sSet 2 (xBin mulA (xLst (xsCons (xC k_EMPTY) (xsNil))) (xVar 1))) (sSeq (sFor (iL (xCall sp_recover (xsCons (xVar 0) (xsCons (xVar 1) (xsNil))))) (gTup 2 (gsCons (gName 3) (gsCons (gName 4) (gsNil)))) (sAsg (xVar 4) (gSubL (xVar 2) (xVar 3)))) (sRet (xVar 2)))
theorem l_q_after : ∀ ds A Q E, sp_q_after ds A Q E → ds.length = ["_law_data", "_law_size"].length := by
  rintro ds A Q E ⟨a, bs, n, rows, L, rfl, _⟩; rfl
theorem emps (m : Nat) : (List.replicate ((m : Int)).toNat [k_EMPTY]).flatten = (List.replicate m emp).map stD := by
  rw [Int.toNat_natCast]
  induction m with
  | zero => rfl
  | succ m ih => rw [List.replicate_succ, List.flatten_cons, ih, List.replicate_succ]; rfl
theorem w_q_after : ∀ ds A Q E, sp_q_after ds A Q E → T_q_after (fun _ c pl A' => E c pl A') (bodyE Q) (envA 5 ds) A := by
  rintro ds A Q E ⟨a, bs, n, rows, L, rfl, n64, rc, rk, nn, lb, S, h⟩
  unfold T_q_after
  walk_at "tj"
  refine jnew S fun z A1 S => ?_
  walk_at "sj"
  refine jmul (S.at_ 0) (Int.natCast_nonneg _) (by omega) (by rw [Int.toNat_natCast, sizeLine_eq]; simp; omega) ?_
  rw [emps]
  refine jnew S fun hd A2 S => ?_
  walk_at "sj"
  refine ⟨a, bs, n, _, rfl, S.f 2, nn, lb, fun rs hr q A3 S => ?_, fun nm hb => (rc.notBad hb).elim⟩
  have := rc.det hr
  subst this
  rw [rowD_rI] at S
  have S : Hs (pt q (.lst (rows.map kD_)) :: pt a (IL bs) :: pt hd (.lst ((List.replicate n emp).map stD)) :: pt z _ :: L) A3 := S
  refine i_iL_l (S.at_ 0) ?_
  refine for_rule (f := kD_) (fun pre ρ A' => ∃ o3 o4, ρ = [some (.ref a), some (.int (n : Int)), some (.ref hd), o3, o4] ∧ Hs (pt q (.lst (rows.map kD_)) :: pt a (IL bs) :: pt hd (.lst ((putAll (List.replicate n emp) pre).map stD)) :: pt z _ :: L) A') rows (fun _ _ _ ⟨_, _, _, S⟩ => S.at_ 0)
    (fun pre r post e ρ A1 hI NX nx => ?step) (fun ρ A1 hI => ?fin) ⟨none, none, rfl, S⟩
  case step =>
    obtain ⟨o3, o4, rfl, S⟩ := hI
    obtain ⟨k, s⟩ := r
    have hk : k < n := rk (k, s) (by rw [e]; simp)
    refine i_gtup rfl ?_
    walk_at "sj"
    refine jgsub S 2 rfl (ixN_nat (by rw [List.length_map, putAll_len, List.length_replicate]; exact hk)) fun A4 S => ?_
    refine nx _ _ ⟨_, _, rfl, ?_⟩
    rw [putAll_snoc, List.map_set]
    exact S
  obtain ⟨o3, o4, rfl, S⟩ := hI
  walk_at "sj"
  exact h hd _ (S.pick 4 [2, 1])
/-! ### a write that is refused, a write -/
def sp_q_full : ASp := fun ds A Q _ => ∃ (p : Addr) (R : Rep) (L : List SP) (n k : Nat) (sn : Fin 4 → Int), ds = [.ref p, .int (k : Int), seenD sn] ∧ RInv R n ∧ k < n ∧ SnOk sn ∧ 255 < R.nextC k ∧ R.rows.length ≤ 100000 ∧ R.wait.length ≤ 100000 ∧ Hs (RepS p R :: L) A ∧ ∀ A', Hs (RepS p R :: L) A' → Q (.bl true) A'
def T_q_full : TSA := sSeq (sTryAs 3 "Full" (sDrop (xMeth "Replica" "write" sp_Replica_write (xVar 0) (xsCons (xVar 1) (xsCons (xC (.int 7)) (xsCons (xVar 2) (xsNil)))))) (fun a pl => sRet (xBin (eqA id) (xErr 3 a pl) (xC (.str "count"))))) (sRet (xC (.bl false)))
theorem l_q_full : ∀ ds A Q E, sp_q_full ds A Q E → ds.length = ["_law_replica", "_law_key", "_law_seen"].length := by
  rintro ds A Q E ⟨p, R, L, n, k, sn, rfl, _⟩; rfl
theorem w_q_full : ∀ ds A Q E, sp_q_full ds A Q E → T_q_full (fun _ c pl A' => E c pl A') (bodyE Q) (envA 4 ds) A := by
  rintro ds A Q E ⟨p, R, L, n, k, sn, rfl, I, hk, okn, gt, z1, z2, S, h⟩
  unfold T_q_full
  walk_at "sj"
  refine jmethS S 0 rfl (fun _ _ _ _ _ _ => rfl) ?_
  walk_at "sj"
  refine ⟨p, R, L, k, 7, sn, rfl, by rw [I.lh]; exact hk, by rw [I.lh, I.lc], by rw [I.lh, I.ll], okn, by decide, by decide, I.seen k hk, z1, z2, S, fun le => absurd gt (by omega), fun _ => ⟨rfl, fun ad nad => ?_⟩⟩
  walk_at "sj"
  refine i_eqE (cmp_str (by decide +kernel)) ?_
  exact h _ S
def sp_q_write : ASp := fun ds A Q _ => ∃ (p wd : Addr) (R : Rep) (L : List SP) (n k : Nat) (v : Int) (sn : Fin 4 → Int), ds = [.ref p, .int (R.num.val : Int), .ref wd, .int (k : Int), .int v, seenD sn] ∧ RInv R n ∧ k < n ∧ SnOk sn ∧ sn R.num ≤ R.cnt.getD k 0 ∧ 0 ≤ v ∧ v ≤ 255 ∧ R.rows.length ≤ 100000 ∧ R.wait.length ≤ 100000 ∧
  Hs (RepS p R :: LawS wd R.hs R.cnt R.lim R.num R.wait :: L) A ∧
  ∀ R' A', (R' = R ∨ (R' = R.write k v sn ∧ R.nextC k ≤ 255)) → Hs (RepS p R' :: LawS wd R'.hs R'.cnt R'.lim R'.num R'.wait :: L) A' → Q (.bl true) A'
def T_q_write : TSA := sSeq (sSet 6 (xBin addA (xBin ixB (xDg (xVar 2) (xC (.str "last"))) (xVar 3)) (xC (.int 1)))) (sSeq (sIf (xTest (xBin gtA (xVar 6) (xC (.int 255)))) (sRet (xCall sp_q_full (xsCons (xVar 0) (xsCons (xVar 3) (xsCons (xVar 5) (xsNil)))))) (sNil)) (sSeq (sIf (xTest (xBin (eqA not) (xMeth "Replica" "write" sp_Replica_write (xVar 0) (xsCons (xVar 3) (xsCons (xVar 4) (xsCons (xVar 5) (xsNil))))) (xTup (xsCons (xVar 1) (xsCons (xVar 6) (xsCons (xVar 4) (xsNil))))))) (sRet (xC (.bl false))) (sNil)) (sSeq (sAsg (xVar 6) (gSubL (xDg (xVar 2) (xC (.str "last"))) (xVar 3))) (sSeq (sIf (xTest (xBin gtA (xVar 6) (xBin ixB (xDg (xVar 2) (xC (.str "limit"))) (xVar 3)))) (sAsg (xCB (int2A minI) (xsCons (xC (.int 255)) (xsCons (xBin addA (xVar 6) (xC (.int 8))) (xsNil)))) (gSubL (xDg (xVar 2) (xC (.str "limit"))) (xVar 3))) (sNil)) (sSeq (sSet 7 (xBin ixB (xDg (xVar 2) (xC (.str "held"))) (xVar 3))) (sSeq (sSet 8 (xLc 9 (iT (xBin ixB (xVar 7) (xC (.int 1)))) (xAnd (xTest (xBin (eqA not) (xBin ixB (xVar 9) (xC (.int 0))) (xVar 1))) (xTest (xBin gtA (xBin ixB (xVar 9) (xC (.int 1))) (xBin ixB (xVar 5) (xBin ixB (xVar 9) (xC (.int 0))))))) (xVar 9))) (sSeq (sSet 10 (xLc 11 (iR1 (xsCons (xC (.int 4)) (xsNil))) xYes (xCB (int2A maxI) (xsCons (xBin ixB (xBin ixB (xVar 7) (xC (.int 0))) (xVar 11)) (xsCons (xBin ixB (xVar 5) (xVar 11)) (xsNil)))))) (sSeq (sAsg (xVar 6) (gSubL (xVar 10) (xVar 1))) (sSeq (sAsg (xTup (xsCons (xCB tupA (xsCons (xVar 10) (xsNil))) (xsCons (xCB tupA (xsCons (xCB (srtA 3 256) (xsCons (xBin addA (xVar 8) (xLst (xsCons (xTup (xsCons (xVar 1) (xsCons (xVar 6) (xsCons (xVar 4) (xsNil))))) (xsNil)))) (xsNil))) (xsNil))) (xsNil)))) (gSubL (xDg (xVar 2) (xC (.str "held"))) (xVar 3))) (sSeq (sDrop (xLM appA (xDg (xVar 2) (xC (.str "waiting"))) (xsCons (xTup (xsCons (xVar 3) (xsCons (xTup (xsCons (xVar 1) (xsCons (xVar 6) (xsCons (xVar 4) (xsNil))))) (xsNil)))) (xsNil)))) (sRet (xC (.bl true)))))))))))))
theorem l_q_write : ∀ ds A Q E, sp_q_write ds A Q E → ds.length = ["_law_replica", "_law_number", "_law_w", "_law_key", "_law_value", "_law_seen"].length := by
  rintro ds A Q E ⟨p, wd, R, L, n, k, v, sn, rfl, _⟩; rfl
set_option maxHeartbeats 4000000 in
theorem w_q_write : ∀ ds A Q E, sp_q_write ds A Q E → T_q_write (fun _ c pl A' => E c pl A') (bodyE Q) (envA 12 ds) A := by
  rintro ds A Q E ⟨p, wd, R, L, n, k, v, sn, rfl, I, hk, okn, hn, v0, v1, z1, z2, S, h⟩
  have kh : k < R.hs.length := by rw [I.lh]; exact hk
  have kc : k < R.cnt.length := by rw [I.lc]; exact hk
  have kl : k < R.lim.length := by rw [I.ll]; exact hk
  have cl := I.cl k hk
  have okS := I.ok k hk
  have sk := I.seen k hk
  obtain ⟨hd, la, li, wa, S⟩ := (S.f 1).law
  have S := S.pick 6 [5, 0, 1, 2, 3, 4]
  have S : Hs (RepS p R :: pt wd (wDk hd la li wa) :: pt hd (.lst (R.hs.map stD)) :: pt la (IL R.cnt) :: pt li (IL R.lim) :: pt wa (.lst (R.wait.map (wD R.num))) :: L) A := S
  unfold T_q_write
  walk_at "sj"
  refine i_dgS (S.at_ 1) wDk_la ?_
  walk_at "sj"
  refine i_ixl (S.at_ 3) (bsAt kc) ?_
  walk_at "sj"
  refine i_two (fun hb => ?_) (fun hb => ?_)
  · have gt : 255 < R.nextC k := of_decide_eq_true hb
    walk_at "sj"
    refine ⟨p, R, _, n, k, sn, rfl, I, hk, okn, gt, z1, z2, S, fun A1 S => ?_⟩
    exact h R A1 (.inl rfl) ((Hs.mkLaw (S.pick 6 [1, 2, 3, 4, 5, 0])).perm (.swap _ _ _))
  have le : R.nextC k ≤ 255 := Int.not_lt.mp (of_decide_eq_false hb)
  have h := fun A' => h (R.write k v sn) A' (.inr ⟨rfl, le⟩)
  walk_at "sj"
  refine jmethS S 0 rfl (fun _ _ _ _ _ _ => rfl) ?_
  walk_at "sj"
  refine ⟨p, R, _, k, v, sn, rfl, kh, by rw [I.lh, I.lc], by rw [I.lh, I.ll], okn, v0, v1, sk, z1, z2, S, fun _ A1 S => ?_, fun gt => absurd gt (by omega)⟩
  walk_at "tj"
  have ec : R.cnt.getD k 0 + 1 = R.nextC k := rfl
  rw [ec]
  refine i_eqE (show Cmp (tI [(R.num.val : Int), R.nextC k, v]) from cmp_tI _) ?_
  walk_at "sj"
  refine i_twoF rfl ?_
  walk_at "sj"
  refine i_dgS (S.at_ 1) wDk_la ?_
  walk_at "sj"
  refine jgsub S 3 rfl (ixN_nat (by rw [List.length_map]; exact kc)) fun A2 S => ?_
  rw [setI] at S
  let I2 : AEnv → AHp → Prop := fun ρ A' => ρ = [some (.ref p), some (.int (R.num.val : Int)), some (.ref wd), some (.int (k : Int)), some (.int v), some (seenD sn), some (.int (R.nextC k)), none, none, none, none, none] ∧
    Hs (RepS p (R.write k v sn) :: pt wd (wDk hd la li wa) :: pt hd (.lst (R.hs.map stD)) :: pt la (IL (R.cnt.set k (R.nextC k))) :: pt li (IL (R.nextL k)) :: pt wa (.lst (R.wait.map (wD R.num))) :: L) A'
  with_reducible refine i_cut I2 ?cut ?main
  case cut =>
    intro NX2 nx2
    walk_at "sj"
    refine i_dgS (S.at_ 1) wDk_li ?_
    walk_at "sj"
    refine i_ixl (S.at_ 4) (bsAt kl) ?_
    walk_at "sj"
    refine i_two (fun hb => ?_) (fun hb => ?_)
    · have lt : R.lim.getD k 0 < R.nextC k := of_decide_eq_true hb
      have en : R.nextL k = R.lim.set k (minI 255 (R.nextC k + 8)) := if_pos lt
      walk_at "sj"
      refine i_dgS (S.at_ 1) wDk_li ?_
      walk_at "sj"
      refine jgsub S 4 rfl (ixN_nat (by rw [List.length_map]; exact kl)) fun A3 S => ?_
      rw [setI] at S
      refine nx2 _ _ ⟨rfl, ?_⟩
      rw [en]; exact S
    · have nl : ¬ R.lim.getD k 0 < R.nextC k := of_decide_eq_false hb
      have en : R.nextL k = R.lim := if_neg nl
      walk_at "sj"
      refine nx2 _ _ ⟨rfl, ?_⟩
      rw [en]; exact S
  rintro ρ A3 ⟨rfl, S⟩
  walk_at "sj"
  refine i_dgS (S.at_ 1) wDk_h ?_
  walk_at "sj"
  refine i_ixl (S.at_ 2) (held_at kh) ?_
  walk_at "sj"
  refine i_iTK rfl ?_
  refine lc_rule (f := tI) (r := tI) (p := fun x => !decide (x.getD 0 0 = (R.num.val : Int)) && !decide (x.getD 1 0 ≤ sn ⟨(x.getD 0 0).toNat % 4, Nat.mod_lt _ (by decide)⟩)) (I := fun _ A' => A' = A3) (vers (at_ R.hs k)) (Nat.le_trans (versOf_len _) (by decide)) (fun _ _ _ => trivial) (fun pre x post e A1 e1 K1 K2 k1 k2 => ?step) (fun A1 e1 => ?next) rfl
  case step =>
    subst e1
    have hx : x ∈ vers (at_ R.hs k) := by rw [e]; simp
    obtain ⟨j, c', w', rfl, hv⟩ := mem_vers hx
    rw [finOf] at k1 k2
    have e1 : ([(j.val : Int), c', w'] : List Int).getD 0 0 = (j.val : Int) := rfl
    have e2 : ([(j.val : Int), c', w'] : List Int).getD 1 0 = c' := rfl
    rw [e1, e2] at k1 k2
    walk_at "sj"
    refine i_two (fun h2 => ?_) (fun h2 => ?_)
    · have ne : ¬ (j.val : Int) = (R.num.val : Int) := by simpa using h2
      rw [decide_eq_false ne] at k1 k2
      walk_at "sj"
      refine i_ixt rfl (at4 sn j) ?_
      walk_at "sj"
      refine i_two (fun h3 => ?_) (fun h3 => ?_)
      · have := of_decide_eq_true h3
        walk_at "sj"
        exact k1 (by rw [decide_eq_false (by omega)]; rfl) _ rfl
      · have := of_decide_eq_false h3
        exact k2 (by rw [decide_eq_true (by omega)]; rfl) _ rfl
    · have eq : (j.val : Int) = (R.num.val : Int) := by simpa using h2
      refine i_twoF rfl ?_
      exact k2 (by rw [decide_eq_true eq]; rfl) _ rfl
  subst e1
  rw [drop_versR]
  refine jnew S fun stays A4 S => ?_
  walk_at "sj"
  refine i_iR1K (by decide) (by decide) ?_
  rw [rng4]
  refine lc_map (fun j : Fin 4 => D.int (j.val : Int)) (fun j => D.int (imax (seen (at_ R.hs k) j) (sn j))) (fun _ A' => A' = A4) f4 (by decide) (fun _ _ _ => trivial) (fun pre j post e A1 eA K1 k1 => ?both) (fun A1 eA => ?next2) rfl
  case both =>
    subst eA
    walk_at "sj"
    refine i_ixt rfl (at4 (seen (at_ R.hs k)) j) ?_
    walk_at "sj"
    refine i_ixt rfl (at4 sn j) ?_
    walk_at "sj"
    exact k1 _ rfl
  subst eA
  refine jnew S fun both A5 S => ?_
  walk_at "sj"
  refine jgsub S 0 rfl (ixN_nat (show R.num.val < 4 from R.num.isLt)) fun A6 S => ?_
  walk_at "sj"
  refine i_tupl (S.at_ 0) ?_
  walk_at "tj"
  refine jnew S fun one A7 S => ?_
  have lv := versOf_len fun j => if j = R.num then none else drp (sn j) (at_ R.hs k j).v
  refine jcat (S.at_ 2) (S.at_ 0) (by simp only [List.length_map, List.length_cons, List.length_nil]; rw [sizeLine_eq]; omega) ?_
  have el : (versOf fun j => if j = R.num then none else drp (sn j) (at_ R.hs k j).v).map tI ++ [D.tup [.int (R.num.val : Int), .int (R.nextC k), .int v]] = ((versOf fun j => if j = R.num then none else drp (sn j) (at_ R.hs k j).v) ++ [[(R.num.val : Int), R.nextC k, v]]).map tI := by
    rw [List.map_append]; rfl
  rw [el]
  refine jnew S fun all A8 S => ?_
  have okN : StOk (R.newS k v sn) := wrS_ok okS okn (by have : R.nextC k = R.cnt.getD k 0 + 1 := rfl; omega) le v0 v1
  have pm := perm_wr (fun j => if j = R.num then none else drp (sn j) (at_ R.hs k j).v) R.num (R.nextC k) v (if_pos rfl)
  have ev : (versOf fun j => if j = R.num then some (R.nextC k, v) else if j = R.num then none else drp (sn j) (at_ R.hs k j).v) = vers (R.newS k v sn) := by
    unfold vers Rep.newS
    congr 1
    funext j
    unfold wrS
    by_cases e : j = R.num
    · rw [if_pos e, if_pos e]
    · rw [if_neg e, if_neg e, if_neg e]
  rw [ev] at pm
  have bd := vers_bd okN
  walk_at "sj"
  refine jsrt (S.at_ 0) ?_ (fun ns hns => bd ns (pm.subset hns)) fun nss' p2 pw => ?_
  · rw [pm.length_eq]; exact Nat.lt_of_le_of_lt (versOf_len _) (by decide)
  have e5 : nss' = vers (R.newS k v sn) := sorted_vers pm p2 pw bd
  subst e5
  refine jnew S fun srt A9 S => ?_
  walk_at "sj"
  refine i_tupl (S.at_ 0) ?_
  walk_at "tj"
  refine i_dgS (S.at_ 6) wDk_h ?_
  walk_at "sj"
  have es : D.tup [.tup ((f4.map fun j => D.int (imax (seen (at_ R.hs k) j) (sn j))).set R.num.val (.int (R.nextC k))), .tup ((vers (R.newS k v sn)).map tI)] = stD (R.newS k v sn) := by
    have : D.tup ((f4.map fun j => D.int (imax (seen (at_ R.hs k) j) (sn j))).set R.num.val (.int (R.nextC k))) = seenD (seen (R.newS k v sn)) := by
      have hh : ∀ j, seen (R.newS k v sn) j = if j = R.num then R.nextC k else imax (at_ R.hs k j).n (sn j) := fun j => by
        by_cases e : j = R.num
        · subst e
          rw [if_pos rfl]
          have : R.nextC k = R.cnt.getD k 0 + 1 := rfl
          exact wr_n (by omega) (by omega)
        · rw [if_neg e]
          show (wrS _ _ _ _ _ j).n = _
          unfold wrS; rw [if_neg e]
      have : R.num = 0 ∨ R.num = 1 ∨ R.num = 2 ∨ R.num = 3 := by
        match R.num with
        | 0 => exact .inl rfl
        | 1 => exact .inr (.inl rfl)
        | 2 => exact .inr (.inr (.inl rfl))
        | 3 => exact .inr (.inr (.inr rfl))
      simp only [seenD, hh]
      rcases this with e | e | e | e <;> rw [e] <;> rfl
    rw [this]; rfl
  rw [es]
  refine jgsub S 7 rfl (ixN_nat (by rw [List.length_map]; exact kh)) fun A10 S => ?_
  walk_at "sj"
  refine i_dgS (S.at_ 6) wDk_wa ?_
  refine i_lsr (S.at_ 10) ?_
  walk_at "tj"
  refine japp S 10 rfl (by rw [List.length_map, sizeLine_eq]; omega) fun A11 S => ?_
  walk_at "sj"
  have ew : R.wait.map (wD R.num) ++ [wD R.num (k, R.nextC k, v)] = (R.write k v sn).wait.map (wD R.num) := by
    show _ = (R.wait ++ [(k, R.nextC k, v)]).map (wD R.num); rw [List.map_append]; rfl
  have S := S.pick 11 [5, 6, 7, 8, 9, 10]
  have S : Hs (RepS p (R.write k v sn) :: pt wd (wDk hd la li wa) :: pt hd (.lst ((R.hs.map stD).set k (stD (R.newS k v sn)))) :: pt la (IL (R.write k v sn).cnt) :: pt li (IL (R.write k v sn).lim) :: pt wa (.lst (R.wait.map (wD R.num) ++ [wD R.num (k, R.nextC k, v)])) :: L) A11 := S
  rw [ew, show (R.hs.map stD).set k (stD (R.newS k v sn)) = (R.write k v sn).hs.map stD from (List.map_set ..).symm] at S
  exact h A11 ((Hs.mkLaw (S.pick 6 [1, 2, 3, 4, 5, 0])).perm (.swap _ _ _))
/-! ### crashes, packing -/
def sp_q_crashed : ASp := fun ds A Q _ => ∃ (wd a : Addr) (bs : List Int) (n : Nat) (rows : List KRow) (hs : List Sta) (cnt lim : List Int) (nm : Fin 4) (wait : List (Nat × Int × Int)) (L : List SP), ds = [.ref wd, .ref a, .int (n : Int)] ∧ n ≤ 64 ∧ Recs (n : Int) bs (rows.map rI) ∧ (∀ r ∈ rows, r.1 < n) ∧ (∀ b ∈ bs, 0 ≤ b) ∧ bs.length ≤ 10000000 ∧
  Hs (LawS wd hs cnt lim nm wait :: pt a (IL bs) :: L) A ∧ ∀ A', Hs (LawS wd (putAll (List.replicate n emp) rows) lim lim nm [] :: pt a (IL bs) :: L) A' → Q .non A'
def T_q_crashed : TSA := sSeq (sDput (xVar 0) (xC (.str "held")) (xCall sp_q_after (xsCons (xVar 1) (xsCons (xVar 2) (xsNil))))) (sSeq (sDput (xVar 0) (xC (.str "last")) (xCB lstA (xsCons (xDg (xVar 0) (xC (.str "limit"))) (xsNil)))) (sDput (xVar 0) (xC (.str "waiting")) (xLst (xsNil))))
theorem l_q_crashed : ∀ ds A Q E, sp_q_crashed ds A Q E → ds.length = ["_law_w", "_law_data", "_law_size"].length := by
  rintro ds A Q E ⟨wd, a, bs, n, rows, hs, cnt, lim, nm, wait, L, rfl, _⟩; rfl
theorem w_q_crashed : ∀ ds A Q E, sp_q_crashed ds A Q E → T_q_crashed (fun _ c pl A' => E c pl A') (bodyE Q) (envA 3 ds) A := by
  rintro ds A Q E ⟨wd, a, bs, n, rows, hs, cnt, lim, nm, wait, L, rfl, n64, rc, rk, nn, lb, S, h⟩
  obtain ⟨hd, la, li, wa, S⟩ := S.law
  unfold T_q_crashed
  walk_at "sj"
  refine ⟨a, bs, n, rows, _, rfl, n64, rc, rk, nn, lb, S.f 5, fun q A1 S => ?_⟩
  walk_at "sj"
  refine jdputS S 2 rfl (by rw [sizeLine_eq]; exact (by decide : 4 < 16777216)) fun A2 S => ?_
  rw [put_h] at S
  walk_at "sj"
  refine i_dgS (S.at_ 2) wDk_li ?_
  walk_at "sj"
  refine jlist (S.at_ 5) ?_
  refine jnew S fun q2 A3 S => ?_
  walk_at "sj"
  refine jdputS S 3 rfl (by rw [sizeLine_eq]; exact (by decide : 4 < 16777216)) fun A4 S => ?_
  rw [put_la] at S
  walk_at "tj"
  refine jnew S fun q3 A5 S => ?_
  walk_at "sj"
  refine jdputS S 4 rfl (by rw [sizeLine_eq]; exact (by decide : 4 < 16777216)) fun A6 S => ?_
  rw [put_wa] at S
  exact h A6 (Hs.mkLaw (wait := []) (S.pick 9 [4, 2, 1, 7, 0, 3]))
def sp_q_crash : ASp := fun ds A Q _ => ∃ (p wd : Addr) (R : Rep) (L : List SP) (n x : Nat), ds = [.ref p, .ref wd, .int (x : Int), .int (n : Int)] ∧ RInv R n ∧ n ≤ 64 ∧ R.rows.length ≤ 100000 ∧ Hs (RepS p R :: LawS wd R.hs R.cnt R.lim R.num R.wait :: L) A ∧
  ∀ A', Hs (RepS p (R.crash x) :: LawS wd (R.crash x).hs (R.crash x).cnt (R.crash x).lim (R.crash x).num (R.crash x).wait :: L) A' → Q (.bl true) A'
def T_q_crash : TSA := sSeq (sSet 4 (xSl (xFld "Disk" (xFld "Replica" (xVar 0) "disk") "data") (oNone) (oSome (xCB (int2A minI) (xsCons (xCB lenA (xsCons (xFld "Disk" (xFld "Replica" (xVar 0) "disk") "data") (xsNil))) (xsCons (xBin addA (xFld "Disk" (xFld "Replica" (xVar 0) "disk") "safe") (xVar 2)) (xsNil))))))) (sSeq (sDrop (xCall sp_q_crashed (xsCons (xVar 1) (xsCons (xVar 4) (xsCons (xVar 3) (xsNil)))))) (sSeq (sSet 5 (xCB lenA (xsCons (xCall sp_recover (xsCons (xVar 4) (xsCons (xVar 3) (xsNil)))) (xsNil)))) (sRet (xAndV (xBin (eqA id) (xMeth "Replica" "crash" sp_Replica_crash (xVar 0) (xsCons (xVar 2) (xsNil))) (xVar 5)) (xBin (eqA id) (xCB lenA (xsCons (xFld "Disk" (xFld "Replica" (xVar 0) "disk") "data") (xsNil))) (xBin mulA (xC (.int 20)) (xVar 5)))))))
theorem l_q_crash : ∀ ds A Q E, sp_q_crash ds A Q E → ds.length = ["_law_replica", "_law_w", "_law_left", "_law_size"].length := by
  rintro ds A Q E ⟨p, wd, R, L, n, x, rfl, _⟩; rfl
theorem RInv.cut {R : Rep} {n : Nat} (I : RInv R n) (n64 : n ≤ 64) (c : Nat) : Recs (n : Int) ((kb R.rows).take c) ((R.rows.take (c / 20)).map rI) ∧ (∀ r ∈ R.rows.take (c / 20), r.1 < n) ∧ ∀ b ∈ (kb R.rows).take c, 0 ≤ b := by
  have ri : ∀ r ∈ R.rows, r.1 < n ∧ StOk r.2 := fun r hr => ⟨(I.rows r hr).1, (I.rows r hr).2.1⟩
  exact ⟨kb_recs ri c, fun r hr => (ri r (List.mem_of_mem_take hr)).1, fun b hb => kb_nn n64 ri b (List.mem_of_mem_take hb)⟩
theorem crash_rows (R : Rep) (x : Nat) : ((R.crash x).rows).length = R.left x := by
  show (R.rows.take (R.left x)).length = _
  have := left_le R x
  rw [List.length_take]; omega
set_option maxHeartbeats 1000000 in
theorem w_q_crash : ∀ ds A Q E, sp_q_crash ds A Q E → T_q_crash (fun _ c pl A' => E c pl A') (bodyE Q) (envA 6 ds) A := by
  rintro ds A Q E ⟨p, wd, R, L, n, x, rfl, I, n64, hz, S, h⟩
  obtain ⟨st, dk, w, c, l, S⟩ := S.rep
  obtain ⟨da, S⟩ := (S.f 2).disk
  have S : Hs (pt dk (.ins "Disk" [("data", .ref da), ("safe", .int ((20 * R.sr : Nat) : Int))]) :: pt da (IL (kb R.rows)) :: pt p (repF R.num st dk w c l) :: StoreS st R.hs :: pt w (.lst (R.wait.map (wD R.num))) :: pt c (IL R.cnt) :: pt l (IL R.lim) :: LawS wd R.hs R.cnt R.lim R.num R.wait :: L) A := S
  unfold T_q_crash
  walk_at "sj"
  refine i_fldK (S.at_ 2) rfl ?_
  refine i_fldK (S.at_ 0) rfl ?_
  walk_at "sj"
  refine i_fldK (S.at_ 2) rfl ?_
  refine i_fldK (S.at_ 0) rfl ?_
  walk_at "sj"
  refine i_lenl (S.at_ 1) ?_
  rw [List.length_map, kb_len]
  walk_at "sj"
  refine i_fldK (S.at_ 2) rfl ?_
  refine i_fldK (S.at_ 0) rfl ?_
  walk_at "sj"
  rw [show ((20 * R.sr : Nat) : Int) + (x : Int) = ((20 * R.sr + x : Nat) : Int) by omega, minI_nat]
  refine jslL (S.at_ 1) ?_
  rw [cut_take, ← List.map_take]
  obtain ⟨rc, rk, nn⟩ := I.cut n64 (min (20 * R.rows.length) (20 * R.sr + x))
  have lc : ((kb R.rows).take (min (20 * R.rows.length) (20 * R.sr + x))).length ≤ 10000000 := by rw [List.length_take, kb_len]; omega
  have el : min (20 * R.rows.length) (20 * R.sr + x) / 20 = R.left x := rfl
  rw [el] at rc rk
  generalize (kb R.rows).take (min (20 * R.rows.length) (20 * R.sr + x)) = cb at rc nn lc ⊢
  refine jnew S fun a A1 S => ?_
  walk_at "sj"
  refine ⟨wd, a, cb, n, R.rows.take (R.left x), _, _, _, _, _, _, rfl, n64, rc, rk, nn, lc, S.pick 9 [8, 0, 1, 2, 3, 4, 5, 6, 7], fun A2 S => ?_⟩
  walk_at "sj"
  refine ⟨a, cb, (n : Int), _, rfl, S.f 1, nn, lc, fun rs hr q A3 S => ?_, fun nm hb => (rc.notBad hb).elim⟩
  have := rc.det hr
  subst this
  walk_at "sj"
  refine i_lenl (S.at_ 0) ?_
  have lt : (R.rows.take (R.left x)).length = R.left x := crash_rows R x
  rw [List.length_map, List.length_map, lt]
  walk_at "sj"
  have S := S.pick 10 [3, 4, 5, 6, 7, 8, 9, 2]
  have S := Hs.mkDisk S
  have S : Hs (DiskB dk (kb R.rows) (20 * R.sr) :: pt p (repF R.num st dk w c l) :: StoreS st R.hs :: pt w (.lst (R.wait.map (wD R.num))) :: pt c (IL R.cnt) :: pt l (IL R.lim) :: LawS wd (putAll (List.replicate n emp) (R.rows.take (R.left x))) R.lim R.lim R.num [] :: L) A3 := S
  refine jmethR S 1 rfl (fun _ _ _ _ _ _ => rfl) ?_
  walk_at "sj"
  refine ⟨p, R, _, x, rfl, I.rowsIn, hz, Hs.mkRep (S.pick 6 [1, 2, 0, 3, 4, 5]), fun A4 S => ?_⟩
  rw [crash_rows]
  walk_at "sj"
  refine i_twoT (by simp) ?_
  walk_at "sj"
  obtain ⟨st2, dk2, w2, c2, l2, S⟩ := S.rep
  obtain ⟨da2, S⟩ := (S.f 2).disk
  have S : Hs (pt dk2 (.ins "Disk" [("data", .ref da2), ("safe", .int ((20 * (R.crash x).sr : Nat) : Int))]) :: pt da2 (IL (kb (R.crash x).rows)) :: pt p (repF R.num st2 dk2 w2 c2 l2) :: StoreS st2 (R.crash x).hs :: pt w2 (.lst ((R.crash x).wait.map (wD R.num))) :: pt c2 (IL (R.crash x).cnt) :: pt l2 (IL R.lim) :: LawS wd (putAll (List.replicate n emp) (R.rows.take (R.left x))) R.lim R.lim R.num [] :: L) A4 := S
  refine i_fldK (S.at_ 2) rfl ?_
  refine i_fldK (S.at_ 0) rfl ?_
  walk_at "sj"
  refine i_lenl (S.at_ 1) ?_
  rw [List.length_map, kb_len, crash_rows]
  walk_at "sj"
  refine i_mul (.inl (.inl ⟨by decide, by decide⟩)) ?_
  walk_at "sj"
  rw [show ((((20 * R.left x : Nat) : Int)) == 20 * (R.left x : Int)) = true from by rw [beq_iff_eq]; omega]
  have S := Hs.mkRep (R := R.crash x) ((Hs.mkDisk S).pick 6 [1, 2, 0, 3, 4, 5])
  refine h A4 ?_
  have e : (R.crash x).hs = putAll (List.replicate n emp) (R.rows.take (R.left x)) := by show putAll (List.replicate R.hs.length emp) _ = _; rw [I.lh]
  rw [e]
  exact S
def sp_q_pack : ASp := fun ds A Q _ => ∃ (p wd b : Addr) (R : Rep) (L : List SP) (n x : Nat), ds = [.ref p, .ref wd, .int (x : Int), .ref b, .int (n : Int)] ∧ RInv R n ∧ n ≤ 64 ∧ R.rows.length ≤ 100000 ∧ Hs (RepS p R :: LawS wd R.hs R.cnt R.lim R.num R.wait :: pt b (IL (kb (R.rows.take R.sr))) :: L) A ∧
  ∀ A', Hs (RepS p (R.pack x) :: LawS wd (R.pack x).hs (R.pack x).cnt (R.pack x).lim (R.pack x).num (R.pack x).wait :: pt b (IL (kb (R.rows.take R.sr))) :: L) A' → Q (.bl true) A'
def T_q_pack : TSA := sSeq (sSet 5 (xLc 6 (iR1 (xsCons (xVar 4) (xsNil))) (xTest (xBin (eqA not) (xBin ixB (xDg (xVar 1) (xC (.str "held"))) (xVar 6)) (xC k_EMPTY))) (xTup (xsCons (xVar 6) (xsCons (xBin ixB (xDg (xVar 1) (xC (.str "held"))) (xVar 6)) (xsNil)))))) (sSeq (sSet 7 (xMeth "Replica" "pack" sp_Replica_pack (xVar 0) (xsCons (xVar 2) (xsNil)))) (sSeq (sIf (xOr (xNot (xTru (xCB isiA (xsCons (xVar 7) (xsCons (xC (.ty "bool")) (xsNil)))))) (xTest (xBin (eqA not) (xVar 7) (xBin geA (xVar 2) (xBin mulA (xC (.int 20)) (xCB lenA (xsCons (xVar 5) (xsNil)))))))) (sRet (xC (.bl false))) (sNil)) (sSeq (sIf (xTest (xBin ltA (xVar 2) (xBin mulA (xC (.int 20)) (xCB lenA (xsCons (xVar 5) (xsNil)))))) (sSeq (sDrop (xCall sp_q_crashed (xsCons (xVar 1) (xsCons (xVar 3) (xsCons (xVar 4) (xsNil)))))) (sRet (xC (.bl true)))) (sNil)) (sRet (xAndV (xBin (eqA id) (xCall sp_recover (xsCons (xFld "Disk" (xFld "Replica" (xVar 0) "disk") "data") (xsCons (xVar 4) (xsNil)))) (xVar 5)) (xBin (eqA id) (xFld "Disk" (xFld "Replica" (xVar 0) "disk") "safe") (xBin mulA (xC (.int 20)) (xCB lenA (xsCons (xVar 5) (xsNil))))))))))
theorem l_q_pack : ∀ ds A Q E, sp_q_pack ds A Q E → ds.length = ["_law_replica", "_law_w", "_law_left", "_law_base", "_law_size"].length := by
  rintro ds A Q E ⟨p, wd, b, R, L, n, x, rfl, _⟩; rfl
theorem cmp_rowK (rows : List KRow) : Cmp (.tup (rows.map kD_)) := by
  refine ⟨?_, ?_⟩
  · simp only [pln]
    refine plns_of fun d hd => ?_
    obtain ⟨r, _, rfl⟩ := List.mem_map.mp hd
    simp only [kD_, pln, plns, pln_stD, Bool.and_self]
  · simp only [dep]
    have : deps (rows.map kD_) ≤ 5 := deps_le fun d hd => by
      obtain ⟨r, _, rfl⟩ := List.mem_map.mp hd
      have := dep_stD3 r.2
      simp only [kD_, dep, deps]; omega
    omega
set_option maxHeartbeats 2000000 in
theorem w_q_pack : ∀ ds A Q E, sp_q_pack ds A Q E → T_q_pack (fun _ c pl A' => E c pl A') (bodyE Q) (envA 8 ds) A := by
  rintro ds A Q E ⟨p, wd, b, R, L, n, x, rfl, I, n64, hz, S, h⟩
  obtain ⟨hd, la, li, wa, S⟩ := (S.f 1).law
  have S : Hs (pt wd (wDk hd la li wa) :: pt hd (.lst (R.hs.map stD)) :: pt la (IL R.cnt) :: pt li (IL R.lim) :: pt wa (.lst (R.wait.map (wD R.num))) :: RepS p R :: pt b (IL (kb (R.rows.take R.sr))) :: L) A := S
  unfold T_q_pack
  walk_at "sj"
  refine i_iR1K (by omega) (by omega) ?_
  rw [Int.toNat_natCast, show rngD 0 1 n = _ from rng_nat (n := n)]
  refine lc_rule (fun i : Nat => D.int (i : Int)) (fun k : Nat => D.tup [.int (k : Int), stD (R.hs.getD k emp)]) (fun k => decide (R.hs.getD k emp ≠ emp)) (fun _ A' => A' = A) (List.range n) (by rw [List.length_range]; omega) (fun _ _ _ => trivial)
    (fun pre i post e A1 eA K1 K2 k1 k2 => ?step) (fun A1 eA => ?fin) rfl
  case step =>
    subst eA
    obtain ⟨rfl, lx⟩ := rng_pre e
    walk_at "sj"
    refine i_dgS (S.at_ 0) wDk_h ?_
    walk_at "sj"
    refine i_ixl (S.at_ 1) (held_at (by rw [I.lh]; exact lx)) ?_
    walk_at "sj"
    refine i_eq (cmp_stD _) (cmp_stD emp) fun b hb => ?_
    have hb' : b = true ↔ R.hs.getD pre.length emp = emp := hb.trans (show stD (R.hs.getD pre.length emp) = stD emp ↔ _ from stD_eq)
    walk_at "sj"
    refine i_two (fun h1 => ?_) (fun h1 => ?_)
    · walk_at "sj"
      refine i_dgS (S.at_ 0) wDk_h ?_
      walk_at "sj"
      refine i_ixl (S.at_ 1) (held_at (by rw [I.lh]; exact lx)) ?_
      walk_at "tj"
      exact k1 (decide_eq_true (b_not hb' h1)) _ rfl
    · exact k2 (decide_eq_false fun z => z (b_yes hb' h1)) _ rfl
  subst eA
  have er : ((List.range n).filter fun k => decide (R.hs.getD k emp ≠ emp)).map (fun k : Nat => D.tup [.int (k : Int), stD (R.hs.getD k emp)]) = (rowsK R.hs).map kD_ := by
    rw [← rowsD_K]; unfold rowsD; rw [I.lh]
  rw [er]
  have lk := rowsK_len R.hs
  rw [I.lh] at lk
  refine jnew S fun ro A2 S => ?_
  walk_at "sj"
  refine jmethS S 6 rfl (fun _ _ _ _ _ _ => rfl) ?_
  walk_at "sj"
  refine ⟨p, R, _, x, rfl, I.rowsIn, hz, S.f 6, fun A3 S => ?_⟩
  have S := S.b 6
  walk_at "sj"
  refine i_isi (show "bool" ∈ _ by decide) (by decide) ?_
  walk_at "sj"
  refine i_twoF rfl ?_
  walk_at "sj"
  refine i_lenl (S.at_ 0) ?_
  rw [List.length_map]
  walk_at "sj"
  refine i_mul (.inl (.inl ⟨by decide, by decide⟩)) ?_
  walk_at "sj"
  have ed : decide (20 * ((rowsK R.hs).length : Int) ≤ (x : Int)) = !decide (x < 20 * (rowsK R.hs).length) := by
    by_cases z : x < 20 * (rowsK R.hs).length
    · rw [decide_eq_true z, decide_eq_false (by omega)]; rfl
    · rw [decide_eq_false z, decide_eq_true (by omega)]; rfl
  rw [ed]
  refine i_twoF (by simp) ?_
  walk_at "sj"
  refine i_lenl (S.at_ 0) ?_
  rw [List.length_map]
  walk_at "sj"
  refine i_mul (.inl (.inl ⟨by decide, by decide⟩)) ?_
  walk_at "sj"
  refine i_two (fun h1 => ?_) (fun h1 => ?_)
  · have lt : x < 20 * (rowsK R.hs).length := by have := of_decide_eq_true h1; omega
    have e : R.pack x = R.crash 0 := if_pos lt
    rw [e] at h S
    walk_at "sj"
    obtain ⟨rc, rk, nn⟩ := I.cut n64 (R.sr * 20)
    rw [kb_take20, Nat.mul_div_cancel _ (by decide)] at rc
    rw [Nat.mul_div_cancel _ (by decide)] at rk
    rw [kb_take20] at nn
    have S := Hs.mkLaw (hs := R.hs) (cnt := R.cnt) (lim := R.lim) (n := R.num) (wait := R.wait) (S.pick 8 [1, 2, 3, 4, 5, 7, 6])
    refine ⟨wd, b, _, n, R.rows.take R.sr, _, _, _, _, _, _, rfl, n64, rc, rk, nn, by rw [kb_len, List.length_take]; omega, S, fun A4 S => ?_⟩
    walk_at "sj"
    refine h A4 ?_
    have e1 : (R.crash 0).hs = putAll (List.replicate n emp) (R.rows.take R.sr) := by show putAll (List.replicate R.hs.length emp) (R.rows.take (R.left 0)) = _; rw [I.lh, left_zero I]
    rw [e1]
    exact S.pick 3 [2, 0, 1]
  · have nl : ¬ x < 20 * (rowsK R.hs).length := by have := of_decide_eq_false h1; omega
    have e : R.pack x = { R with rows := rowsK R.hs, sr := (rowsK R.hs).length } := if_neg nl
    rw [e] at h S
    walk_at "sj"
    obtain ⟨st, dk, w, c, l, S⟩ := (S.f 6).rep
    obtain ⟨da, S⟩ := (S.f 2).disk
    have S : Hs (pt dk (.ins "Disk" [("data", .ref da), ("safe", .int ((20 * (rowsK R.hs).length : Nat) : Int))]) :: pt da (IL (kb (rowsK R.hs))) :: pt p (repF R.num st dk w c l) :: StoreS st R.hs :: pt w (.lst (R.wait.map (wD R.num))) :: pt c (IL R.cnt) :: pt l (IL R.lim) :: pt ro (.lst ((rowsK R.hs).map kD_)) :: pt wd (wDk hd la li wa) :: pt hd (.lst (R.hs.map stD)) :: pt la (IL R.cnt) :: pt li (IL R.lim) :: pt wa (.lst (R.wait.map (wD R.num))) :: pt b (IL (kb (R.rows.take R.sr))) :: L) A3 := S
    refine i_fldK (S.at_ 2) rfl ?_
    refine i_fldK (S.at_ 0) rfl ?_
    walk_at "sj"
    have ok2 : ∀ r ∈ rowsK R.hs, r.1 < n ∧ StOk r.2 := fun r hr => by
      have := rowsK_ok (fun k hk => I.ok k (by rw [← I.lh]; exact hk)) r hr
      rw [I.lh] at this; exact this
    have rc := kb_recs ok2 (20 * (rowsK R.hs).length)
    rw [List.take_of_length_le (by rw [kb_len]; exact Nat.le_refl _), Nat.mul_div_cancel_left _ (by decide), List.take_of_length_le (Nat.le_refl _)] at rc
    refine ⟨da, _, (n : Int), _, rfl, S.f 1, kb_nn n64 ok2, by rw [kb_len]; omega, fun rs hr q A4 S => ?_, fun nm hb => (rc.notBad hb).elim⟩
    have := rc.det hr
    subst this
    rw [rowD_rI] at S
    walk_at "sj"
    refine i_eqlE (S.at_ 0) (S.at_ 8) (cmp_rowK _) rfl ?_
    walk_at "sj"
    refine i_twoT rfl ?_
    walk_at "sj"
    refine i_fldK (S.at_ 3) rfl ?_
    refine i_fldK (S.at_ 2) rfl ?_
    walk_at "sj"
    refine i_lenl (S.at_ 8) ?_
    rw [List.length_map]
    walk_at "sj"
    refine i_mul (.inl (.inl ⟨by decide, by decide⟩)) ?_
    walk_at "sj"
    rw [show (((20 * (rowsK R.hs).length : Nat) : Int) == 20 * ((rowsK R.hs).length : Int)) = true from by rw [beq_iff_eq]; omega]
    have S := S.pick 15 [2, 1, 3, 4, 5, 6, 7, 9, 10, 11, 12, 13, 14]
    have S := (Hs.mkDisk (bs := kb (rowsK R.hs)) (safe := 20 * (rowsK R.hs).length) S).pick 12 [1, 2, 0, 3, 4, 5, 6, 7, 8, 9, 10, 11]
    have S := Hs.mkRep (R := { R with rows := rowsK R.hs, sr := (rowsK R.hs).length }) S
    have S := Hs.mkLaw (hs := R.hs) (cnt := R.cnt) (lim := R.lim) (n := R.num) (wait := R.wait) (S.pick 7 [1, 2, 3, 4, 5, 0, 6])
    exact h A4 (S.pick 3 [1, 0, 2])
/-! ### a step -/
def sp_q_step : ASp := fun ds A Q _ => ∃ (r p wd b : Addr) (R : Rep) (L : List SP) (n : Nat) (turn : Int), ds = [.ref r, .ref p, .int (R.num.val : Int), .ref wd, .ref b, .int turn, .int (n : Int)] ∧ RInv R n ∧ 0 < n ∧ n ≤ 64 ∧ 0 ≤ turn ∧ turn ≤ 255 ∧ R.rows.length ≤ 100000 ∧ R.wait.length ≤ 100000 ∧
  Hs (Row r :: RepS p R :: LawS wd R.hs R.cnt R.lim R.num R.wait :: pt b (IL (kb (R.rows.take R.sr))) :: L) A ∧
  ∀ R' A' L', RInv R' n → R'.num = R.num → R'.rows.length ≤ R.rows.length + 64 → R'.wait.length ≤ R.wait.length + 1 → Hs (Row r :: RepS p R' :: LawS wd R'.hs R'.cnt R'.lim R'.num R'.wait :: L') A' → Q (.bl true) A'
def T_q_step : TSA := sSeq (sSet 7 (xCall sp_q_take (xsCons (xVar 0) (xsCons (xC (.int 9)) (xsNil))))) (sSeq (sSet 8 (xCall sp_q_take (xsCons (xVar 0) (xsCons (xVar 6) (xsNil))))) (sSeq (sSet 9 (xDg (xVar 3) (xC (.str "held")))) (sSeq (sSet 10 (xBin ixB (xLst (xsCons (xBin ixB (xBin ixB (xVar 9) (xVar 8)) (xC (.int 0))) (xsCons (xBin ixB (xC k_EMPTY) (xC (.int 0))) (xsCons (xBin ixB (xCall sp_q_state (xsCons (xVar 0) (xsNil))) (xC (.int 0))) (xsNil))))) (xCall sp_q_take (xsCons (xVar 0) (xsCons (xC (.int 3)) (xsNil)))))) (sSeq (sIf (xTest (xBin ltA (xVar 7) (xC (.int 4)))) (sSeq (sSet 10 (xCB tupA (xsCons (xLc 11 (iR1 (xsCons (xC (.int 4)) (xsNil))) xYes (xIf (xTest (xBin (eqA id) (xVar 11) (xVar 2))) (xCB (int2A minI) (xsCons (xBin ixB (xVar 10) (xVar 11)) (xsCons (xBin ixB (xBin ixB (xBin ixB (xVar 9) (xVar 8)) (xC (.int 0))) (xVar 11)) (xsNil)))) (xBin ixB (xVar 10) (xVar 11)))) (xsNil)))) (sRet (xCall sp_q_write (xsCons (xVar 1) (xsCons (xVar 2) (xsCons (xVar 3) (xsCons (xVar 8) (xsCons (xVar 5) (xsCons (xVar 10) (xsNil)))))))))) (sNil)) (sSeq (sIf (xTest (xBin (eqA id) (xVar 7) (xC (.int 4)))) (sSeq (sDrop (xMeth "Replica" "remove" sp_Replica_remove (xVar 1) (xsCons (xVar 8) (xsCons (xBin ixB (xBin ixB (xVar 9) (xVar 8)) (xC (.int 0))) (xsNil))))) (sAsg (xCall sp_removed (xsCons (xBin ixB (xVar 9) (xVar 8)) (xsCons (xBin ixB (xBin ixB (xVar 9) (xVar 8)) (xC (.int 0))) (xsNil)))) (gSubL (xVar 9) (xVar 8)))) (sIf (xTest (xBin (eqA id) (xVar 7) (xC (.int 5)))) (sSeq (sSet 12 (xMeth "Replica" "sync" sp_Replica_sync (xVar 1) xsNil)) (sSeq (sSet 13 (xDg (xVar 3) (xC (.str "waiting")))) (sSeq (sDput (xVar 3) (xC (.str "waiting")) (xLst (xsNil))) (sRet (xAndV (xBin (eqA id) (xVar 12) (xVar 13)) (xBin (eqA id) (xFld "Disk" (xFld "Replica" (xVar 1) "disk") "safe") (xCB lenA (xsCons (xFld "Disk" (xFld "Replica" (xVar 1) "disk") "data") (xsNil))))))))) (sIf (xTest (xBin (eqA id) (xVar 7) (xC (.int 6)))) (sRet (xCall sp_q_crash (xsCons (xVar 1) (xsCons (xVar 3) (xsCons (xCall sp_q_take (xsCons (xVar 0) (xsCons (xC (.int 59)) (xsNil)))) (xsCons (xVar 6) (xsNil))))))) (sIf (xTest (xBin (eqA id) (xVar 7) (xC (.int 7)))) (sRet (xCall sp_q_pack (xsCons (xVar 1) (xsCons (xVar 3) (xsCons (xBin mulA (xCall sp_q_take (xsCons (xVar 0) (xsCons (xC (.int 59)) (xsNil)))) (xC (.int 2))) (xsCons (xVar 4) (xsCons (xVar 6) (xsNil)))))))) (sNil))))) (sRet (xC (.bl true))))))))
theorem l_q_step : ∀ ds A Q E, sp_q_step ds A Q E → ds.length = ["_law_row", "_law_replica", "_law_number", "_law_w", "_law_base", "_law_turn", "_law_size"].length := by
  rintro ds A Q E ⟨r, p, wd, b, R, L, n, turn, rfl, _⟩; rfl
theorem cmp_waits (nm : Fin 4) (ws : List (Nat × Int × Int)) : Cmp (.tup (ws.map (wD nm))) := by
  refine ⟨?_, ?_⟩
  · simp only [pln]
    refine plns_of fun d hd => ?_
    obtain ⟨e, _, rfl⟩ := List.mem_map.mp hd
    simp [wD, pln, plns]
  · simp only [dep]
    have : deps (ws.map (wD nm)) ≤ 5 := deps_le fun d hd => by
      obtain ⟨e, _, rfl⟩ := List.mem_map.mp hd
      simp [wD, dep, deps]
    omega
theorem crash_wait (R : Rep) (x : Nat) : (R.crash x).wait.length = 0 := rfl
theorem pack_len (R : Rep) (x : Nat) : (R.pack x).rows.length ≤ R.rows.length + R.hs.length ∧ (R.pack x).wait.length ≤ R.wait.length ∧ (R.pack x).num = R.num := by
  unfold Rep.pack
  have := rowsK_len R.hs
  split
  · refine ⟨?_, Nat.zero_le _, rfl⟩
    rw [crash_rows]; have := left_le R 0; omega
  · exact ⟨by show (rowsK R.hs).length ≤ _; omega, Nat.le_refl _, rfl⟩
set_option maxHeartbeats 4000000 in
theorem w_q_step : ∀ ds A Q E, sp_q_step ds A Q E → T_q_step (fun _ c pl A' => E c pl A') (bodyE Q) (envA 14 ds) A := by
  rintro ds A Q E ⟨r, p, wd, b, R, L, n, turn, rfl, I, n0, n64, t0, t1, z1, z2, S, h⟩
  obtain ⟨hd, la, li, wa, S⟩ := (S.f 2).law
  have S : Hs (pt wd (wDk hd la li wa) :: pt hd (.lst (R.hs.map stD)) :: pt la (IL R.cnt) :: pt li (IL R.lim) :: pt wa (.lst (R.wait.map (wD R.num))) :: Row r :: RepS p R :: pt b (IL (kb (R.rows.take R.sr))) :: L) A := S
  unfold T_q_step
  walk_at "sj"
  refine c_take S 5 rfl (by decide) fun kd A1 kd0 kd1 S => ?_
  walk_at "sj"
  refine c_take S 5 rfl (by omega) fun k A2 k0 k1 S => ?_
  obtain ⟨k, rfl⟩ := Int.eq_ofNat_of_zero_le k0
  have hk : k < n := Int.ofNat_lt.mp k1
  have kh : k < R.hs.length := by rw [I.lh]; exact hk
  have okS := I.ok k hk
  have cl := I.cl k hk
  have sk := I.seen k hk
  walk_at "sj"
  refine i_dgS (S.at_ 0) wDk_h ?_
  walk_at "sj"
  refine i_ixl (S.at_ 1) (held_at kh) ?_
  walk_at "sj"
  refine c_state_ S 5 rfl fun t A3 gt S => ?_
  walk_at "tj"
  refine jnew S fun z A4 S => ?_
  walk_at "sj"
  refine c_take S 6 rfl (by decide) fun v A5 v0 v1 S => ?_
  have pick : ∃ m : Fin 4 → Int, SnOk m ∧ atI [seenD (seen (at_ R.hs k)), .tup [.int 0, .int 0, .int 0, .int 0], seenD (seen t)] v = some (seenD m) := by
    have : v = 0 ∨ v = 1 ∨ v = 2 := by omega
    rcases this with rfl | rfl | rfl
    · exact ⟨_, seen_ok okS, rfl⟩
    · exact ⟨fun _ => 0, fun _ => ⟨Int.le_refl _, (by decide : (0 : Int) ≤ 255)⟩, rfl⟩
    · exact ⟨_, seen_ok gt.ok, rfl⟩
  obtain ⟨m, okm, em⟩ := pick
  refine i_ixl (S.at_ 0) em ?_
  have S := S.pick 9 [6, 7, 1, 2, 3, 4, 5, 8]
  have S : Hs (Row r :: RepS p R :: pt wd (wDk hd la li wa) :: pt hd (.lst (R.hs.map stD)) :: pt la (IL R.cnt) :: pt li (IL R.lim) :: pt wa (.lst (R.wait.map (wD R.num))) :: pt b (IL (kb (R.rows.take R.sr))) :: L) A5 := S
  have law : ∀ {A' : AHp} {R' : Rep}, Hs (Row r :: RepS p R' :: pt wd (wDk hd la li wa) :: pt hd (.lst (R.hs.map stD)) :: pt la (IL R.cnt) :: pt li (IL R.lim) :: pt wa (.lst (R.wait.map (wD R.num))) :: pt b (IL (kb (R.rows.take R.sr))) :: L) A' → Hs (Row r :: RepS p R' :: LawS wd R.hs R.cnt R.lim R.num R.wait :: pt b (IL (kb (R.rows.take R.sr))) :: L) A' := fun S =>
    (Hs.mkLaw (S.pick 8 [2, 3, 4, 5, 6, 0, 1, 7])).pick 4 [1, 2, 0, 3]
  walk_at "sj"
  refine i_two (fun hb => ?_) (fun hb => ?_)
  · -- a write
    walk_at "sj"
    refine i_iR1K (by decide) (by decide) ?_
    rw [rng4]
    let m1 : Fin 4 → Int := fun j => if j = R.num then minI (m j) (seen (at_ R.hs k) j) else m j
    refine lc_map (fun j : Fin 4 => D.int (j.val : Int)) (fun j => D.int (m1 j)) (fun _ A' => A' = A5) f4 (by decide) (fun _ _ _ => trivial) (fun pre j post e A1 eA K1 k1 => ?mn) (fun A1 eA => ?next) rfl
    case mn =>
      subst eA
      walk_at "sj"
      refine i_two (fun h2 => ?_) (fun h2 => ?_)
      · have eq : j = R.num := (fin4 j R.num).mp (by simpa using h2)
        walk_at "sj"
        refine i_ixt rfl (at4 m j) ?_
        walk_at "sj"
        refine i_ixl (S.at_ 3) (held_at kh) ?_
        walk_at "sj"
        refine i_ixt rfl (at4 (seen (at_ R.hs k)) j) ?_
        walk_at "sj"
        have := k1 _ rfl
        rw [show m1 j = minI (m j) (seen (at_ R.hs k) j) from if_pos eq] at this
        exact this
      · have ne : ¬ j = R.num := fun z => by rw [z] at h2; simp at h2
        walk_at "sj"
        refine i_ixt rfl (at4 m j) ?_
        have := k1 _ rfl
        rw [show m1 j = m j from if_neg ne] at this
        exact this
    subst eA
    refine jnew S fun y A6 S => ?_
    walk_at "sj"
    refine i_tupl (S.at_ 0) ?_
    walk_at "sj"
    have ok1 : SnOk m1 := fun j => by
      have := okm j; have := seen_ok okS j; have := minI_le (m j) (seen (at_ R.hs k) j)
      show 0 ≤ (if j = R.num then minI (m j) (seen (at_ R.hs k) j) else m j) ∧ (if j = R.num then minI (m j) (seen (at_ R.hs k) j) else m j) ≤ 255
      split <;> omega
    have le1 : m1 R.num ≤ R.cnt.getD k 0 := by
      have e : m1 R.num = minI (m R.num) (seen (at_ R.hs k) R.num) := if_pos rfl
      have := minI_le (m R.num) (seen (at_ R.hs k) R.num)
      have : seen (at_ R.hs k) R.num = (at_ R.hs k R.num).n := rfl
      omega
    have S := law S.tail
    refine ⟨p, wd, R, _, n, k, turn, m1, rfl, I, hk, ok1, le1, t0, t1, z1, z2, S.pick 4 [1, 2, 0, 3], fun R' A7 hR S => ?_⟩
    have S := S.pick 4 [2, 0, 1, 3]
    rcases hR with rfl | ⟨rfl, le⟩
    · exact h _ _ _ I rfl (by omega) (by omega) S
    · exact h _ _ _ (I.write hk le t0 t1 ok1 le1) rfl (by show (R.rows ++ [_]).length ≤ _; rw [List.length_append, List.length_singleton]; omega) (by show (R.wait ++ [_]).length ≤ _; rw [List.length_append, List.length_singleton]; omega) S
  walk_at "sj"
  refine i_two (fun hb4 => ?_) (fun hb4 => ?_)
  · -- a removal
    walk_at "sj"
    refine jmethS S 1 rfl (fun _ _ _ _ _ _ => rfl) ?_
    walk_at "sj"
    refine i_ixl (S.at_ 3) (held_at kh) ?_
    walk_at "sj"
    refine ⟨p, R, _, k, seen (at_ R.hs k), rfl, kh, seen_ok okS, z1, S.f 1, fun A6 S => ?_⟩
    have S := S.b 1
    walk_at "sj"
    refine i_ixl (S.at_ 3) (held_at kh) ?_
    walk_at "sj"
    refine i_ixl (S.at_ 3) (held_at kh) ?_
    walk_at "sj"
    refine ⟨at_ R.hs k, seen (at_ R.hs k), rfl, fun A7 x7 => ?_⟩
    have S := S.ext x7
    walk_at "sj"
    refine jgsub S 3 rfl (ixN_nat (by rw [List.length_map]; exact kh)) fun A8 S => ?_
    walk_at "sj"
    have S : Hs (Row r :: RepS p (R.remove k (seen (at_ R.hs k))) :: pt wd (wDk hd la li wa) :: pt hd (.lst ((R.hs.map stD).set k (stD (rmS (at_ R.hs k) (seen (at_ R.hs k)))))) :: pt la (IL R.cnt) :: pt li (IL R.lim) :: pt wa (.lst (R.wait.map (wD R.num))) :: pt b (IL (kb (R.rows.take R.sr))) :: L) A8 := S
    rw [show (R.hs.map stD).set k (stD (rmS (at_ R.hs k) (seen (at_ R.hs k)))) = (R.remove k (seen (at_ R.hs k))).hs.map stD from (List.map_set ..).symm] at S
    have S := (Hs.mkLaw (S.pick 8 [2, 3, 4, 5, 6, 0, 1, 7])).pick 4 [1, 2, 0, 3]
    exact h (R.remove k (seen (at_ R.hs k))) _ _ (I.remove hk (seen_ok okS) sk) rfl (by show (R.rows ++ [_]).length ≤ _; rw [List.length_append, List.length_singleton]; omega) (by show R.wait.length ≤ _; omega) S
  walk_at "sj"
  refine i_two (fun hb5 => ?_) (fun hb5 => ?_)
  · -- a sync
    walk_at "sj"
    refine jmethS S 1 rfl (fun _ _ _ _ _ _ => rfl) ?_
    walk_at "sj"
    refine ⟨p, R, _, rfl, S.f 1, fun w A6 S => ?_⟩
    have S : Hs (pt w (.lst (R.wait.map (wD R.num))) :: RepS p R.sync :: Row r :: pt wd (wDk hd la li wa) :: pt hd (.lst (R.hs.map stD)) :: pt la (IL R.cnt) :: pt li (IL R.lim) :: pt wa (.lst (R.wait.map (wD R.num))) :: pt b (IL (kb (R.rows.take R.sr))) :: L) A6 := S
    walk_at "sj"
    refine i_dgS (S.at_ 3) wDk_wa ?_
    walk_at "tj"
    refine jnew S fun nw A7 S => ?_
    walk_at "sj"
    refine jdputS S 4 rfl (by rw [sizeLine_eq]; exact (by decide : 4 < 16777216)) fun A8 S => ?_
    rw [put_wa] at S
    walk_at "sj"
    refine i_eqlE (S.at_ 1) (S.at_ 8) (cmp_waits _ _) rfl ?_
    walk_at "sj"
    refine i_twoT rfl ?_
    walk_at "sj"
    obtain ⟨st, dk, w2, c, l, S⟩ := (S.f 2).rep
    obtain ⟨da, S⟩ := (S.f 2).disk
    refine i_fldK (S.at_ 2) rfl ?_
    refine i_fldK (S.at_ 0) rfl ?_
    walk_at "sj"
    refine i_fldK (S.at_ 2) rfl ?_
    refine i_fldK (S.at_ 0) rfl ?_
    walk_at "sj"
    refine i_lenl (S.at_ 1) ?_
    rw [List.length_map, kb_len]
    walk_at "sj"
    rw [show ((((20 * R.sync.sr : Nat) : Int)) == ((20 * R.sync.rows.length : Nat) : Int)) = true from beq_iff_eq.mpr rfl]
    have S := Hs.mkRep (R := R.sync) ((Hs.mkDisk S).pick 15 [1, 2, 0, 3, 4, 5, 6, 7, 8, 9, 10, 11, 12, 13, 14])
    have S := Hs.mkLaw (hs := R.hs) (cnt := R.cnt) (lim := R.lim) (n := R.num) (wait := []) (S.pick 10 [4, 5, 6, 7, 1, 3, 0])
    have S := S.pick 3 [1, 2, 0]
    exact h R.sync _ _ I.sync rfl (by show R.rows.length ≤ _; omega) (by show 0 ≤ _; omega) S
  walk_at "sj"
  refine i_two (fun hb6 => ?_) (fun hb6 => ?_)
  · -- a crash
    walk_at "sj"
    refine c_take S 0 rfl (by decide) fun x A6 x0 x1 S => ?_
    obtain ⟨x, rfl⟩ := Int.eq_ofNat_of_zero_le x0
    walk_at "sj"
    refine ⟨p, wd, R, _, n, x, rfl, I, n64, z1, (law S).pick 4 [1, 2, 0, 3], fun A7 S => ?_⟩
    have S := S.pick 4 [2, 0, 1, 3]
    exact h (R.crash x) _ _ (I.crash x) rfl (by rw [crash_rows]; have := left_le R x; omega) (by rw [crash_wait]; omega) S
  walk_at "sj"
  refine i_two (fun hb7 => ?_) (fun hb7 => ?_)
  · walk_at "sj"
    refine c_take S 0 rfl (by decide) fun x A6 x0 x1 S => ?_
    obtain ⟨x, rfl⟩ := Int.eq_ofNat_of_zero_le x0
    walk_at "sj"
    refine i_mul (.inl (.inr (by decide))) ?_
    rw [show (x : Int) * 2 = ((x * 2 : Nat) : Int) by omega]
    walk_at "sj"
    refine ⟨p, wd, b, R, _, n, x * 2, rfl, I, n64, z1, (law S).pick 4 [1, 2, 3, 0], fun A7 S => ?_⟩
    have S := S.pick 4 [3, 0, 1, 2]
    have pl := pack_len R (x * 2)
    rw [I.lh] at pl
    exact h (R.pack (x * 2)) _ _ (I.pack _) pl.2.2 (by omega) (by omega) S
  · walk_at "sj"
    exact h R _ _ I rfl (by omega) (by omega) (law S)
def sp_law : ASp := fun ds A Q _ => ∃ ns : List Int, ds = [.fls (ns.map D.int)] ∧ ns.length ≤ 63 ∧ ∀ A', Q (.bl true) A'
def T_law : TSA := sSeq (sSet 1 (xCall sp_q_stream (xsCons (xVar 0) (xsNil)))) (sSeq (sSet 2 (xBin ixB (xLst (xsCons (xC (.int 1)) (xsCons (xC (.int 2)) (xsCons (xC (.int 4)) (xsNil))))) (xCall sp_q_take (xsCons (xVar 1) (xsCons (xC (.int 3)) (xsNil)))))) (sSeq (sSet 3 (xCall sp_q_take (xsCons (xVar 1) (xsCons (xC (.int 4)) (xsNil))))) (sSeq (sSet 4 (xNew "Replica" sp_Replica___init__ (xsCons (xVar 3) (xsCons (xVar 2) (xsNil))))) (sSeq (sSet 5 (xDisp (xpCons (xC (.str "held")) (xBin mulA (xLst (xsCons (xC k_EMPTY) (xsNil))) (xVar 2)) (xpCons (xC (.str "last")) (xBin mulA (xLst (xsCons (xC (.int 0)) (xsNil))) (xVar 2)) (xpCons (xC (.str "limit")) (xBin mulA (xLst (xsCons (xC (.int 0)) (xsNil))) (xVar 2)) (xpCons (xC (.str "waiting")) (xLst (xsNil)) (xpNil))))))) (sSeq (sSet 6 (xIf (xTest (xBin (eqA id) (xCall sp_q_take (xsCons (xVar 1) (xsCons (xC (.int 12)) (xsNil)))) (xC (.int 0)))) (xBin addA (xC (.int 240)) (xCall sp_q_take (xsCons (xVar 1) (xsCons (xC (.int 16)) (xsNil))))) (xC (.int 0)))) (sSeq (sFor (iR1 (xsCons (xVar 6) (xsNil))) (gName 7) (sIf (xNot (xTru (xCall sp_q_write (xsCons (xVar 4) (xsCons (xVar 3) (xsCons (xVar 5) (xsCons (xC (.int 0)) (xsCons (xC (.int 1)) (xsCons (xBin ixB (xBin ixB (xDg (xVar 5) (xC (.str "held"))) (xC (.int 0))) (xC (.int 0))) (xsNil)))))))))) (sRet (xC (.bl false))) (sNil))) (sSeq (sSet 8 (xLst (xsNil))) (sSeq (sFor (iR1 (xsCons (xCall sp_q_take (xsCons (xVar 1) (xsCons (xC (.int 16)) (xsNil)))) (xsNil))) (gName 7) (sSeq (sIf (xNot (xTru (xCall sp_q_step (xsCons (xVar 1) (xsCons (xVar 4) (xsCons (xVar 3) (xsCons (xVar 5) (xsCons (xVar 8) (xsCons (xVar 7) (xsCons (xVar 2) (xsNil))))))))))) (sRet (xC (.bl false))) (sNil)) (sSeq (sSet 8 (xSl (xFld "Disk" (xFld "Replica" (xVar 4) "disk") "data") (oNone) (oSome (xFld "Disk" (xFld "Replica" (xVar 4) "disk") "safe")))) (sIf (xOr (xTest (xBin (eqA not) (xLc 9 (iR1 (xsCons (xVar 2) (xsNil))) xYes (xMeth "Store" "state" sp_Store_state (xFld "Replica" (xVar 4) "store") (xsCons (xVar 9) (xsNil)))) (xDg (xVar 5) (xC (.str "held"))))) (xTest (xBin (eqA not) (xFld "Replica" (xVar 4) "counts") (xDg (xVar 5) (xC (.str "last")))))) (sRet (xC (.bl false))) (sNil))))) (sRet (xBin (eqA id) (xMeth "Replica" "sync" sp_Replica_sync (xVar 4) xsNil) (xDg (xVar 5) (xC (.str "waiting")))))))))))))
theorem l_law : ∀ ds A Q E, sp_law ds A Q E → ds.length = ["_law_script"].length := by
  rintro ds A Q E ⟨n, rfl, _⟩; rfl
theorem pick3 {v : Int} (h0 : 0 ≤ v) (h1 : v < 3) : atI [D.int 1, .int 2, .int 4] v = some (.int ((2 ^ v.toNat : Nat) : Int)) := by
  have : v = 0 ∨ v = 1 ∨ v = 2 := by omega
  rcases this with rfl | rfl | rfl <;> rfl
theorem cmp_sts (hs : List Sta) : Cmp (.tup (hs.map stD)) := by
  refine ⟨?_, ?_⟩
  · simp only [pln]
    refine plns_of fun d hd => ?_
    obtain ⟨s, _, rfl⟩ := List.mem_map.mp hd
    exact pln_stD s
  · simp only [dep]
    have : deps (hs.map stD) ≤ 5 := deps_le fun d hd => by
      obtain ⟨s, _, rfl⟩ := List.mem_map.mp hd
      have := dep_stD3 s; omega
    omega
theorem hs_range {hs : List Sta} {n : Nat} (h : hs.length = n) : (List.range n).map (fun k => stD (at_ hs k)) = hs.map stD := by
  subst h
  refine List.ext_getElem (by simp) fun i h1 h2 => ?_
  rw [List.length_map] at h2
  simp only [List.getElem_map, List.getElem_range]
  congr 1
  show hs.getD i emp = _
  rw [List.getD_eq_getElem?_getD, List.getElem?_eq_getElem h2]; rfl
set_option maxHeartbeats 16000000 in
theorem w_law : ∀ ds A Q E, sp_law ds A Q E → T_law (fun _ c pl A' => E c pl A') (bodyE Q) (envA 10 ds) A := by
  rintro ds A Q E ⟨ns, rfl, hl, K⟩
  unfold T_law
  walk_at "sj"
  refine c_stream Hs.nil hl fun r A1 S => ?_
  walk_at "tj"
  refine jnew S fun z A2 S => ?_
  walk_at "sj"
  refine c_take S 1 rfl (by decide) fun v A3 v0 v1 S => ?_
  refine i_ixl (S.at_ 0) (pick3 v0 v1) ?_
  have g2 : v.toNat ≤ 2 := by omega
  generalize v.toNat = g at g2 ⊢
  have n4 : 2 ^ g ≤ 4 := Nat.le_trans (Nat.pow_le_pow_right (by decide) g2) (by decide)
  have np0 : 0 < 2 ^ g := Nat.two_pow_pos g
  walk_at "sj"
  refine c_take S 1 rfl (by decide) fun v A4 v0 v1 S => ?_
  obtain ⟨nm, rfl⟩ : ∃ nm : Fin 4, v = (nm.val : Int) := ⟨⟨v.toNat, by omega⟩, by show v = ((v.toNat : Nat) : Int); omega⟩
  have S := S.drop 0
  have S : Hs [Row r] A4 := S
  walk_at "sj"
  intro p np
  refine ⟨p, _, nm, g, _, _, rfl, rfl, rfl, by omega, S.new np, fun A5 S => ⟨rfl, ?_⟩⟩
  walk_at "tj"
  refine jnew S fun y1 A6 S => ?_
  walk_at "sj"
  refine jmul (S.at_ 0) (Int.natCast_nonneg _) (by omega) (by rw [Int.toNat_natCast, sizeLine_eq]; simp; omega) ?_
  rw [emps]
  refine jnew S fun hd A7 S => ?_
  walk_at "tj"
  refine jnew S fun y2 A8 S => ?_
  walk_at "sj"
  refine jmul (S.at_ 0) (Int.natCast_nonneg _) (by omega) (by rw [Int.toNat_natCast, sizeLine_eq]; simp; omega) ?_
  rw [zeros]
  refine jnew S fun la A9 S => ?_
  walk_at "tj"
  refine jnew S fun y3 A10 S => ?_
  walk_at "sj"
  refine jmul (S.at_ 0) (Int.natCast_nonneg _) (by omega) (by rw [Int.toNat_natCast, sizeLine_eq]; simp; omega) ?_
  rw [zeros]
  refine jnew S fun li A11 S => ?_
  walk_at "tj"
  refine jnew S fun wa A12 S => ?_
  walk_at "sj"
  refine ⟨[(.inr "held", .ref hd), (.inr "last", .ref la), (.inr "limit", .ref li), (.inr "waiting", .ref wa)], rfl, (by show 4 ≤ 15; decide), ?_⟩
  refine jnew S fun wd A13 S => ?_
  have S : Hs [pt wd (wDk hd la li wa), pt wa (.lst []), pt li (IL (List.replicate (2 ^ g) 0)), pt y3 _, pt la (IL (List.replicate (2 ^ g) 0)), pt y2 _, pt hd (.lst ((List.replicate (2 ^ g) emp).map stD)), pt y1 _, RepS p (Rep.new nm (2 ^ g)), Row r] A13 := S
  have S := Hs.mkLaw (hs := List.replicate (2 ^ g) emp) (cnt := List.replicate (2 ^ g) 0) (lim := List.replicate (2 ^ g) 0) (n := nm) (wait := []) (S.pick 20 [0, 6, 4, 2, 1, 8, 9])
  have S : Hs [LawS wd (Rep.new nm (2 ^ g)).hs (Rep.new nm (2 ^ g)).cnt (Rep.new nm (2 ^ g)).lim (Rep.new nm (2 ^ g)).num (Rep.new nm (2 ^ g)).wait, RepS p (Rep.new nm (2 ^ g)), Row r] A13 := S
  refine i_gname ?_
  let I2 : AEnv → AHp → Prop := fun ρ A' => ∃ e : Nat, e ≤ 255 ∧ ρ = [some (.fls (ns.map D.int)), some (.ref r), some (.int ((2 ^ g : Nat) : Int)), some (.int (nm.val : Int)), some (.ref p), some (.ref wd), some (.int (e : Int)), none, none, none] ∧
    Hs [LawS wd (Rep.new nm (2 ^ g)).hs (Rep.new nm (2 ^ g)).cnt (Rep.new nm (2 ^ g)).lim (Rep.new nm (2 ^ g)).num (Rep.new nm (2 ^ g)).wait, RepS p (Rep.new nm (2 ^ g)), Row r] A'
  with_reducible refine i_cut I2 ?cut ?main
  case cut =>
    intro NX2 nx2
    walk_at "sj"
    refine c_take S 2 rfl (by decide) fun v A14 v0 v1 S => ?_
    walk_at "sj"
    refine i_two (fun h1 => ?_) (fun h1 => ?_)
    · walk_at "sj"
      refine c_take S 2 rfl (by decide) fun u A15 u0 u1 S => ?_
      walk_at "sj"
      exact nx2 _ _ ⟨(240 + u).toNat, by omega, by rw [Int.toNat_of_nonneg (by omega)]; rfl, S⟩
    · walk_at "sj"
      exact nx2 _ _ ⟨0, by omega, rfl, S⟩
  rintro ρ A14 ⟨e, e255, rfl, S⟩
  walk_at "sj"
  refine i_iR1K (by omega) (by omega) ?_
  rw [Int.toNat_natCast, show rngD 0 1 e = _ from rng_nat (n := e)]
  refine for_rule (f := fun i : Nat => D.int (i : Int)) (fun pre ρ A' => ∃ (R : Rep) (o7 : Option D), ρ = [some (.fls (ns.map D.int)), some (.ref r), some (.int ((2 ^ g : Nat) : Int)), some (.int (nm.val : Int)), some (.ref p), some (.ref wd), some (.int (e : Int)), o7, none, none] ∧ RInv R (2 ^ g) ∧ R.num = nm ∧ R.sr = 0 ∧ R.rows.length ≤ pre.length ∧ R.wait.length ≤ pre.length ∧
      Hs [LawS wd R.hs R.cnt R.lim R.num R.wait, RepS p R, Row r] A') (List.range e) (fun _ _ _ _ => trivial) (fun pre i post ee ρ A15 hI NX nx => ?early) (fun ρ A15 hI => ?main2) ⟨Rep.new nm (2 ^ g), none, rfl, RInv.new nm _, rfl, rfl, Nat.le_refl _, Nat.le_refl _, S⟩
  case early =>
    obtain ⟨R, o7, rfl, I, en, sr0, lr, lw, S⟩ := hI
    obtain ⟨rfl, lx⟩ := rng_pre ee
    obtain ⟨hd, la, li, wa, S⟩ := S.law
    walk_at "sj"
    refine i_dgS (S.at_ 0) wDk_h ?_
    walk_at "sj"
    refine i_ixl (S.at_ 1) (held_at (k := 0) (by rw [I.lh]; exact np0)) ?_
    walk_at "sj"
    have S := (Hs.mkLaw S)
    refine ⟨p, wd, R, _, 2 ^ g, 0, 1, seen (at_ R.hs 0), by rw [en]; rfl, I, np0, seen_ok (I.ok 0 np0), I.seen 0 np0, by decide, by decide, by omega, by omega, S.pick 20 [1, 0, 2], fun R' A16 hR S => ?_⟩
    have S := S.pick 20 [1, 0, 2]
    walk_at "sj"
    refine i_twoF rfl ?_
    walk_at "sj"
    rcases hR with rfl | ⟨rfl, le⟩
    · exact nx _ _ ⟨R', _, rfl, I, en, sr0, by simp; omega, by simp; omega, S⟩
    · exact nx _ _ ⟨_, _, rfl, I.write np0 le (by decide) (by decide) (seen_ok (I.ok 0 np0)) (I.seen 0 np0), en, sr0, by show (R.rows ++ [_]).length ≤ _; simp; omega, by show (R.wait ++ [_]).length ≤ _; simp; omega, S⟩
  obtain ⟨R, o7, rfl, I, en, sr0, lr, lw, S⟩ := hI
  rw [List.length_range] at lr lw
  walk_at "tj"
  refine jnew S fun b A16 S => ?_
  walk_at "sj"
  refine c_take S 3 rfl (by decide) fun m A17 m0 m1 S => ?_
  walk_at "sj"
  refine i_iR1K (by omega) (by omega) ?_
  rw [show rngD 0 1 m.toNat = _ from rng_nat (n := m.toNat)]
  have S : Hs [pt b (.lst []), LawS wd R.hs R.cnt R.lim R.num R.wait, RepS p R, Row r] A17 := S
  refine for_rule (f := fun i : Nat => D.int (i : Int)) (fun pre ρ A' => ∃ (R : Rep) (b : Addr) (o6 o7 o9 : Option D), ρ = [some (.fls (ns.map D.int)), some (.ref r), some (.int ((2 ^ g : Nat) : Int)), some (.int (nm.val : Int)), some (.ref p), some (.ref wd), o6, o7, some (.ref b), o9] ∧ RInv R (2 ^ g) ∧ R.num = nm ∧ R.rows.length ≤ 255 + 64 * pre.length ∧ R.wait.length ≤ 255 + pre.length ∧
      Hs [pt b (IL (kb (R.rows.take R.sr))), LawS wd R.hs R.cnt R.lim R.num R.wait, RepS p R, Row r] A') (List.range m.toNat) (fun _ _ _ _ => trivial) (fun pre i post ee ρ A15 hI NX nx => ?turn) (fun ρ A15 hI => ?end_)
    ⟨R, b, _, _, none, rfl, I, en, by simp; omega, by simp; omega, by rw [sr0]; exact S⟩
  case turn =>
    obtain ⟨R, b, o6, o7, o9, rfl, I, en, lr, lw, S⟩ := hI
    obtain ⟨rfl, lx⟩ := rng_pre ee
    walk_at "sj"
    refine ⟨r, p, wd, b, R, _, 2 ^ g, (pre.length : Int), by rw [en], I, np0, by omega, by omega, by omega, by omega, by omega, S.pick 20 [3, 2, 1, 0], fun R' A16 L' I2 en2 lr2 lw2 S => ?_⟩
    walk_at "sj"
    refine i_twoF rfl ?_
    walk_at "sj"
    have S := S.pick 3 [1, 2, 0]
    obtain ⟨st, dk, w, c, l, S⟩ := S.rep
    obtain ⟨da, S⟩ := (S.f 2).disk
    have S : Hs (pt dk (.ins "Disk" [("data", .ref da), ("safe", .int ((20 * R'.sr : Nat) : Int))]) :: pt da (IL (kb R'.rows)) :: pt p (repF R'.num st dk w c l) :: StoreS st R'.hs :: pt w (.lst (R'.wait.map (wD R'.num))) :: pt c (IL R'.cnt) :: pt l (IL R'.lim) :: LawS wd R'.hs R'.cnt R'.lim R'.num R'.wait :: Row r :: L') A16 := S
    refine i_fldK (S.at_ 2) rfl ?_
    refine i_fldK (S.at_ 0) rfl ?_
    walk_at "sj"
    refine i_fldK (S.at_ 2) rfl ?_
    refine i_fldK (S.at_ 0) rfl ?_
    walk_at "sj"
    refine jslL (S.at_ 1) ?_
    rw [cut_take, ← List.map_take, Nat.mul_comm 20, kb_take20]
    refine jnew S fun b2 A17 S => ?_
    walk_at "sj"
    refine i_iR1K (by omega) (by omega) ?_
    rw [Int.toNat_natCast, show rngD 0 1 (2 ^ g) = _ from rng_nat (n := 2 ^ g)]
    refine lc_map (fun i : Nat => D.int (i : Int)) (fun k => stD (at_ R'.hs k)) (fun _ A' => A' = A17) (List.range (2 ^ g)) (by rw [List.length_range]; omega) (fun _ _ _ => trivial)
      (fun pre i post e A1 eA K1 k1 => ?st) (fun A1 eA => ?next) rfl
    case st =>
      subst eA
      obtain ⟨rfl, lx⟩ := rng_pre e
      walk_at "sj"
      refine i_fldK (S.at_ 3) rfl ?_
      refine jmeth S 4 rfl (fun _ _ _ => rfl) ?_
      walk_at "sj"
      exact c_sstate S 4 rfl (by rw [I2.lh]; exact lx) (k1 _ rfl)
    subst eA
    rw [hs_range I2.lh]
    refine jnew S fun q A18 S => ?_
    obtain ⟨hd, la, li, wa, S⟩ := (S.f 9).law
    have S : Hs (pt wd (wDk hd la li wa) :: pt hd (.lst (R'.hs.map stD)) :: pt la (IL R'.cnt) :: pt li (IL R'.lim) :: pt wa (.lst (R'.wait.map (wD R'.num))) :: pt q (.lst (R'.hs.map stD)) :: pt b2 (IL (kb (R'.rows.take R'.sr))) :: pt dk (.ins "Disk" [("data", .ref da), ("safe", .int ((20 * R'.sr : Nat) : Int))]) :: pt da (IL (kb R'.rows)) :: pt p (repF R'.num st dk w c l) :: StoreS st R'.hs :: pt w (.lst (R'.wait.map (wD R'.num))) :: pt c (IL R'.cnt) :: pt l (IL R'.lim) :: Row r :: L') A18 := S
    walk_at "sj"
    refine i_dgS (S.at_ 0) wDk_h ?_
    refine i_eqlE (S.at_ 5) (S.at_ 1) (cmp_sts _) rfl ?_
    walk_at "sj"
    refine i_twoF rfl ?_
    walk_at "sj"
    refine i_fldK (S.at_ 9) rfl ?_
    walk_at "sj"
    refine i_dgS (S.at_ 0) wDk_la ?_
    refine i_eqlE (S.at_ 12) (S.at_ 2) (cmp_tI _) rfl ?_
    walk_at "sj"
    refine i_twoF rfl ?_
    walk_at "sj"
    have S := (Hs.mkDisk (S.pick 15 [7, 8, 9, 10, 11, 12, 13, 14, 0, 1, 2, 3, 4, 6])).pick 13 [1, 2, 0, 3, 4, 5, 6, 7, 8, 9, 10, 11, 12]
    have S := Hs.mkRep (R := R') S
    have S := Hs.mkLaw (hs := R'.hs) (cnt := R'.cnt) (lim := R'.lim) (n := R'.num) (wait := R'.wait) (S.pick 8 [2, 3, 4, 5, 6, 0, 1, 7])
    refine nx _ _ ⟨R', b2, _, _, _, rfl, I2, en2.trans en, by rw [List.length_append, List.length_singleton]; omega, by rw [List.length_append, List.length_singleton]; omega, ?_⟩
    have S := S.pick 4 [3, 0, 1, 2]
    have S : Hs (pt b2 (IL (kb (R'.rows.take R'.sr))) :: LawS wd R'.hs R'.cnt R'.lim R'.num R'.wait :: RepS p R' :: Row r :: L') A18 := S
    exact Hs.keep4 S
  obtain ⟨R, b, o6, o7, o9, rfl, I, en, lr, lw, S⟩ := hI
  walk_at "sj"
  refine jmethS S 2 rfl (fun _ _ _ _ _ _ => rfl) ?_
  walk_at "sj"
  refine ⟨p, R, _, rfl, S.f 2, fun w A19 S => ?_⟩
  have S : Hs [pt w (.lst (R.wait.map (wD R.num))), RepS p R.sync, pt b _, LawS wd R.hs R.cnt R.lim R.num R.wait, Row r] A19 := S
  obtain ⟨hd, la, li, wa, S⟩ := (S.f 3).law
  walk_at "sj"
  refine i_dgS (S.at_ 0) wDk_wa ?_
  refine i_eqlE (S.at_ 5) (S.at_ 4) (cmp_waits _ _) rfl ?_
  exact K _
end Mu

namespace Mu
open PySem L2
/-! ## the text by places -/
def topS (i : Nat) : Stmt := PySem.Challenge.pw_murmur_k14_replicas_start_again.main.body.getD i (.Pass ⟨0, 0, 0, 0⟩)
section
abbrev s_is_number : Stmt := topS 10
abbrev N_is_number : List Str := ["thing", "low", "high"]
theorem sc_is_number : FnScope N_is_number ["thing", "low", "high"] (defScope s_is_number) := ⟨rfl, rfl, rfl, by decide +kernel, rfl, by decide +kernel, by decide +kernel⟩
abbrev s_covers : Stmt := topS 14
abbrev N_covers : List Str := ["seen", "version"]
theorem sc_covers : FnScope N_covers ["seen", "version"] (defScope s_covers) := ⟨rfl, rfl, rfl, by decide +kernel, rfl, by decide +kernel, by decide +kernel⟩
abbrev s_joined_seen : Stmt := topS 15
abbrev N_joined_seen : List Str := ["one", "two", "k"]
theorem sc_joined_seen : FnScope N_joined_seen ["one", "two"] (defScope s_joined_seen) := ⟨rfl, rfl, rfl, by decide +kernel, rfl, by decide +kernel, by decide +kernel⟩
abbrev s_code : Stmt := topS 19
abbrev N_code : List Str := ["state", "number", "k", "version", "part"]
theorem sc_code : FnScope N_code ["state"] (defScope s_code) := ⟨rfl, rfl, rfl, by decide +kernel, rfl, by decide +kernel, by decide +kernel⟩
abbrev s_check_byte : Stmt := topS 24
abbrev N_check_byte : List Str := ["part", "total", "byte"]
theorem sc_check_byte : FnScope N_check_byte ["part"] (defScope s_check_byte) := ⟨rfl, rfl, rfl, by decide +kernel, rfl, by decide +kernel, by decide +kernel⟩
abbrev s_Disk___init__ : Stmt := inClass (topS 29) 0
abbrev N_Disk___init__ : List Str := ["self"]
theorem sc_Disk___init__ : FnScope N_Disk___init__ ["self"] (defScope s_Disk___init__) := ⟨rfl, rfl, rfl, by decide +kernel, rfl, by decide +kernel, by decide +kernel⟩
abbrev s_Disk_sync : Stmt := inClass (topS 29) 2
abbrev N_Disk_sync : List Str := ["self"]
theorem sc_Disk_sync : FnScope N_Disk_sync ["self"] (defScope s_Disk_sync) := ⟨rfl, rfl, rfl, by decide +kernel, rfl, by decide +kernel, by decide +kernel⟩
abbrev s_Disk_cut : Stmt := inClass (topS 29) 3
abbrev N_Disk_cut : List Str := ["self", "left", "end"]
theorem sc_Disk_cut : FnScope N_Disk_cut ["self", "left"] (defScope s_Disk_cut) := ⟨rfl, rfl, rfl, by decide +kernel, rfl, by decide +kernel, by decide +kernel⟩
abbrev s_Disk_trim : Stmt := inClass (topS 29) 5
abbrev N_Disk_trim : List Str := ["self", "many"]
theorem sc_Disk_trim : FnScope N_Disk_trim ["self", "many"] (defScope s_Disk_trim) := ⟨rfl, rfl, rfl, by decide +kernel, rfl, by decide +kernel, by decide +kernel⟩
abbrev s_power : Stmt := topS 32
abbrev N_power : List Str := ["base", "exponent", "result"]
theorem sc_power : FnScope N_power ["base", "exponent"] (defScope s_power) := ⟨rfl, rfl, rfl, by decide +kernel, rfl, by decide +kernel, by decide +kernel⟩
abbrev s_Tree_total : Stmt := inClass (topS 33) 2
abbrev N_Tree_total : List Str := ["self", "low", "high"]
theorem sc_Tree_total : FnScope N_Tree_total ["self", "low", "high"] (defScope s_Tree_total) := ⟨rfl, rfl, rfl, by decide +kernel, rfl, by decide +kernel, by decide +kernel⟩
abbrev s_Store_state : Stmt := inClass (topS 36) 1
abbrev N_Store_state : List Str := ["self", "key"]
theorem sc_Store_state : FnScope N_Store_state ["self", "key"] (defScope s_Store_state) := ⟨rfl, rfl, rfl, by decide +kernel, rfl, by decide +kernel, by decide +kernel⟩
abbrev s_Store_rows : Stmt := inClass (topS 36) 5
abbrev N_Store_rows : List Str := ["self", "key"]
theorem sc_Store_rows : FnScope N_Store_rows ["self"] (defScope s_Store_rows) := ⟨rfl, rfl, rfl, by decide +kernel, rfl, by decide +kernel, by decide +kernel⟩
abbrev s_q_stream : Stmt := topS 41
abbrev N_q_stream : List Str := ["_law_script", "_law_row", "_law_cell", "_law_left", "_law_k", "_law_seed"]
theorem sc_q_stream : FnScope N_q_stream ["_law_script"] (defScope s_q_stream) := ⟨rfl, rfl, rfl, by decide +kernel, rfl, by decide +kernel, by decide +kernel⟩
abbrev s_q_take : Stmt := topS 42
abbrev N_q_take : List Str := ["_law_row", "_law_many"]
theorem sc_q_take : FnScope N_q_take ["_law_row", "_law_many"] (defScope s_q_take) := ⟨rfl, rfl, rfl, by decide +kernel, rfl, by decide +kernel, by decide +kernel⟩
abbrev s_is_seen : Stmt := topS 11
abbrev N_is_seen : List Str := ["thing", "part"]
theorem sc_is_seen : FnScope N_is_seen ["thing"] (defScope s_is_seen) := ⟨rfl, rfl, rfl, by decide +kernel, rfl, by decide +kernel, by decide +kernel⟩
abbrev s_is_version : Stmt := topS 12
abbrev N_is_version : List Str := ["thing", "seen"]
theorem sc_is_version : FnScope N_is_version ["thing", "seen"] (defScope s_is_version) := ⟨rfl, rfl, rfl, by decide +kernel, rfl, by decide +kernel, by decide +kernel⟩
abbrev s_removed : Stmt := topS 17
abbrev N_removed : List Str := ["state", "seen", "versions", "version"]
theorem sc_removed : FnScope N_removed ["state", "seen"] (defScope s_removed) := ⟨rfl, rfl, rfl, by decide +kernel, rfl, by decide +kernel, by decide +kernel⟩
abbrev s_record : Stmt := topS 25
abbrev N_record : List Str := ["key", "state", "number", "found", "k"]
theorem sc_record : FnScope N_record ["key", "state"] (defScope s_record) := ⟨rfl, rfl, rfl, by decide +kernel, rfl, by decide +kernel, by decide +kernel⟩
abbrev s_is_record : Stmt := topS 26
abbrev N_is_record : List Str := ["part"]
theorem sc_is_record : FnScope N_is_record ["part"] (defScope s_is_record) := ⟨rfl, rfl, rfl, by decide +kernel, rfl, by decide +kernel, by decide +kernel⟩
abbrev s_Tree___init__ : Stmt := inClass (topS 33) 0
abbrev N_Tree___init__ : List Str := ["self", "numbers", "salt", "key", "node"]
theorem sc_Tree___init__ : FnScope N_Tree___init__ ["self", "numbers", "salt"] (defScope s_Tree___init__) := ⟨rfl, rfl, rfl, by decide +kernel, rfl, by decide +kernel, by decide +kernel⟩
abbrev s_Tree_change : Stmt := inClass (topS 33) 1
abbrev N_Tree_change : List Str := ["self", "key", "number", "node"]
theorem sc_Tree_change : FnScope N_Tree_change ["self", "key", "number"] (defScope s_Tree_change) := ⟨rfl, rfl, rfl, by decide +kernel, rfl, by decide +kernel, by decide +kernel⟩
abbrev s_Replica_sync : Stmt := inClass (topS 39) 6
abbrev N_Replica_sync : List Str := ["self", "told"]
theorem sc_Replica_sync : FnScope N_Replica_sync ["self"] (defScope s_Replica_sync) := ⟨rfl, rfl, rfl, by decide +kernel, rfl, by decide +kernel, by decide +kernel⟩
abbrev s_q_state : Stmt := topS 43
abbrev N_q_state : List Str := ["_law_row", "_law_seen", "_law_k", "_law_versions", "_law_count"]
theorem sc_q_state : FnScope N_q_state ["_law_row"] (defScope s_q_state) := ⟨rfl, rfl, rfl, by decide +kernel, rfl, by decide +kernel, by decide +kernel⟩
abbrev s_is_state : Stmt := topS 13
abbrev N_is_state : List Str := ["thing", "versions", "version", "k"]
theorem sc_is_state : FnScope N_is_state ["thing"] (defScope s_is_state) := ⟨rfl, rfl, rfl, by decide +kernel, rfl, by decide +kernel, by decide +kernel⟩
abbrev s_written : Stmt := topS 16
abbrev N_written : List Str := ["state", "replica", "count", "value", "seen", "versions", "version", "own", "k"]
theorem sc_written : FnScope N_written ["state", "replica", "count", "value", "seen"] (defScope s_written) := ⟨rfl, rfl, rfl, by decide +kernel, rfl, by decide +kernel, by decide +kernel⟩
abbrev s_Disk_append : Stmt := inClass (topS 29) 1
abbrev N_Disk_append : List Str := ["self", "key", "state"]
theorem sc_Disk_append : FnScope N_Disk_append ["self", "key", "state"] (defScope s_Disk_append) := ⟨rfl, rfl, rfl, by decide +kernel, rfl, by decide +kernel, by decide +kernel⟩
abbrev s_Disk_replace : Stmt := inClass (topS 29) 4
abbrev N_Disk_replace : List Str := ["self", "rows", "left", "fresh", "key", "state"]
theorem sc_Disk_replace : FnScope N_Disk_replace ["self", "rows", "left"] (defScope s_Disk_replace) := ⟨rfl, rfl, rfl, by decide +kernel, rfl, by decide +kernel, by decide +kernel⟩
abbrev s_Store___init__ : Stmt := inClass (topS 36) 0
abbrev N_Store___init__ : List Str := ["self", "size"]
theorem sc_Store___init__ : FnScope N_Store___init__ ["self", "size"] (defScope s_Store___init__) := ⟨rfl, rfl, rfl, by decide +kernel, rfl, by decide +kernel, by decide +kernel⟩
abbrev s_Replica_next_count : Stmt := inClass (topS 39) 2
abbrev N_Replica_next_count : List Str := ["self", "key", "count"]
theorem sc_Replica_next_count : FnScope N_Replica_next_count ["self", "key"] (defScope s_Replica_next_count) := ⟨rfl, rfl, rfl, by decide +kernel, rfl, by decide +kernel, by decide +kernel⟩
abbrev s_checked : Stmt := topS 18
abbrev N_checked : List Str := ["state"]
theorem sc_checked : FnScope N_checked ["state"] (defScope s_checked) := ⟨rfl, rfl, rfl, by decide +kernel, rfl, by decide +kernel, by decide +kernel⟩
abbrev s_decoded : Stmt := topS 20
abbrev N_decoded : List Str := ["number", "whole", "seen", "k", "versions", "value", "count", "state"]
theorem sc_decoded : FnScope N_decoded ["number"] (defScope s_decoded) := ⟨rfl, rfl, rfl, by decide +kernel, rfl, by decide +kernel, by decide +kernel⟩
abbrev s_Store_total : Stmt := inClass (topS 36) 4
abbrev N_Store_total : List Str := ["self", "low", "high", "salt", "state"]
theorem sc_Store_total : FnScope N_Store_total ["self", "low", "high", "salt"] (defScope s_Store_total) := ⟨rfl, rfl, rfl, by decide +kernel, rfl, by decide +kernel, by decide +kernel⟩
abbrev s_read_record : Stmt := topS 27
abbrev N_read_record : List Str := ["part", "number", "k"]
theorem sc_read_record : FnScope N_read_record ["part"] (defScope s_read_record) := ⟨rfl, rfl, rfl, by decide +kernel, rfl, by decide +kernel, by decide +kernel⟩
abbrev s_Store_place : Stmt := inClass (topS 36) 2
abbrev N_Store_place : List Str := ["self", "key", "state", "tree"]
theorem sc_Store_place : FnScope N_Store_place ["self", "key", "state"] (defScope s_Store_place) := ⟨rfl, rfl, rfl, by decide +kernel, rfl, by decide +kernel, by decide +kernel⟩
abbrev s_Replica___init__ : Stmt := inClass (topS 39) 0
abbrev N_Replica___init__ : List Str := ["self", "number", "size"]
theorem sc_Replica___init__ : FnScope N_Replica___init__ ["self", "number", "size"] (defScope s_Replica___init__) := ⟨rfl, rfl, rfl, by decide +kernel, rfl, by decide +kernel, by decide +kernel⟩
abbrev s_recover : Stmt := topS 28
abbrev N_recover : List Str := ["data", "size", "found", "at", "key", "state"]
theorem sc_recover : FnScope N_recover ["data", "size"] (defScope s_recover) := ⟨rfl, rfl, rfl, by decide +kernel, rfl, by decide +kernel, by decide +kernel⟩
abbrev s_Replica_keep : Stmt := inClass (topS 39) 1
abbrev N_Replica_keep : List Str := ["self", "key", "state"]
theorem sc_Replica_keep : FnScope N_Replica_keep ["self", "key", "state"] (defScope s_Replica_keep) := ⟨rfl, rfl, rfl, by decide +kernel, rfl, by decide +kernel, by decide +kernel⟩
abbrev s_Replica_write : Stmt := inClass (topS 39) 3
abbrev N_Replica_write : List Str := ["self", "key", "value", "seen", "count", "state"]
theorem sc_Replica_write : FnScope N_Replica_write ["self", "key", "value", "seen"] (defScope s_Replica_write) := ⟨rfl, rfl, rfl, by decide +kernel, rfl, by decide +kernel, by decide +kernel⟩
abbrev s_Replica_remove : Stmt := inClass (topS 39) 4
abbrev N_Replica_remove : List Str := ["self", "key", "seen"]
theorem sc_Replica_remove : FnScope N_Replica_remove ["self", "key", "seen"] (defScope s_Replica_remove) := ⟨rfl, rfl, rfl, by decide +kernel, rfl, by decide +kernel, by decide +kernel⟩
abbrev s_Replica_crash : Stmt := inClass (topS 39) 7
abbrev N_Replica_crash : List Str := ["self", "left", "size", "found", "key", "state"]
theorem sc_Replica_crash : FnScope N_Replica_crash ["self", "left"] (defScope s_Replica_crash) := ⟨rfl, rfl, rfl, by decide +kernel, rfl, by decide +kernel, by decide +kernel⟩
abbrev s_q_after : Stmt := topS 44
abbrev N_q_after : List Str := ["_law_data", "_law_size", "_law_held", "_law_key", "_law_state_here"]
theorem sc_q_after : FnScope N_q_after ["_law_data", "_law_size"] (defScope s_q_after) := ⟨rfl, rfl, rfl, by decide +kernel, rfl, by decide +kernel, by decide +kernel⟩
abbrev s_Replica_pack : Stmt := inClass (topS 39) 8
abbrev N_Replica_pack : List Str := ["self", "left", "done"]
theorem sc_Replica_pack : FnScope N_Replica_pack ["self", "left"] (defScope s_Replica_pack) := ⟨rfl, rfl, rfl, by decide +kernel, rfl, by decide +kernel, by decide +kernel⟩
abbrev s_q_full : Stmt := topS 45
abbrev N_q_full : List Str := ["_law_replica", "_law_key", "_law_seen", "e"]
theorem sc_q_full : FnScope N_q_full ["_law_replica", "_law_key", "_law_seen"] (defScope s_q_full) := ⟨rfl, rfl, rfl, by decide +kernel, rfl, by decide +kernel, by decide +kernel⟩
abbrev s_q_crashed : Stmt := topS 47
abbrev N_q_crashed : List Str := ["_law_w", "_law_data", "_law_size"]
theorem sc_q_crashed : FnScope N_q_crashed ["_law_w", "_law_data", "_law_size"] (defScope s_q_crashed) := ⟨rfl, rfl, rfl, by decide +kernel, rfl, by decide +kernel, by decide +kernel⟩
abbrev s_q_write : Stmt := topS 46
abbrev N_q_write : List Str := ["_law_replica", "_law_number", "_law_w", "_law_key", "_law_value", "_law_seen", "_law_due", "_law_old", "_law_stays", "_law_one", "_law_both", "_law_k"]
theorem sc_q_write : FnScope N_q_write ["_law_replica", "_law_number", "_law_w", "_law_key", "_law_value", "_law_seen"] (defScope s_q_write) := ⟨rfl, rfl, rfl, by decide +kernel, rfl, by decide +kernel, by decide +kernel⟩
abbrev s_q_crash : Stmt := topS 48
abbrev N_q_crash : List Str := ["_law_replica", "_law_w", "_law_left", "_law_size", "_law_data", "_law_many"]
theorem sc_q_crash : FnScope N_q_crash ["_law_replica", "_law_w", "_law_left", "_law_size"] (defScope s_q_crash) := ⟨rfl, rfl, rfl, by decide +kernel, rfl, by decide +kernel, by decide +kernel⟩
abbrev s_q_pack : Stmt := topS 49
abbrev N_q_pack : List Str := ["_law_replica", "_law_w", "_law_left", "_law_base", "_law_size", "_law_rows", "_law_k", "_law_told"]
theorem sc_q_pack : FnScope N_q_pack ["_law_replica", "_law_w", "_law_left", "_law_base", "_law_size"] (defScope s_q_pack) := ⟨rfl, rfl, rfl, by decide +kernel, rfl, by decide +kernel, by decide +kernel⟩
abbrev s_q_step : Stmt := topS 50
abbrev N_q_step : List Str := ["_law_row", "_law_replica", "_law_number", "_law_w", "_law_base", "_law_turn", "_law_size", "_law_kind", "_law_key", "_law_held", "_law_seen", "_law_k", "_law_told", "_law_due"]
theorem sc_q_step : FnScope N_q_step ["_law_row", "_law_replica", "_law_number", "_law_w", "_law_base", "_law_turn", "_law_size"] (defScope s_q_step) := ⟨rfl, rfl, rfl, by decide +kernel, rfl, by decide +kernel, by decide +kernel⟩
abbrev s_law : Stmt := topS 51
abbrev N_law : List Str := ["_law_script", "_law_row", "_law_size", "_law_number", "_law_replica", "_law_w", "_law_early", "_law_turn", "_law_base", "_law_k"]
theorem sc_law : FnScope N_law ["_law_script"] (defScope s_law) := ⟨rfl, rfl, rfl, by decide +kernel, rfl, by decide +kernel, by decide +kernel⟩
end
abbrev s_Invalid___init__ : Stmt := inClass (topS 3) 0
abbrev s_Full___init__ : Stmt := inClass (topS 4) 0
/-! ## what the top has written -/
structure Tx (P : Program) (K : PySem.W.Frag) (mg : Str → Option Value) where
  u_REPLICAS : Value
  w_REPLICAS : V
  m_REPLICAS : mg "REPLICAS" = some u_REPLICAS
  v_REPLICAS : RelV w_REPLICAS u_REPLICAS
  r_REPLICAS : ∀ H, Rp K H w_REPLICAS k_REPLICAS
  u_MAX_COUNT : Value
  w_MAX_COUNT : V
  m_MAX_COUNT : mg "MAX_COUNT" = some u_MAX_COUNT
  v_MAX_COUNT : RelV w_MAX_COUNT u_MAX_COUNT
  r_MAX_COUNT : ∀ H, Rp K H w_MAX_COUNT k_MAX_COUNT
  u_MAX_VALUE : Value
  w_MAX_VALUE : V
  m_MAX_VALUE : mg "MAX_VALUE" = some u_MAX_VALUE
  v_MAX_VALUE : RelV w_MAX_VALUE u_MAX_VALUE
  r_MAX_VALUE : ∀ H, Rp K H w_MAX_VALUE k_MAX_VALUE
  u_EMPTY : Value
  w_EMPTY : V
  m_EMPTY : mg "EMPTY" = some u_EMPTY
  v_EMPTY : RelV w_EMPTY u_EMPTY
  r_EMPTY : ∀ H, Rp K H w_EMPTY k_EMPTY
  u_RECORD : Value
  w_RECORD : V
  m_RECORD : mg "RECORD" = some u_RECORD
  v_RECORD : RelV w_RECORD u_RECORD
  r_RECORD : ∀ H, Rp K H w_RECORD k_RECORD
  u_MARK : Value
  w_MARK : V
  m_MARK : mg "MARK" = some u_MARK
  v_MARK : RelV w_MARK u_MARK
  r_MARK : ∀ H, Rp K H w_MARK k_MARK
  u_PRIME : Value
  w_PRIME : V
  m_PRIME : mg "PRIME" = some u_PRIME
  v_PRIME : RelV w_PRIME u_PRIME
  r_PRIME : ∀ H, Rp K H w_PRIME k_PRIME
  u_SIZES : Value
  w_SIZES : V
  m_SIZES : mg "SIZES" = some u_SIZES
  v_SIZES : RelV w_SIZES u_SIZES
  r_SIZES : ∀ H, Rp K H w_SIZES k_SIZES
  u_AHEAD : Value
  w_AHEAD : V
  m_AHEAD : mg "AHEAD" = some u_AHEAD
  v_AHEAD : RelV w_AHEAD u_AHEAD
  r_AHEAD : ∀ H, Rp K H w_AHEAD k_AHEAD
  z_abs : mg "abs" = none
  z_all : mg "all" = none
  z_bool : mg "bool" = none
  z_int : mg "int" = none
  z_isinstance : mg "isinstance" = none
  z_len : mg "len" = none
  z_list : mg "list" = none
  z_max : mg "max" = none
  z_min : mg "min" = none
  z_range : mg "range" = none
  z_sorted : mg "sorted" = none
  z_super : mg "super" = none
  z_tuple : mg "tuple" = none
  a_Disk : Addr
  cl_Disk : Cls K a_Disk
  m_Disk : mg "Disk" = some (.ref a_Disk)
  a_Tree : Addr
  cl_Tree : Cls K a_Tree
  m_Tree : mg "Tree" = some (.ref a_Tree)
  a_Store : Addr
  cl_Store : Cls K a_Store
  m_Store : mg "Store" = some (.ref a_Store)
  a_Replica : Addr
  cl_Replica : Cls K a_Replica
  m_Replica : mg "Replica" = some (.ref a_Replica)
  f_is_number : Addr
  d_is_number : FuncData
  F_is_number : Fun K "is_number" "is_number" s_is_number f_is_number d_is_number
  b_is_number : Binds K d_is_number ["thing", "low", "high"] []
  m_is_number : mg "is_number" = some (.ref f_is_number)
  f_covers : Addr
  d_covers : FuncData
  F_covers : Fun K "covers" "covers" s_covers f_covers d_covers
  b_covers : Binds K d_covers ["seen", "version"] []
  m_covers : mg "covers" = some (.ref f_covers)
  f_joined_seen : Addr
  d_joined_seen : FuncData
  F_joined_seen : Fun K "joined_seen" "joined_seen" s_joined_seen f_joined_seen d_joined_seen
  b_joined_seen : Binds K d_joined_seen ["one", "two"] []
  m_joined_seen : mg "joined_seen" = some (.ref f_joined_seen)
  f_code : Addr
  d_code : FuncData
  F_code : Fun K "code" "code" s_code f_code d_code
  b_code : Binds K d_code ["state"] []
  m_code : mg "code" = some (.ref f_code)
  f_check_byte : Addr
  d_check_byte : FuncData
  F_check_byte : Fun K "check_byte" "check_byte" s_check_byte f_check_byte d_check_byte
  b_check_byte : Binds K d_check_byte ["part"] []
  m_check_byte : mg "check_byte" = some (.ref f_check_byte)
  f_Disk___init__ : Addr
  d_Disk___init__ : FuncData
  F_Disk___init__ : Fun K "__init__" "Disk.__init__" s_Disk___init__ f_Disk___init__ d_Disk___init__
  b_Disk___init__ : Binds K d_Disk___init__ ["self"] []
  mk_Disk : Mk K a_Disk f_Disk___init__
  f_Disk_sync : Addr
  d_Disk_sync : FuncData
  F_Disk_sync : Fun K "sync" "Disk.sync" s_Disk_sync f_Disk_sync d_Disk_sync
  b_Disk_sync : Binds K d_Disk_sync ["self"] []
  me_Disk_sync : Meth K a_Disk "sync" f_Disk_sync
  f_Disk_cut : Addr
  d_Disk_cut : FuncData
  F_Disk_cut : Fun K "cut" "Disk.cut" s_Disk_cut f_Disk_cut d_Disk_cut
  b_Disk_cut : Binds K d_Disk_cut ["self", "left"] []
  me_Disk_cut : Meth K a_Disk "cut" f_Disk_cut
  f_Disk_trim : Addr
  d_Disk_trim : FuncData
  F_Disk_trim : Fun K "trim" "Disk.trim" s_Disk_trim f_Disk_trim d_Disk_trim
  b_Disk_trim : Binds K d_Disk_trim ["self", "many"] []
  me_Disk_trim : Meth K a_Disk "trim" f_Disk_trim
  f_power : Addr
  d_power : FuncData
  F_power : Fun K "power" "power" s_power f_power d_power
  b_power : Binds K d_power ["base", "exponent"] []
  m_power : mg "power" = some (.ref f_power)
  f_Tree_total : Addr
  d_Tree_total : FuncData
  F_Tree_total : Fun K "total" "Tree.total" s_Tree_total f_Tree_total d_Tree_total
  b_Tree_total : Binds K d_Tree_total ["self", "low", "high"] []
  me_Tree_total : Meth K a_Tree "total" f_Tree_total
  f_Store_state : Addr
  d_Store_state : FuncData
  F_Store_state : Fun K "state" "Store.state" s_Store_state f_Store_state d_Store_state
  b_Store_state : Binds K d_Store_state ["self", "key"] []
  me_Store_state : Meth K a_Store "state" f_Store_state
  f_Store_rows : Addr
  d_Store_rows : FuncData
  F_Store_rows : Fun K "rows" "Store.rows" s_Store_rows f_Store_rows d_Store_rows
  b_Store_rows : Binds K d_Store_rows ["self"] []
  me_Store_rows : Meth K a_Store "rows" f_Store_rows
  f_q_stream : Addr
  d_q_stream : FuncData
  F_q_stream : Fun K "_law_stream" "_law_stream" s_q_stream f_q_stream d_q_stream
  b_q_stream : Binds K d_q_stream ["_law_script"] []
  m_q_stream : mg "_law_stream" = some (.ref f_q_stream)
  f_q_take : Addr
  d_q_take : FuncData
  F_q_take : Fun K "_law_take" "_law_take" s_q_take f_q_take d_q_take
  b_q_take : Binds K d_q_take ["_law_row", "_law_many"] []
  m_q_take : mg "_law_take" = some (.ref f_q_take)
  f_is_seen : Addr
  d_is_seen : FuncData
  F_is_seen : Fun K "is_seen" "is_seen" s_is_seen f_is_seen d_is_seen
  b_is_seen : Binds K d_is_seen ["thing"] []
  m_is_seen : mg "is_seen" = some (.ref f_is_seen)
  f_is_version : Addr
  d_is_version : FuncData
  F_is_version : Fun K "is_version" "is_version" s_is_version f_is_version d_is_version
  b_is_version : Binds K d_is_version ["thing", "seen"] []
  m_is_version : mg "is_version" = some (.ref f_is_version)
  f_removed : Addr
  d_removed : FuncData
  F_removed : Fun K "removed" "removed" s_removed f_removed d_removed
  b_removed : Binds K d_removed ["state", "seen"] []
  m_removed : mg "removed" = some (.ref f_removed)
  f_record : Addr
  d_record : FuncData
  F_record : Fun K "record" "record" s_record f_record d_record
  b_record : Binds K d_record ["key", "state"] []
  m_record : mg "record" = some (.ref f_record)
  f_is_record : Addr
  d_is_record : FuncData
  F_is_record : Fun K "is_record" "is_record" s_is_record f_is_record d_is_record
  b_is_record : Binds K d_is_record ["part"] []
  m_is_record : mg "is_record" = some (.ref f_is_record)
  f_Tree___init__ : Addr
  d_Tree___init__ : FuncData
  F_Tree___init__ : Fun K "__init__" "Tree.__init__" s_Tree___init__ f_Tree___init__ d_Tree___init__
  b_Tree___init__ : Binds K d_Tree___init__ ["self", "numbers", "salt"] []
  mk_Tree : Mk K a_Tree f_Tree___init__
  f_Tree_change : Addr
  d_Tree_change : FuncData
  F_Tree_change : Fun K "change" "Tree.change" s_Tree_change f_Tree_change d_Tree_change
  b_Tree_change : Binds K d_Tree_change ["self", "key", "number"] []
  me_Tree_change : Meth K a_Tree "change" f_Tree_change
  f_Replica_sync : Addr
  d_Replica_sync : FuncData
  F_Replica_sync : Fun K "sync" "Replica.sync" s_Replica_sync f_Replica_sync d_Replica_sync
  b_Replica_sync : Binds K d_Replica_sync ["self"] []
  me_Replica_sync : Meth K a_Replica "sync" f_Replica_sync
  f_q_state : Addr
  d_q_state : FuncData
  F_q_state : Fun K "_law_state" "_law_state" s_q_state f_q_state d_q_state
  b_q_state : Binds K d_q_state ["_law_row"] []
  m_q_state : mg "_law_state" = some (.ref f_q_state)
  f_is_state : Addr
  d_is_state : FuncData
  F_is_state : Fun K "is_state" "is_state" s_is_state f_is_state d_is_state
  b_is_state : Binds K d_is_state ["thing"] []
  m_is_state : mg "is_state" = some (.ref f_is_state)
  f_written : Addr
  d_written : FuncData
  F_written : Fun K "written" "written" s_written f_written d_written
  b_written : Binds K d_written ["state", "replica", "count", "value", "seen"] []
  m_written : mg "written" = some (.ref f_written)
  f_Disk_append : Addr
  d_Disk_append : FuncData
  F_Disk_append : Fun K "append" "Disk.append" s_Disk_append f_Disk_append d_Disk_append
  b_Disk_append : Binds K d_Disk_append ["self", "key", "state"] []
  me_Disk_append : Meth K a_Disk "append" f_Disk_append
  f_Disk_replace : Addr
  d_Disk_replace : FuncData
  F_Disk_replace : Fun K "replace" "Disk.replace" s_Disk_replace f_Disk_replace d_Disk_replace
  b_Disk_replace : Binds K d_Disk_replace ["self", "rows", "left"] []
  me_Disk_replace : Meth K a_Disk "replace" f_Disk_replace
  f_Store___init__ : Addr
  d_Store___init__ : FuncData
  F_Store___init__ : Fun K "__init__" "Store.__init__" s_Store___init__ f_Store___init__ d_Store___init__
  b_Store___init__ : Binds K d_Store___init__ ["self", "size"] []
  mk_Store : Mk K a_Store f_Store___init__
  f_Replica_next_count : Addr
  d_Replica_next_count : FuncData
  F_Replica_next_count : Fun K "next_count" "Replica.next_count" s_Replica_next_count f_Replica_next_count d_Replica_next_count
  b_Replica_next_count : Binds K d_Replica_next_count ["self", "key"] []
  me_Replica_next_count : Meth K a_Replica "next_count" f_Replica_next_count
  f_checked : Addr
  d_checked : FuncData
  F_checked : Fun K "checked" "checked" s_checked f_checked d_checked
  b_checked : Binds K d_checked ["state"] []
  m_checked : mg "checked" = some (.ref f_checked)
  f_decoded : Addr
  d_decoded : FuncData
  F_decoded : Fun K "decoded" "decoded" s_decoded f_decoded d_decoded
  b_decoded : Binds K d_decoded ["number"] []
  m_decoded : mg "decoded" = some (.ref f_decoded)
  f_Store_total : Addr
  d_Store_total : FuncData
  F_Store_total : Fun K "total" "Store.total" s_Store_total f_Store_total d_Store_total
  b_Store_total : Binds K d_Store_total ["self", "low", "high", "salt"] []
  f_read_record : Addr
  d_read_record : FuncData
  F_read_record : Fun K "read_record" "read_record" s_read_record f_read_record d_read_record
  b_read_record : Binds K d_read_record ["part"] []
  m_read_record : mg "read_record" = some (.ref f_read_record)
  f_Store_place : Addr
  d_Store_place : FuncData
  F_Store_place : Fun K "place" "Store.place" s_Store_place f_Store_place d_Store_place
  b_Store_place : Binds K d_Store_place ["self", "key", "state"] []
  me_Store_place : Meth K a_Store "place" f_Store_place
  f_Replica___init__ : Addr
  d_Replica___init__ : FuncData
  F_Replica___init__ : Fun K "__init__" "Replica.__init__" s_Replica___init__ f_Replica___init__ d_Replica___init__
  b_Replica___init__ : Binds K d_Replica___init__ ["self", "number", "size"] []
  mk_Replica : Mk K a_Replica f_Replica___init__
  f_recover : Addr
  d_recover : FuncData
  F_recover : Fun K "recover" "recover" s_recover f_recover d_recover
  b_recover : Binds K d_recover ["data", "size"] []
  m_recover : mg "recover" = some (.ref f_recover)
  f_Replica_keep : Addr
  d_Replica_keep : FuncData
  F_Replica_keep : Fun K "keep" "Replica.keep" s_Replica_keep f_Replica_keep d_Replica_keep
  b_Replica_keep : Binds K d_Replica_keep ["self", "key", "state"] []
  me_Replica_keep : Meth K a_Replica "keep" f_Replica_keep
  f_Replica_write : Addr
  d_Replica_write : FuncData
  F_Replica_write : Fun K "write" "Replica.write" s_Replica_write f_Replica_write d_Replica_write
  b_Replica_write : Binds K d_Replica_write ["self", "key", "value", "seen"] []
  me_Replica_write : Meth K a_Replica "write" f_Replica_write
  f_Replica_remove : Addr
  d_Replica_remove : FuncData
  F_Replica_remove : Fun K "remove" "Replica.remove" s_Replica_remove f_Replica_remove d_Replica_remove
  b_Replica_remove : Binds K d_Replica_remove ["self", "key", "seen"] []
  me_Replica_remove : Meth K a_Replica "remove" f_Replica_remove
  f_Replica_crash : Addr
  d_Replica_crash : FuncData
  F_Replica_crash : Fun K "crash" "Replica.crash" s_Replica_crash f_Replica_crash d_Replica_crash
  b_Replica_crash : Binds K d_Replica_crash ["self", "left"] []
  me_Replica_crash : Meth K a_Replica "crash" f_Replica_crash
  f_q_after : Addr
  d_q_after : FuncData
  F_q_after : Fun K "_law_after" "_law_after" s_q_after f_q_after d_q_after
  b_q_after : Binds K d_q_after ["_law_data", "_law_size"] []
  m_q_after : mg "_law_after" = some (.ref f_q_after)
  f_Replica_pack : Addr
  d_Replica_pack : FuncData
  F_Replica_pack : Fun K "pack" "Replica.pack" s_Replica_pack f_Replica_pack d_Replica_pack
  b_Replica_pack : Binds K d_Replica_pack ["self", "left"] []
  me_Replica_pack : Meth K a_Replica "pack" f_Replica_pack
  f_q_full : Addr
  d_q_full : FuncData
  F_q_full : Fun K "_law_full" "_law_full" s_q_full f_q_full d_q_full
  b_q_full : Binds K d_q_full ["_law_replica", "_law_key", "_law_seen"] []
  m_q_full : mg "_law_full" = some (.ref f_q_full)
  f_q_crashed : Addr
  d_q_crashed : FuncData
  F_q_crashed : Fun K "_law_crashed" "_law_crashed" s_q_crashed f_q_crashed d_q_crashed
  b_q_crashed : Binds K d_q_crashed ["_law_w", "_law_data", "_law_size"] []
  m_q_crashed : mg "_law_crashed" = some (.ref f_q_crashed)
  f_q_write : Addr
  d_q_write : FuncData
  F_q_write : Fun K "_law_write" "_law_write" s_q_write f_q_write d_q_write
  b_q_write : Binds K d_q_write ["_law_replica", "_law_number", "_law_w", "_law_key", "_law_value", "_law_seen"] []
  m_q_write : mg "_law_write" = some (.ref f_q_write)
  f_q_crash : Addr
  d_q_crash : FuncData
  F_q_crash : Fun K "_law_crash" "_law_crash" s_q_crash f_q_crash d_q_crash
  b_q_crash : Binds K d_q_crash ["_law_replica", "_law_w", "_law_left", "_law_size"] []
  m_q_crash : mg "_law_crash" = some (.ref f_q_crash)
  f_q_pack : Addr
  d_q_pack : FuncData
  F_q_pack : Fun K "_law_pack" "_law_pack" s_q_pack f_q_pack d_q_pack
  b_q_pack : Binds K d_q_pack ["_law_replica", "_law_w", "_law_left", "_law_base", "_law_size"] []
  m_q_pack : mg "_law_pack" = some (.ref f_q_pack)
  f_q_step : Addr
  d_q_step : FuncData
  F_q_step : Fun K "_law_step" "_law_step" s_q_step f_q_step d_q_step
  b_q_step : Binds K d_q_step ["_law_row", "_law_replica", "_law_number", "_law_w", "_law_base", "_law_turn", "_law_size"] []
  m_q_step : mg "_law_step" = some (.ref f_q_step)
  f_law : Addr
  d_law : FuncData
  F_law : Fun K "law" "law" s_law f_law d_law
  b_law : Binds K d_law ["_law_script"] []
  m_law : mg "law" = some (.ref f_law)
  fld_Disk_data : NoAttr K a_Disk "data"
  fld_Disk_safe : NoAttr K a_Disk "safe"
  fld_Replica_counts : NoAttr K a_Replica "counts"
  fld_Replica_disk : NoAttr K a_Replica "disk"
  fld_Replica_limits : NoAttr K a_Replica "limits"
  fld_Replica_number : NoAttr K a_Replica "number"
  fld_Replica_store : NoAttr K a_Replica "store"
  fld_Replica_waiting : NoAttr K a_Replica "waiting"
  fld_Store_held : NoAttr K a_Store "held"
  fld_Store_size : NoAttr K a_Store "size"
  fld_Store_trees : NoAttr K a_Store "trees"
  fld_Tree_nodes : NoAttr K a_Tree "nodes"
  fld_Tree_salt : NoAttr K a_Tree "salt"
  fld_Tree_size : NoAttr K a_Tree "size"
  a_Invalid : Addr
  m_Invalid : mg "Invalid" = some (.ref a_Invalid)
  f_Invalid___init__ : Addr
  d_Invalid___init__ : FuncData
  X_Invalid : SupE P K a_Invalid f_Invalid___init__ d_Invalid___init__ s_Invalid___init__ "__init__" "Invalid.__init__" "self" "name" "name"
  iI_Invalid : PySem.W.findIn K (.ref a_Invalid) "__init__" = some (some (.ref f_Invalid___init__))
  tI_Invalid : PySem.W.typeIn K (.ref f_Invalid___init__) = some (.type "function")
  bI_Invalid : Binds K d_Invalid___init__ ["self", "name"] []
  xf_Invalid : XfC K a_Invalid
  nf_Invalid : PySem.W.findIn K (.ref a_Invalid) "name" = some none
  ex_Invalid : PySem.W.exmOne K (.ref a_Invalid) (.ref a_Invalid) = some true
  a_Full : Addr
  m_Full : mg "Full" = some (.ref a_Full)
  f_Full___init__ : Addr
  d_Full___init__ : FuncData
  X_Full : SupE P K a_Full f_Full___init__ d_Full___init__ s_Full___init__ "__init__" "Full.__init__" "self" "name" "name"
  iI_Full : PySem.W.findIn K (.ref a_Full) "__init__" = some (some (.ref f_Full___init__))
  tI_Full : PySem.W.typeIn K (.ref f_Full___init__) = some (.type "function")
  bI_Full : Binds K d_Full___init__ ["self", "name"] []
  xf_Full : XfC K a_Full
  nf_Full : PySem.W.findIn K (.ref a_Full) "name" = some none
  ex_Full : PySem.W.exmOne K (.ref a_Full) (.ref a_Full) = some true
section
variable {P : Program} {w : World} {K : PySem.W.Frag} {mg : Str → Option Value} {base : Heap}
def Tx.κ (T : Tx P K mg) (c : String) : Addr := if c = "Disk" then T.a_Disk else if c = "Tree" then T.a_Tree else if c = "Store" then T.a_Store else if c = "Replica" then T.a_Replica else if c = "Invalid" then T.a_Invalid else if c = "Full" then T.a_Full else 0
theorem Tx.k_Disk (T : Tx P K mg) : T.κ "Disk" = T.a_Disk := by simp [Tx.κ]
theorem Tx.k_Tree (T : Tx P K mg) : T.κ "Tree" = T.a_Tree := by simp [Tx.κ]
theorem Tx.k_Store (T : Tx P K mg) : T.κ "Store" = T.a_Store := by simp [Tx.κ]
theorem Tx.k_Replica (T : Tx P K mg) : T.κ "Replica" = T.a_Replica := by simp [Tx.κ]
theorem Tx.k_Invalid (T : Tx P K mg) : T.κ "Invalid" = T.a_Invalid := by simp [Tx.κ]
theorem Tx.k_Full (T : Tx P K mg) : T.κ "Full" = T.a_Full := by simp [Tx.κ]
set_option maxHeartbeats 4000000 in
theorem ok_is_number (T : Tx P K mg) : FnOk P w K mg base (L2.CX P w) 1 T.f_is_number T.d_is_number ["thing", "low", "high"] (aSp T.κ K sp_is_number) := by
  refine okA (k := 0) (N := N_is_number) (T := T_is_number) T.F_is_number sc_is_number l_is_number (fun B cdv A outer s H E hκ hr => ?_) w_is_number
  obtain ⟨κ, H0, A0⟩ := B
  cases hκ
  exact ass_one (as_ret (ae_and (ae_cb (fun _ h => pe_callB call_isi (by rfl) T.z_isinstance (by decide +kernel) h) lk_isi (aa_cons (ae_var (pv 0)) (aa_cons (ae_c (pe_bltn (v := .ty "int") (by rfl) T.z_int (by decide +kernel) rfl) (fun _ => .ty _)) (aa_nil)))) (ae_and (ae_not (ae_cb (fun _ h => pe_callB call_isi (by rfl) T.z_isinstance (by decide +kernel) h) lk_isi (aa_cons (ae_var (pv 0)) (aa_cons (ae_c (pe_bltn (v := .ty "bool") (by rfl) T.z_bool (by decide +kernel) rfl) (fun _ => .ty _)) (aa_nil))))) (ae_one (ae_chain op_le op_le lk_cmp lk_cmp (ae_var (pv 1)) (ae_var (pv 0)) (ae_var (pv 2)))))))
set_option maxHeartbeats 4000000 in
theorem ok_covers (T : Tx P K mg) : FnOk P w K mg base (L2.CX P w) 1 T.f_covers T.d_covers ["seen", "version"] (aSp T.κ K sp_covers) := by
  refine okA (k := 0) (N := N_covers) (T := T_covers) T.F_covers sc_covers l_covers (fun B cdv A outer s H E hκ hr => ?_) w_covers
  obtain ⟨κ, H0, A0⟩ := B
  cases hκ
  exact ass_one (as_ret (ae_cmp op_le lk_cmp (ae_ix ix_seq lk_ix (ae_var (pv 1)) (ae_int) (fun _ _ => rfl)) (ae_ix ix_seq lk_ix (ae_var (pv 0)) (ae_ix ix_seq lk_ix (ae_var (pv 1)) (ae_int) (fun _ _ => rfl)) (fun _ _ => rfl)) (nomark _)))
set_option maxHeartbeats 4000000 in
theorem ok_joined_seen (T : Tx P K mg) : FnOk P w K mg base (L2.CX P w) 1 T.f_joined_seen T.d_joined_seen ["one", "two"] (aSp T.κ K sp_joined_seen) := by
  refine okA (k := 0) (N := N_joined_seen) (T := T_joined_seen) T.F_joined_seen sc_joined_seen l_joined_seen (fun B cdv A outer s H E hκ hr => ?_) w_joined_seen
  obtain ⟨κ, H0, A0⟩ := B
  cases hκ
  exact ass_one (as_ret (ae_cb (fun _ h => pe_callTy call_tuple_of (by rfl) T.z_tuple (by decide +kernel) h) lk_tup (aa_cons (ae_lc rfl sc_joined_seen.nd (ai_range1 (by rfl) T.z_range (aa_cons (ae_c (pe_glob (by rfl) T.m_REPLICAS T.v_REPLICAS) T.r_REPLICAS) (aa_nil))) (blkOk_by (N := N_joined_seen) (sc := defScope s_joined_seen) (by decide +kernel)) (fun _ _ _ _ _ => pg_name (i := 2) sc_joined_seen.nd rfl (Or.inl rfl)) (fun _ _ _ _ _ => ae_cb (fun _ h => pe_callB (call_max2 rfl) (by rfl) T.z_max (by decide +kernel) h) lk_max (aa_cons (ae_ix ix_seq lk_ix (ae_var (pv 0)) (ae_var (pv 2)) (fun _ _ => rfl)) (aa_cons (ae_ix ix_seq lk_ix (ae_var (pv 1)) (ae_var (pv 2)) (fun _ _ => rfl)) (aa_nil))))) (aa_nil))))
set_option maxHeartbeats 4000000 in
theorem ok_code (T : Tx P K mg) : FnOk P w K mg base (L2.CX P w) 1 T.f_code T.d_code ["state"] (aSp T.κ K sp_code) := by
  refine okA (k := 0) (N := N_code) (T := T_code) T.F_code sc_code l_code (fun B cdv A outer s H E hκ hr => ?_) w_code
  obtain ⟨κ, H0, A0⟩ := B
  cases hκ
  have HP := passes_of (X := cxOf (L2.CX P w) P w K mg base N_code "code" (defScope s_code) T.f_code cdv A outer s H E) rfl
  exact ass_cons (as_set (i := 1) sc_code.nd rfl (by first | exact Or.inl rfl | exact Or.inr rfl) (ae_cb (fun _ h => pe_callB call_lenA (by rfl) T.z_len (by decide +kernel) h) lk_len (aa_cons (ae_ix ix_seq lk_ix (ae_var (pv 0)) (ae_int) (fun _ _ => rfl)) (aa_nil)))) (ass_cons (as_for HP rfl (ai_range1 (by rfl) T.z_range (aa_cons (ae_c (pe_glob (by rfl) T.m_REPLICAS T.v_REPLICAS) T.r_REPLICAS) (aa_nil))) (ag_name (i := 2) sc_code.nd rfl (by first | exact Or.inl rfl | exact Or.inr rfl)) (ass_cons (as_set (i := 3) sc_code.nd rfl (by first | exact Or.inl rfl | exact Or.inr rfl) (ae_tup (aa_cons (ae_int) (aa_cons (ae_int) (aa_cons (ae_int) (aa_nil)))))) (ass_cons (as_if (at_cmp op_lt lk_cmp (ae_var (pv 2)) (ae_cb (fun _ h => pe_callB call_lenA (by rfl) T.z_len (by decide +kernel) h) lk_len (aa_cons (ae_ix ix_seq lk_ix (ae_var (pv 0)) (ae_int) (fun _ _ => rfl)) (aa_nil))) (nomark _)) (ass_one (as_set (i := 3) sc_code.nd rfl (by first | exact Or.inl rfl | exact Or.inr rfl) (ae_ix ix_seq lk_ix (ae_ix ix_seq lk_ix (ae_var (pv 0)) (ae_int) (fun _ _ => rfl)) (ae_var (pv 2)) (fun _ _ => rfl)))) (ass_nil)) (ass_one (as_set (i := 1) sc_code.nd rfl (by first | exact Or.inl rfl | exact Or.inr rfl) (ae_bin op_addA lk_add (ae_bin op_mulA lk_mul (ae_bin op_addA lk_add (ae_bin op_mulA lk_mul (ae_bin op_addA lk_add (ae_bin op_mulA lk_mul (ae_var (pv 1)) (ae_c (pe_glob (by rfl) T.m_REPLICAS T.v_REPLICAS) T.r_REPLICAS)) (ae_ix ix_seq lk_ix (ae_var (pv 3)) (ae_int) (fun _ _ => rfl))) (ae_bin op_addA lk_add (ae_c (pe_glob (by rfl) T.m_MAX_COUNT T.v_MAX_COUNT) T.r_MAX_COUNT) (ae_int))) (ae_ix ix_seq lk_ix (ae_var (pv 3)) (ae_int) (fun _ _ => rfl))) (ae_bin op_addA lk_add (ae_c (pe_glob (by rfl) T.m_MAX_VALUE T.v_MAX_VALUE) T.r_MAX_VALUE) (ae_int))) (ae_ix ix_seq lk_ix (ae_var (pv 3)) (ae_int) (fun _ _ => rfl)))))))) (ass_cons (as_for HP rfl (ai_tup (ae_ix ix_seq lk_ix (ae_var (pv 0)) (ae_int) (fun _ _ => rfl))) (ag_name (i := 4) sc_code.nd rfl (by first | exact Or.inl rfl | exact Or.inr rfl)) (ass_one (as_set (i := 1) sc_code.nd rfl (by first | exact Or.inl rfl | exact Or.inr rfl) (ae_bin op_addA lk_add (ae_bin op_mulA lk_mul (ae_var (pv 1)) (ae_bin op_addA lk_add (ae_c (pe_glob (by rfl) T.m_MAX_COUNT T.v_MAX_COUNT) T.r_MAX_COUNT) (ae_int))) (ae_var (pv 4)))))) (ass_one (as_ret (ae_var (pv 1))))))
set_option maxHeartbeats 4000000 in
theorem ok_check_byte (T : Tx P K mg) : FnOk P w K mg base (L2.CX P w) 1 T.f_check_byte T.d_check_byte ["part"] (aSp T.κ K sp_check_byte) := by
  refine okA (k := 0) (N := N_check_byte) (T := T_check_byte) T.F_check_byte sc_check_byte l_check_byte (fun B cdv A outer s H E hκ hr => ?_) w_check_byte
  obtain ⟨κ, H0, A0⟩ := B
  cases hκ
  have HP := passes_of (X := cxOf (L2.CX P w) P w K mg base N_check_byte "check_byte" (defScope s_check_byte) T.f_check_byte cdv A outer s H E) rfl
  exact ass_cons (as_set (i := 1) sc_check_byte.nd rfl (by first | exact Or.inl rfl | exact Or.inr rfl) (ae_c (pe_glob (by rfl) T.m_MARK T.v_MARK) T.r_MARK)) (ass_cons (as_for HP rfl (ai_list (ae_var (pv 0))) (ag_name (i := 2) sc_check_byte.nd rfl (by first | exact Or.inl rfl | exact Or.inr rfl)) (ass_one (as_set (i := 1) sc_check_byte.nd rfl (by first | exact Or.inl rfl | exact Or.inr rfl) (ae_bin op_mod lk_mod (ae_bin op_addA lk_add (ae_bin op_addA lk_add (ae_bin op_mulA lk_mul (ae_var (pv 1)) (ae_int)) (ae_var (pv 2))) (ae_int)) (ae_int))))) (ass_one (as_ret (ae_var (pv 1)))))
set_option maxHeartbeats 4000000 in
theorem ok_Disk___init__ (T : Tx P K mg) : FnOk P w K mg base (L2.CX P w) 1 T.f_Disk___init__ T.d_Disk___init__ ["self"] (aSp T.κ K sp_Disk___init__) := by
  refine okA (k := 0) (N := N_Disk___init__) (T := T_Disk___init__) T.F_Disk___init__ sc_Disk___init__ l_Disk___init__ (fun B cdv A outer s H E hκ hr => ?_) w_Disk___init__
  obtain ⟨κ, H0, A0⟩ := B
  cases hκ
  exact ass_cons (as_fld T.k_Disk T.cl_Disk T.fld_Disk_data (ae_var (pv 0)) (ae_lst (aa_nil))) (ass_one (as_fld T.k_Disk T.cl_Disk T.fld_Disk_safe (ae_var (pv 0)) (ae_int)))
set_option maxHeartbeats 4000000 in
theorem ok_Disk_sync (T : Tx P K mg) : FnOk P w K mg base (L2.CX P w) 1 T.f_Disk_sync T.d_Disk_sync ["self"] (aSp T.κ K sp_Disk_sync) := by
  refine okA (k := 0) (N := N_Disk_sync) (T := T_Disk_sync) T.F_Disk_sync sc_Disk_sync l_Disk_sync (fun B cdv A outer s H E hκ hr => ?_) w_Disk_sync
  obtain ⟨κ, H0, A0⟩ := B
  cases hκ
  exact ass_one (as_fld T.k_Disk T.cl_Disk T.fld_Disk_safe (ae_var (pv 0)) (ae_cb (fun _ h => pe_callB call_lenA (by rfl) T.z_len (by decide +kernel) h) lk_len (aa_cons (ae_fld T.k_Disk T.cl_Disk T.fld_Disk_data (ae_var (pv 0))) (aa_nil))))
set_option maxHeartbeats 4000000 in
theorem ok_Disk_cut (T : Tx P K mg) : FnOk P w K mg base (L2.CX P w) 1 T.f_Disk_cut T.d_Disk_cut ["self", "left"] (aSp T.κ K sp_Disk_cut) := by
  refine okA (k := 0) (N := N_Disk_cut) (T := T_Disk_cut) T.F_Disk_cut sc_Disk_cut l_Disk_cut (fun B cdv A outer s H E hκ hr => ?_) w_Disk_cut
  obtain ⟨κ, H0, A0⟩ := B
  cases hκ
  exact ass_cons (as_set (i := 2) sc_Disk_cut.nd rfl (by first | exact Or.inl rfl | exact Or.inr rfl) (ae_cb (fun _ h => pe_callB (call_min2 rfl) (by rfl) T.z_min (by decide +kernel) h) lk_min (aa_cons (ae_cb (fun _ h => pe_callB call_lenA (by rfl) T.z_len (by decide +kernel) h) lk_len (aa_cons (ae_fld T.k_Disk T.cl_Disk T.fld_Disk_data (ae_var (pv 0))) (aa_nil))) (aa_cons (ae_bin op_addA lk_add (ae_fld T.k_Disk T.cl_Disk T.fld_Disk_safe (ae_var (pv 0))) (ae_var (pv 1))) (aa_nil))))) (ass_one (as_fld T.k_Disk T.cl_Disk T.fld_Disk_data (ae_var (pv 0)) (ae_sl (ae_fld T.k_Disk T.cl_Disk T.fld_Disk_data (ae_var (pv 0))) (ao_none) (ao_some (ae_var (pv 2))))))
set_option maxHeartbeats 4000000 in
theorem ok_Disk_trim (T : Tx P K mg) : FnOk P w K mg base (L2.CX P w) 1 T.f_Disk_trim T.d_Disk_trim ["self", "many"] (aSp T.κ K sp_Disk_trim) := by
  refine okA (k := 0) (N := N_Disk_trim) (T := T_Disk_trim) T.F_Disk_trim sc_Disk_trim l_Disk_trim (fun B cdv A outer s H E hκ hr => ?_) w_Disk_trim
  obtain ⟨κ, H0, A0⟩ := B
  cases hκ
  exact ass_cons (as_fld T.k_Disk T.cl_Disk T.fld_Disk_data (ae_var (pv 0)) (ae_sl (ae_fld T.k_Disk T.cl_Disk T.fld_Disk_data (ae_var (pv 0))) (ao_none) (ao_some (ae_bin op_mulA lk_mul (ae_var (pv 1)) (ae_c (pe_glob (by rfl) T.m_RECORD T.v_RECORD) T.r_RECORD))))) (ass_one (as_fld T.k_Disk T.cl_Disk T.fld_Disk_safe (ae_var (pv 0)) (ae_cb (fun _ h => pe_callB call_lenA (by rfl) T.z_len (by decide +kernel) h) lk_len (aa_cons (ae_fld T.k_Disk T.cl_Disk T.fld_Disk_data (ae_var (pv 0))) (aa_nil)))))
set_option maxHeartbeats 4000000 in
theorem ok_power (T : Tx P K mg) : FnOk P w K mg base (L2.CX P w) 1 T.f_power T.d_power ["base", "exponent"] (aSp T.κ K sp_power) := by
  refine okA (k := 0) (N := N_power) (T := T_power) T.F_power sc_power l_power (fun B cdv A outer s H E hκ hr => ?_) w_power
  obtain ⟨κ, H0, A0⟩ := B
  cases hκ
  have HP := passes_of (X := cxOf (L2.CX P w) P w K mg base N_power "power" (defScope s_power) T.f_power cdv A outer s H E) rfl
  exact ass_cons (as_set (i := 2) sc_power.nd rfl (by first | exact Or.inl rfl | exact Or.inr rfl) (ae_int)) (ass_cons (as_set (i := 0) sc_power.nd rfl (by first | exact Or.inl rfl | exact Or.inr rfl) (ae_bin op_mod lk_mod (ae_var (pv 0)) (ae_c (pe_glob (by rfl) T.m_PRIME T.v_PRIME) T.r_PRIME))) (ass_cons (as_while HP (at_cmp op_gt lk_cmp (ae_var (pv 1)) (ae_int) (nomark _)) (ass_cons (as_if (at_cmp (op_eqD hr.units) lk_eq (ae_bin op_mod lk_mod (ae_var (pv 1)) (ae_int)) (ae_int) (nomark _)) (ass_one (as_set (i := 2) sc_power.nd rfl (by first | exact Or.inl rfl | exact Or.inr rfl) (ae_bin op_mod lk_mod (ae_bin op_mulA lk_mul (ae_var (pv 2)) (ae_var (pv 0))) (ae_c (pe_glob (by rfl) T.m_PRIME T.v_PRIME) T.r_PRIME)))) (ass_nil)) (ass_cons (as_set (i := 0) sc_power.nd rfl (by first | exact Or.inl rfl | exact Or.inr rfl) (ae_bin op_mod lk_mod (ae_bin op_mulA lk_mul (ae_var (pv 0)) (ae_var (pv 0))) (ae_c (pe_glob (by rfl) T.m_PRIME T.v_PRIME) T.r_PRIME))) (ass_one (as_set (i := 1) sc_power.nd rfl (by first | exact Or.inl rfl | exact Or.inr rfl) (ae_bin op_fdivW lk_div (ae_var (pv 1)) (ae_int))))))) (ass_one (as_ret (ae_var (pv 2))))))
set_option maxHeartbeats 4000000 in
theorem ok_Tree_total (T : Tx P K mg) : FnOk P w K mg base (L2.CX P w) 1 T.f_Tree_total T.d_Tree_total ["self", "low", "high"] (aSp T.κ K sp_Tree_total) := by
  refine okA (k := 0) (N := N_Tree_total) (T := T_Tree_total) T.F_Tree_total sc_Tree_total l_Tree_total (fun B cdv A outer s H E hκ hr => ?_) w_Tree_total
  obtain ⟨κ, H0, A0⟩ := B
  cases hκ
  exact ass_one (as_ret (ae_ix ix_seq lk_ix (ae_fld T.k_Tree T.cl_Tree T.fld_Tree_nodes (ae_var (pv 0))) (ae_bin op_fdivW lk_div (ae_bin op_addA lk_add (ae_fld T.k_Tree T.cl_Tree T.fld_Tree_size (ae_var (pv 0))) (ae_var (pv 1))) (ae_bin op_sub lk_sub (ae_var (pv 2)) (ae_var (pv 1)))) (fun _ _ => rfl)))
set_option maxHeartbeats 4000000 in
theorem ok_Store_state (T : Tx P K mg) : FnOk P w K mg base (L2.CX P w) 1 T.f_Store_state T.d_Store_state ["self", "key"] (aSp T.κ K sp_Store_state) := by
  refine okA (k := 0) (N := N_Store_state) (T := T_Store_state) T.F_Store_state sc_Store_state l_Store_state (fun B cdv A outer s H E hκ hr => ?_) w_Store_state
  obtain ⟨κ, H0, A0⟩ := B
  cases hκ
  exact ass_one (as_ret (ae_ix ix_seq lk_ix (ae_fld T.k_Store T.cl_Store T.fld_Store_held (ae_var (pv 0))) (ae_var (pv 1)) (fun _ _ => rfl)))
set_option maxHeartbeats 4000000 in
theorem ok_Store_rows (T : Tx P K mg) : FnOk P w K mg base (L2.CX P w) 1 T.f_Store_rows T.d_Store_rows ["self"] (aSp T.κ K sp_Store_rows) := by
  refine okA (k := 0) (N := N_Store_rows) (T := T_Store_rows) T.F_Store_rows sc_Store_rows l_Store_rows (fun B cdv A outer s H E hκ hr => ?_) w_Store_rows
  obtain ⟨κ, H0, A0⟩ := B
  cases hκ
  exact ass_one (as_ret (ae_lcif rfl sc_Store_rows.nd (ai_range1 (by rfl) T.z_range (aa_cons (ae_fld T.k_Store T.cl_Store T.fld_Store_size (ae_var (pv 0))) (aa_nil))) (blkOk_by (N := N_Store_rows) (sc := defScope s_Store_rows) (by decide +kernel)) (fun _ _ _ _ _ => pg_name (i := 1) sc_Store_rows.nd rfl (Or.inl rfl)) (fun _ _ _ _ _ => at_cmp (op_neD hr.units) lk_ne (ae_ix ix_seq lk_ix (ae_fld T.k_Store T.cl_Store T.fld_Store_held (ae_var (pv 0))) (ae_var (pv 1)) (fun _ _ => rfl)) (ae_c (pe_glob (by rfl) T.m_EMPTY T.v_EMPTY) T.r_EMPTY) (nomark _)) (fun _ _ _ _ _ => ae_tup (aa_cons (ae_var (pv 1)) (aa_cons (ae_ix ix_seq lk_ix (ae_fld T.k_Store T.cl_Store T.fld_Store_held (ae_var (pv 0))) (ae_var (pv 1)) (fun _ _ => rfl)) (aa_nil))))))
set_option maxHeartbeats 4000000 in
theorem ok_q_stream (T : Tx P K mg) : FnOk P w K mg base (L2.CX P w) 1 T.f_q_stream T.d_q_stream ["_law_script"] (aSp T.κ K sp_q_stream) := by
  refine okA (k := 0) (N := N_q_stream) (T := T_q_stream) T.F_q_stream sc_q_stream l_q_stream (fun B cdv A outer s H E hκ hr => ?_) w_q_stream
  obtain ⟨κ, H0, A0⟩ := B
  cases hκ
  have HP := passes_of (X := cxOf (L2.CX P w) P w K mg base N_q_stream "_law_stream" (defScope s_q_stream) T.f_q_stream cdv A outer s H E) rfl
  exact ass_cons (as_set (i := 1) sc_q_stream.nd rfl (by first | exact Or.inl rfl | exact Or.inr rfl) (ae_lst (aa_cons (ae_int) (aa_nil)))) (ass_cons (as_for HP rfl (ai_list (ae_sl (ae_var (pv 0)) (ao_none) (ao_some (ae_int)))) (ag_name (i := 2) sc_q_stream.nd rfl (by first | exact Or.inl rfl | exact Or.inr rfl)) (ass_cons (as_set (i := 3) sc_q_stream.nd rfl (by first | exact Or.inl rfl | exact Or.inr rfl) (ae_cb (fun _ h => pe_callB call_abs (by rfl) T.z_abs (by decide +kernel) h) lk_abs (aa_cons (ae_cb (fun _ h => pe_callTy call_int1 (by rfl) T.z_int (by decide +kernel) h) lk_intc (aa_cons (ae_var (pv 2)) (aa_nil))) (aa_nil)))) (ass_one (as_for HP rfl (ai_range1 (by rfl) T.z_range (aa_cons (ae_int) (aa_nil))) (ag_name (i := 4) sc_q_stream.nd rfl (by first | exact Or.inl rfl | exact Or.inr rfl)) (ass_cons (as_expr (ae_lm (fun _ _ h1 h2 => pe_bm PySem.F.plainAttrs_list PySem.F.slot_list_append PySem.F.type_list_append mt_append h1 h2) lk_app (ae_var (pv 1)) (aa_cons (ae_bin op_mod lk_mod (ae_var (pv 3)) (ae_int)) (aa_nil)))) (ass_cons (as_set (i := 3) sc_q_stream.nd rfl (by first | exact Or.inl rfl | exact Or.inr rfl) (ae_bin op_fdivW lk_div (ae_var (pv 3)) (ae_int))) (ass_one (as_if (at_cmp (op_eqD hr.units) lk_eq (ae_var (pv 3)) (ae_int) (nomark _)) (ass_one (as_break)) (ass_nil))))))))) (ass_cons (as_set (i := 5) sc_q_stream.nd rfl (by first | exact Or.inl rfl | exact Or.inr rfl) (ae_int)) (ass_cons (as_for HP rfl (ai_list (ae_sl (ae_var (pv 0)) (ao_none) (ao_some (ae_int)))) (ag_name (i := 2) sc_q_stream.nd rfl (by first | exact Or.inl rfl | exact Or.inr rfl)) (ass_one (as_set (i := 5) sc_q_stream.nd rfl (by first | exact Or.inl rfl | exact Or.inr rfl) (ae_bin op_mod lk_mod (ae_cb (fun _ h => pe_callTy call_int1 (by rfl) T.z_int (by decide +kernel) h) lk_intc (aa_cons (ae_bin op_addA lk_add (ae_bin op_addA lk_add (ae_bin op_mulA lk_mul (ae_var (pv 5)) (ae_int)) (ae_var (pv 2))) (ae_int)) (aa_nil))) (ae_int))))) (ass_cons (as_for HP rfl (ai_range1 (by rfl) T.z_range (aa_cons (ae_int) (aa_nil))) (ag_name (i := 4) sc_q_stream.nd rfl (by first | exact Or.inl rfl | exact Or.inr rfl)) (ass_cons (as_set (i := 5) sc_q_stream.nd rfl (by first | exact Or.inl rfl | exact Or.inr rfl) (ae_bin op_mod lk_mod (ae_cb (fun _ h => pe_callTy call_int1 (by rfl) T.z_int (by decide +kernel) h) lk_intc (aa_cons (ae_bin op_addA lk_add (ae_bin op_addA lk_add (ae_bin op_mulA lk_mul (ae_var (pv 5)) (ae_int)) (ae_bin op_mulA lk_mul (ae_var (pv 4)) (ae_int))) (ae_int)) (aa_nil))) (ae_int))) (ass_one (as_expr (ae_lm (fun _ _ h1 h2 => pe_bm PySem.F.plainAttrs_list PySem.F.slot_list_append PySem.F.type_list_append mt_append h1 h2) lk_app (ae_var (pv 1)) (aa_cons (ae_bin op_mod lk_mod (ae_bin op_fdivW lk_div (ae_var (pv 5)) (ae_int)) (ae_int)) (aa_nil))))))) (ass_one (as_ret (ae_var (pv 1))))))))
set_option maxHeartbeats 4000000 in
theorem ok_q_take (T : Tx P K mg) : FnOk P w K mg base (L2.CX P w) 1 T.f_q_take T.d_q_take ["_law_row", "_law_many"] (aSp T.κ K sp_q_take) := by
  refine okA (k := 0) (N := N_q_take) (T := T_q_take) T.F_q_take sc_q_take l_q_take (fun B cdv A outer s H E hκ hr => ?_) w_q_take
  obtain ⟨κ, H0, A0⟩ := B
  cases hκ
  exact ass_cons (as_if (at_cmp op_lt lk_cmp (ae_ix ix_seq lk_ix (ae_var (pv 0)) (ae_int) (fun _ _ => rfl)) (ae_cb (fun _ h => pe_callB call_lenA (by rfl) T.z_len (by decide +kernel) h) lk_len (aa_cons (ae_var (pv 0)) (aa_nil))) (nomark _)) (ass_cons (as_asg (ae_bin op_addA lk_add (ae_ix ix_seq lk_ix (ae_var (pv 0)) (ae_int) (fun _ _ => rfl)) (ae_int)) (ag_subL (ae_var (pv 0)) (ae_int))) (ass_one (as_ret (ae_bin op_mod lk_mod (ae_cb (fun _ h => pe_callTy call_int1 (by rfl) T.z_int (by decide +kernel) h) lk_intc (aa_cons (ae_ix ix_seq lk_ix (ae_var (pv 0)) (ae_bin op_sub lk_sub (ae_ix ix_seq lk_ix (ae_var (pv 0)) (ae_int) (fun _ _ => rfl)) (ae_int)) (fun _ _ => rfl)) (aa_nil))) (ae_var (pv 1)))))) (ass_nil)) (ass_one (as_ret (ae_int)))
set_option maxHeartbeats 4000000 in
theorem ok_is_seen (T : Tx P K mg) : FnOk P w K mg base (L2.CX P w) 2 T.f_is_seen T.d_is_seen ["thing"] (aSp T.κ K sp_is_seen) := by
  have g_is_number : FnOk P w K mg base (L2.CX P w) 1 T.f_is_number T.d_is_number ["thing", "low", "high"] (aSp T.κ K sp_is_number) := ok_is_number T
  refine okA (k := 1) (N := N_is_seen) (T := T_is_seen) T.F_is_seen sc_is_seen l_is_seen (fun B cdv A outer s H E hκ hr => ?_) w_is_seen
  obtain ⟨κ, H0, A0⟩ := B
  cases hκ
  exact ass_cons (as_if (AW.at_ (aw_or (at_not (at_tru (ae_cb (fun _ h => pe_callB call_isi (by rfl) T.z_isinstance (by decide +kernel) h) lk_isi (aa_cons (ae_var (pv 0)) (aa_cons (ae_c (pe_bltn (v := .ty "tuple") (by rfl) T.z_tuple (by decide +kernel) rfl) (fun _ => .ty _)) (aa_nil)))))) (aw_or1 (at_cmp (op_neD hr.units) lk_ne (ae_cb (fun _ h => pe_callB call_lenA (by rfl) T.z_len (by decide +kernel) h) lk_len (aa_cons (ae_var (pv 0)) (aa_nil))) (ae_c (pe_glob (by rfl) T.m_REPLICAS T.v_REPLICAS) T.r_REPLICAS) (nomark _))))) (ass_one (as_ret (ae_bl))) (ass_nil)) (ass_one (as_ret (ae_cb (fun _ h => pe_callB (cr_all rfl) (by rfl) T.z_all (by decide +kernel) h) lk_all (aa_cons (ae_lc rfl sc_is_seen.nd (ai_tup (ae_var (pv 0))) (blkOk_by (N := N_is_seen) (sc := defScope s_is_seen) (by decide +kernel)) (fun _ _ _ _ _ => pg_name (i := 1) sc_is_seen.nd rfl (Or.inl rfl)) (fun _ _ _ _ _ => ae_call g_is_number (hr.mono (by decide)) (by rfl) T.m_is_number T.F_is_number.kp T.b_is_number (aa_cons (ae_var (pv 1)) (aa_cons (ae_int) (aa_cons (ae_c (pe_glob (by rfl) T.m_MAX_COUNT T.v_MAX_COUNT) T.r_MAX_COUNT) (aa_nil)))))) (aa_nil)))))
set_option maxHeartbeats 4000000 in
theorem ok_is_version (T : Tx P K mg) : FnOk P w K mg base (L2.CX P w) 2 T.f_is_version T.d_is_version ["thing", "seen"] (aSp T.κ K sp_is_version) := by
  have g_is_number : FnOk P w K mg base (L2.CX P w) 1 T.f_is_number T.d_is_number ["thing", "low", "high"] (aSp T.κ K sp_is_number) := ok_is_number T
  refine okA (k := 1) (N := N_is_version) (T := T_is_version) T.F_is_version sc_is_version l_is_version (fun B cdv A outer s H E hκ hr => ?_) w_is_version
  obtain ⟨κ, H0, A0⟩ := B
  cases hκ
  exact ass_cons (as_if (AW.at_ (aw_or (at_not (at_tru (ae_cb (fun _ h => pe_callB call_isi (by rfl) T.z_isinstance (by decide +kernel) h) lk_isi (aa_cons (ae_var (pv 0)) (aa_cons (ae_c (pe_bltn (v := .ty "tuple") (by rfl) T.z_tuple (by decide +kernel) rfl) (fun _ => .ty _)) (aa_nil)))))) (aw_or1 (at_cmp (op_neD hr.units) lk_ne (ae_cb (fun _ h => pe_callB call_lenA (by rfl) T.z_len (by decide +kernel) h) lk_len (aa_cons (ae_var (pv 0)) (aa_nil))) (ae_int) (nomark _))))) (ass_one (as_ret (ae_bl))) (ass_nil)) (ass_cons (as_if (AW.at_ (aw_or (at_not (at_tru (ae_call g_is_number (hr.mono (by decide)) (by rfl) T.m_is_number T.F_is_number.kp T.b_is_number (aa_cons (ae_ix ix_seq lk_ix (ae_var (pv 0)) (ae_int) (fun _ _ => rfl)) (aa_cons (ae_int) (aa_cons (ae_bin op_sub lk_sub (ae_c (pe_glob (by rfl) T.m_REPLICAS T.v_REPLICAS) T.r_REPLICAS) (ae_int)) (aa_nil))))))) (aw_or1 (at_not (at_tru (ae_call g_is_number (hr.mono (by decide)) (by rfl) T.m_is_number T.F_is_number.kp T.b_is_number (aa_cons (ae_ix ix_seq lk_ix (ae_var (pv 0)) (ae_int) (fun _ _ => rfl)) (aa_cons (ae_int) (aa_cons (ae_c (pe_glob (by rfl) T.m_MAX_VALUE T.v_MAX_VALUE) T.r_MAX_VALUE) (aa_nil)))))))))) (ass_one (as_ret (ae_bl))) (ass_nil)) (ass_one (as_ret (ae_call g_is_number (hr.mono (by decide)) (by rfl) T.m_is_number T.F_is_number.kp T.b_is_number (aa_cons (ae_ix ix_seq lk_ix (ae_var (pv 0)) (ae_int) (fun _ _ => rfl)) (aa_cons (ae_int) (aa_cons (ae_ix ix_seq lk_ix (ae_var (pv 1)) (ae_ix ix_seq lk_ix (ae_var (pv 0)) (ae_int) (fun _ _ => rfl)) (fun _ _ => rfl)) (aa_nil))))))))
set_option maxHeartbeats 4000000 in
theorem ok_removed (T : Tx P K mg) : FnOk P w K mg base (L2.CX P w) 2 T.f_removed T.d_removed ["state", "seen"] (aSp T.κ K sp_removed) := by
  have g_joined_seen : FnOk P w K mg base (L2.CX P w) 1 T.f_joined_seen T.d_joined_seen ["one", "two"] (aSp T.κ K sp_joined_seen) := ok_joined_seen T
  have g_covers : FnOk P w K mg base (L2.CX P w) 1 T.f_covers T.d_covers ["seen", "version"] (aSp T.κ K sp_covers) := ok_covers T
  refine okA (k := 1) (N := N_removed) (T := T_removed) T.F_removed sc_removed l_removed (fun B cdv A outer s H E hκ hr => ?_) w_removed
  obtain ⟨κ, H0, A0⟩ := B
  cases hκ
  exact ass_cons (as_lcif (j := 2) rfl sc_removed.nd rfl rfl (sw_true rfl rfl rfl (by decide +kernel)) (ai_tup (ae_ix ix_seq lk_ix (ae_var (pv 0)) (ae_int) (fun _ _ => rfl))) (blkOk_by (N := N_removed) (sc := defScope s_removed) (by decide +kernel)) (fun _ _ _ _ _ => pg_name (i := 3) sc_removed.nd rfl (Or.inl rfl)) (fun _ _ _ _ _ => at_not (at_tru (ae_call g_covers (hr.mono (by decide)) (by rfl) T.m_covers T.F_covers.kp T.b_covers (aa_cons (ae_var (pv 1)) (aa_cons (ae_var (pv 3)) (aa_nil)))))) (fun _ _ _ _ _ => ae_var (pv 3))) (ass_one (as_ret (ae_tup (aa_cons (ae_call g_joined_seen (hr.mono (by decide)) (by rfl) T.m_joined_seen T.F_joined_seen.kp T.b_joined_seen (aa_cons (ae_ix ix_seq lk_ix (ae_var (pv 0)) (ae_int) (fun _ _ => rfl)) (aa_cons (ae_var (pv 1)) (aa_nil)))) (aa_cons (ae_cb (fun _ h => pe_callTy call_tuple_of (by rfl) T.z_tuple (by decide +kernel) h) lk_tup (aa_cons (ae_var (pv 2)) (aa_nil))) (aa_nil))))))
set_option maxHeartbeats 4000000 in
theorem ok_record (T : Tx P K mg) : FnOk P w K mg base (L2.CX P w) 2 T.f_record T.d_record ["key", "state"] (aSp T.κ K sp_record) := by
  have g_check_byte : FnOk P w K mg base (L2.CX P w) 1 T.f_check_byte T.d_check_byte ["part"] (aSp T.κ K sp_check_byte) := ok_check_byte T
  have g_code : FnOk P w K mg base (L2.CX P w) 1 T.f_code T.d_code ["state"] (aSp T.κ K sp_code) := ok_code T
  refine okA (k := 1) (N := N_record) (T := T_record) T.F_record sc_record l_record (fun B cdv A outer s H E hκ hr => ?_) w_record
  obtain ⟨κ, H0, A0⟩ := B
  cases hκ
  have HP := passes_of (X := cxOf (L2.CX P w) P w K mg base N_record "record" (defScope s_record) T.f_record cdv A outer s H E) rfl
  exact ass_cons (as_set (i := 2) sc_record.nd rfl (by first | exact Or.inl rfl | exact Or.inr rfl) (ae_call g_code (hr.mono (by decide)) (by rfl) T.m_code T.F_code.kp T.b_code (aa_cons (ae_var (pv 1)) (aa_nil)))) (ass_cons (as_set (i := 3) sc_record.nd rfl (by first | exact Or.inl rfl | exact Or.inr rfl) (ae_lst (aa_cons (ae_c (pe_glob (by rfl) T.m_MARK T.v_MARK) T.r_MARK) (aa_cons (ae_var (pv 0)) (aa_nil))))) (ass_cons (as_for HP rfl (ai_range1 (by rfl) T.z_range (aa_cons (ae_bin op_sub lk_sub (ae_c (pe_glob (by rfl) T.m_RECORD T.v_RECORD) T.r_RECORD) (ae_int)) (aa_nil))) (ag_name (i := 4) sc_record.nd rfl (by first | exact Or.inl rfl | exact Or.inr rfl)) (ass_cons (as_expr (ae_lm (fun _ _ h1 h2 => pe_bm PySem.F.plainAttrs_list PySem.F.slot_list_append PySem.F.type_list_append mt_append h1 h2) lk_app (ae_var (pv 3)) (aa_cons (ae_bin op_mod lk_mod (ae_var (pv 2)) (ae_int)) (aa_nil)))) (ass_one (as_set (i := 2) sc_record.nd rfl (by first | exact Or.inl rfl | exact Or.inr rfl) (ae_bin op_fdivW lk_div (ae_var (pv 2)) (ae_int)))))) (ass_cons (as_expr (ae_lm (fun _ _ h1 h2 => pe_bm PySem.F.plainAttrs_list PySem.F.slot_list_append PySem.F.type_list_append mt_append h1 h2) lk_app (ae_var (pv 3)) (aa_cons (ae_call g_check_byte (hr.mono (by decide)) (by rfl) T.m_check_byte T.F_check_byte.kp T.b_check_byte (aa_cons (ae_var (pv 3)) (aa_nil))) (aa_nil)))) (ass_one (as_ret (ae_var (pv 3)))))))
set_option maxHeartbeats 4000000 in
theorem ok_is_record (T : Tx P K mg) : FnOk P w K mg base (L2.CX P w) 2 T.f_is_record T.d_is_record ["part"] (aSp T.κ K sp_is_record) := by
  have g_check_byte : FnOk P w K mg base (L2.CX P w) 1 T.f_check_byte T.d_check_byte ["part"] (aSp T.κ K sp_check_byte) := ok_check_byte T
  refine okA (k := 1) (N := N_is_record) (T := T_is_record) T.F_is_record sc_is_record l_is_record (fun B cdv A outer s H E hκ hr => ?_) w_is_record
  obtain ⟨κ, H0, A0⟩ := B
  cases hκ
  exact ass_one (as_ret (ae_and (ae_cmp (op_eqD hr.units) lk_eq (ae_cb (fun _ h => pe_callB call_lenA (by rfl) T.z_len (by decide +kernel) h) lk_len (aa_cons (ae_var (pv 0)) (aa_nil))) (ae_c (pe_glob (by rfl) T.m_RECORD T.v_RECORD) T.r_RECORD) (nomark _)) (ae_and (ae_cmp (op_eqD hr.units) lk_eq (ae_ix ix_seq lk_ix (ae_var (pv 0)) (ae_int) (fun _ _ => rfl)) (ae_c (pe_glob (by rfl) T.m_MARK T.v_MARK) T.r_MARK) (nomark _)) (ae_one (ae_cmp (op_eqD hr.units) lk_eq (ae_ix ix_seq lk_ix (ae_var (pv 0)) (ae_neg (ae_int)) (fun _ _ => rfl)) (ae_call g_check_byte (hr.mono (by decide)) (by rfl) T.m_check_byte T.F_check_byte.kp T.b_check_byte (aa_cons (ae_sl (ae_var (pv 0)) (ao_none) (ao_some (ae_neg (ae_int)))) (aa_nil))) (nomark _))))))
set_option maxHeartbeats 4000000 in
theorem ok_Tree___init__ (T : Tx P K mg) : FnOk P w K mg base (L2.CX P w) 2 T.f_Tree___init__ T.d_Tree___init__ ["self", "numbers", "salt"] (aSp T.κ K sp_Tree___init__) := by
  have g_power : FnOk P w K mg base (L2.CX P w) 1 T.f_power T.d_power ["base", "exponent"] (aSp T.κ K sp_power) := ok_power T
  refine okA (k := 1) (N := N_Tree___init__) (T := T_Tree___init__) T.F_Tree___init__ sc_Tree___init__ l_Tree___init__ (fun B cdv A outer s H E hκ hr => ?_) w_Tree___init__
  obtain ⟨κ, H0, A0⟩ := B
  cases hκ
  have HP := passes_of (X := cxOf (L2.CX P w) P w K mg base N_Tree___init__ "Tree.__init__" (defScope s_Tree___init__) T.f_Tree___init__ cdv A outer s H E) rfl
  exact ass_cons (as_fld T.k_Tree T.cl_Tree T.fld_Tree_size (ae_var (pv 0)) (ae_cb (fun _ h => pe_callB call_lenA (by rfl) T.z_len (by decide +kernel) h) lk_len (aa_cons (ae_var (pv 1)) (aa_nil)))) (ass_cons (as_fld T.k_Tree T.cl_Tree T.fld_Tree_salt (ae_var (pv 0)) (ae_var (pv 2))) (ass_cons (as_fld T.k_Tree T.cl_Tree T.fld_Tree_nodes (ae_var (pv 0)) (ae_bin op_mulA lk_mul (ae_lst (aa_cons (ae_int) (aa_nil))) (ae_bin op_mulA lk_mul (ae_int) (ae_fld T.k_Tree T.cl_Tree T.fld_Tree_size (ae_var (pv 0)))))) (ass_cons (as_for HP rfl (ai_range1 (by rfl) T.z_range (aa_cons (ae_fld T.k_Tree T.cl_Tree T.fld_Tree_size (ae_var (pv 0))) (aa_nil))) (ag_name (i := 3) sc_Tree___init__.nd rfl (by first | exact Or.inl rfl | exact Or.inr rfl)) (ass_one (as_asg (ae_bin op_mod lk_mod (ae_bin op_mulA lk_mul (ae_ix ix_seq lk_ix (ae_var (pv 1)) (ae_var (pv 3)) (fun _ _ => rfl)) (ae_call g_power (hr.mono (by decide)) (by rfl) T.m_power T.F_power.kp T.b_power (aa_cons (ae_var (pv 2)) (aa_cons (ae_var (pv 3)) (aa_nil))))) (ae_c (pe_glob (by rfl) T.m_PRIME T.v_PRIME) T.r_PRIME)) (ag_subL (ae_fld T.k_Tree T.cl_Tree T.fld_Tree_nodes (ae_var (pv 0))) (ae_bin op_addA lk_add (ae_fld T.k_Tree T.cl_Tree T.fld_Tree_size (ae_var (pv 0))) (ae_var (pv 3))))))) (ass_one (as_for HP rfl (ai_range3 (by rfl) T.z_range (aa_cons (ae_bin op_sub lk_sub (ae_fld T.k_Tree T.cl_Tree T.fld_Tree_size (ae_var (pv 0))) (ae_int)) (aa_cons (ae_int) (aa_cons (ae_neg (ae_int)) (aa_nil)))) (fun _ h => pi_range3 (by rfl) T.z_range h)) (ag_name (i := 4) sc_Tree___init__.nd rfl (by first | exact Or.inl rfl | exact Or.inr rfl)) (ass_one (as_asg (ae_bin op_mod lk_mod (ae_bin op_addA lk_add (ae_ix ix_seq lk_ix (ae_fld T.k_Tree T.cl_Tree T.fld_Tree_nodes (ae_var (pv 0))) (ae_bin op_mulA lk_mul (ae_int) (ae_var (pv 4))) (fun _ _ => rfl)) (ae_ix ix_seq lk_ix (ae_fld T.k_Tree T.cl_Tree T.fld_Tree_nodes (ae_var (pv 0))) (ae_bin op_addA lk_add (ae_bin op_mulA lk_mul (ae_int) (ae_var (pv 4))) (ae_int)) (fun _ _ => rfl))) (ae_c (pe_glob (by rfl) T.m_PRIME T.v_PRIME) T.r_PRIME)) (ag_subL (ae_fld T.k_Tree T.cl_Tree T.fld_Tree_nodes (ae_var (pv 0))) (ae_var (pv 4))))))))))
set_option maxHeartbeats 4000000 in
theorem ok_Tree_change (T : Tx P K mg) : FnOk P w K mg base (L2.CX P w) 2 T.f_Tree_change T.d_Tree_change ["self", "key", "number"] (aSp T.κ K sp_Tree_change) := by
  have g_power : FnOk P w K mg base (L2.CX P w) 1 T.f_power T.d_power ["base", "exponent"] (aSp T.κ K sp_power) := ok_power T
  refine okA (k := 1) (N := N_Tree_change) (T := T_Tree_change) T.F_Tree_change sc_Tree_change l_Tree_change (fun B cdv A outer s H E hκ hr => ?_) w_Tree_change
  obtain ⟨κ, H0, A0⟩ := B
  cases hκ
  have HP := passes_of (X := cxOf (L2.CX P w) P w K mg base N_Tree_change "Tree.change" (defScope s_Tree_change) T.f_Tree_change cdv A outer s H E) rfl
  exact ass_cons (as_set (i := 3) sc_Tree_change.nd rfl (by first | exact Or.inl rfl | exact Or.inr rfl) (ae_bin op_addA lk_add (ae_fld T.k_Tree T.cl_Tree T.fld_Tree_size (ae_var (pv 0))) (ae_var (pv 1)))) (ass_cons (as_asg (ae_bin op_mod lk_mod (ae_bin op_mulA lk_mul (ae_var (pv 2)) (ae_call g_power (hr.mono (by decide)) (by rfl) T.m_power T.F_power.kp T.b_power (aa_cons (ae_fld T.k_Tree T.cl_Tree T.fld_Tree_salt (ae_var (pv 0))) (aa_cons (ae_var (pv 1)) (aa_nil))))) (ae_c (pe_glob (by rfl) T.m_PRIME T.v_PRIME) T.r_PRIME)) (ag_subL (ae_fld T.k_Tree T.cl_Tree T.fld_Tree_nodes (ae_var (pv 0))) (ae_var (pv 3)))) (ass_one (as_while HP (at_cmp op_gt lk_cmp (ae_var (pv 3)) (ae_int) (nomark _)) (ass_cons (as_set (i := 3) sc_Tree_change.nd rfl (by first | exact Or.inl rfl | exact Or.inr rfl) (ae_bin op_fdivW lk_div (ae_var (pv 3)) (ae_int))) (ass_one (as_asg (ae_bin op_mod lk_mod (ae_bin op_addA lk_add (ae_ix ix_seq lk_ix (ae_fld T.k_Tree T.cl_Tree T.fld_Tree_nodes (ae_var (pv 0))) (ae_bin op_mulA lk_mul (ae_int) (ae_var (pv 3))) (fun _ _ => rfl)) (ae_ix ix_seq lk_ix (ae_fld T.k_Tree T.cl_Tree T.fld_Tree_nodes (ae_var (pv 0))) (ae_bin op_addA lk_add (ae_bin op_mulA lk_mul (ae_int) (ae_var (pv 3))) (ae_int)) (fun _ _ => rfl))) (ae_c (pe_glob (by rfl) T.m_PRIME T.v_PRIME) T.r_PRIME)) (ag_subL (ae_fld T.k_Tree T.cl_Tree T.fld_Tree_nodes (ae_var (pv 0))) (ae_var (pv 3)))))))))
set_option maxHeartbeats 4000000 in
theorem ok_Replica_sync (T : Tx P K mg) : FnOk P w K mg base (L2.CX P w) 2 T.f_Replica_sync T.d_Replica_sync ["self"] (aSp T.κ K sp_Replica_sync) := by
  have g_Disk_sync : FnOk P w K mg base (L2.CX P w) 1 T.f_Disk_sync T.d_Disk_sync ["self"] (aSp T.κ K sp_Disk_sync) := ok_Disk_sync T
  refine okA (k := 1) (N := N_Replica_sync) (T := T_Replica_sync) T.F_Replica_sync sc_Replica_sync l_Replica_sync (fun B cdv A outer s H E hκ hr => ?_) w_Replica_sync
  obtain ⟨κ, H0, A0⟩ := B
  cases hκ
  exact ass_cons (as_expr (ae_meth0 T.k_Disk T.cl_Disk T.me_Disk_sync g_Disk_sync (hr.mono (by decide)) T.b_Disk_sync (ae_fld T.k_Replica T.cl_Replica T.fld_Replica_disk (ae_var (pv 0))))) (ass_cons (as_set (i := 1) sc_Replica_sync.nd rfl (by first | exact Or.inl rfl | exact Or.inr rfl) (ae_fld T.k_Replica T.cl_Replica T.fld_Replica_waiting (ae_var (pv 0)))) (ass_cons (as_fld T.k_Replica T.cl_Replica T.fld_Replica_waiting (ae_var (pv 0)) (ae_lst (aa_nil))) (ass_one (as_ret (ae_var (pv 1))))))
set_option maxHeartbeats 4000000 in
theorem ok_q_state (T : Tx P K mg) : FnOk P w K mg base (L2.CX P w) 2 T.f_q_state T.d_q_state ["_law_row"] (aSp T.κ K sp_q_state) := by
  have g_q_take : FnOk P w K mg base (L2.CX P w) 1 T.f_q_take T.d_q_take ["_law_row", "_law_many"] (aSp T.κ K sp_q_take) := ok_q_take T
  refine okA (k := 1) (N := N_q_state) (T := T_q_state) T.F_q_state sc_q_state l_q_state (fun B cdv A outer s H E hκ hr => ?_) w_q_state
  obtain ⟨κ, H0, A0⟩ := B
  cases hκ
  have HP := passes_of (X := cxOf (L2.CX P w) P w K mg base N_q_state "_law_state" (defScope s_q_state) T.f_q_state cdv A outer s H E) rfl
  exact ass_cons (as_lc (j := 1) rfl sc_q_state.nd rfl rfl (sw_true rfl rfl rfl (by decide +kernel)) (ai_range1 (by rfl) T.z_range (aa_cons (ae_int) (aa_nil))) (blkOk_by (N := N_q_state) (sc := defScope s_q_state) (by decide +kernel)) (fun _ _ _ _ _ => pg_name (i := 2) sc_q_state.nd rfl (Or.inl rfl)) (fun _ _ _ _ _ => ae_bin op_mulA lk_mul (ae_call g_q_take (hr.mono (by decide)) (by rfl) T.m_q_take T.F_q_take.kp T.b_q_take (aa_cons (ae_var (pv 0)) (aa_cons (ae_int) (aa_nil)))) (ae_call g_q_take (hr.mono (by decide)) (by rfl) T.m_q_take T.F_q_take.kp T.b_q_take (aa_cons (ae_var (pv 0)) (aa_cons (ae_int) (aa_nil)))))) (ass_cons (as_set (i := 3) sc_q_state.nd rfl (by first | exact Or.inl rfl | exact Or.inr rfl) (ae_lst (aa_nil))) (ass_cons (as_for HP rfl (ai_range1 (by rfl) T.z_range (aa_cons (ae_int) (aa_nil))) (ag_name (i := 2) sc_q_state.nd rfl (by first | exact Or.inl rfl | exact Or.inr rfl)) (ass_one (as_if (AW.at_ (aw_and (at_cmp op_gt lk_cmp (ae_ix ix_seq lk_ix (ae_var (pv 1)) (ae_var (pv 2)) (fun _ _ => rfl)) (ae_int) (nomark _)) (aw_and1 (at_cmp (op_eqD hr.units) lk_eq (ae_call g_q_take (hr.mono (by decide)) (by rfl) T.m_q_take T.F_q_take.kp T.b_q_take (aa_cons (ae_var (pv 0)) (aa_cons (ae_int) (aa_nil)))) (ae_int) (nomark _))))) (ass_cons (as_set (i := 4) sc_q_state.nd rfl (by first | exact Or.inl rfl | exact Or.inr rfl) (ae_bin op_addA lk_add (ae_int) (ae_call g_q_take (hr.mono (by decide)) (by rfl) T.m_q_take T.F_q_take.kp T.b_q_take (aa_cons (ae_var (pv 0)) (aa_cons (ae_ix ix_seq lk_ix (ae_var (pv 1)) (ae_var (pv 2)) (fun _ _ => rfl)) (aa_nil)))))) (ass_one (as_expr (ae_lm (fun _ _ h1 h2 => pe_bm PySem.F.plainAttrs_list PySem.F.slot_list_append PySem.F.type_list_append mt_append h1 h2) lk_app (ae_var (pv 3)) (aa_cons (ae_tup (aa_cons (ae_var (pv 2)) (aa_cons (ae_var (pv 4)) (aa_cons (ae_bin op_mod lk_mod (ae_cb (fun _ h => pe_callTy call_int1 (by rfl) T.z_int (by decide +kernel) h) lk_intc (aa_cons (ae_bin op_addA lk_add (ae_bin op_mulA lk_mul (ae_var (pv 2)) (ae_int)) (ae_bin op_mulA lk_mul (ae_var (pv 4)) (ae_int))) (aa_nil))) (ae_int)) (aa_nil))))) (aa_nil)))))) (ass_nil)))) (ass_one (as_ret (ae_tup (aa_cons (ae_cb (fun _ h => pe_callTy call_tuple_of (by rfl) T.z_tuple (by decide +kernel) h) lk_tup (aa_cons (ae_var (pv 1)) (aa_nil))) (aa_cons (ae_cb (fun _ h => pe_callTy call_tuple_of (by rfl) T.z_tuple (by decide +kernel) h) lk_tup (aa_cons (ae_var (pv 3)) (aa_nil))) (aa_nil))))))))
set_option maxHeartbeats 4000000 in
theorem ok_is_state (T : Tx P K mg) : FnOk P w K mg base (L2.CX P w) 3 T.f_is_state T.d_is_state ["thing"] (aSp T.κ K sp_is_state) := by
  have g_is_version : FnOk P w K mg base (L2.CX P w) 2 T.f_is_version T.d_is_version ["thing", "seen"] (aSp T.κ K sp_is_version) := ok_is_version T
  have g_is_seen : FnOk P w K mg base (L2.CX P w) 2 T.f_is_seen T.d_is_seen ["thing"] (aSp T.κ K sp_is_seen) := ok_is_seen T
  refine okA (k := 2) (N := N_is_state) (T := T_is_state) T.F_is_state sc_is_state l_is_state (fun B cdv A outer s H E hκ hr => ?_) w_is_state
  obtain ⟨κ, H0, A0⟩ := B
  cases hκ
  exact ass_cons (as_if (AW.at_ (aw_or (at_not (at_tru (ae_cb (fun _ h => pe_callB call_isi (by rfl) T.z_isinstance (by decide +kernel) h) lk_isi (aa_cons (ae_var (pv 0)) (aa_cons (ae_c (pe_bltn (v := .ty "tuple") (by rfl) T.z_tuple (by decide +kernel) rfl) (fun _ => .ty _)) (aa_nil)))))) (aw_or (at_cmp (op_neD hr.units) lk_ne (ae_cb (fun _ h => pe_callB call_lenA (by rfl) T.z_len (by decide +kernel) h) lk_len (aa_cons (ae_var (pv 0)) (aa_nil))) (ae_int) (nomark _)) (aw_or1 (at_not (at_tru (ae_call g_is_seen (hr.mono (by decide)) (by rfl) T.m_is_seen T.F_is_seen.kp T.b_is_seen (aa_cons (ae_ix ix_seq lk_ix (ae_var (pv 0)) (ae_int) (fun _ _ => rfl)) (aa_nil))))))))) (ass_one (as_ret (ae_bl))) (ass_nil)) (ass_cons (as_set (i := 1) sc_is_state.nd rfl (by first | exact Or.inl rfl | exact Or.inr rfl) (ae_ix ix_seq lk_ix (ae_var (pv 0)) (ae_int) (fun _ _ => rfl))) (ass_cons (as_if (AW.at_ (aw_or (at_not (at_tru (ae_cb (fun _ h => pe_callB call_isi (by rfl) T.z_isinstance (by decide +kernel) h) lk_isi (aa_cons (ae_var (pv 1)) (aa_cons (ae_c (pe_bltn (v := .ty "tuple") (by rfl) T.z_tuple (by decide +kernel) rfl) (fun _ => .ty _)) (aa_nil)))))) (aw_or1 (at_cmp op_gt lk_cmp (ae_cb (fun _ h => pe_callB call_lenA (by rfl) T.z_len (by decide +kernel) h) lk_len (aa_cons (ae_var (pv 1)) (aa_nil))) (ae_c (pe_glob (by rfl) T.m_REPLICAS T.v_REPLICAS) T.r_REPLICAS) (nomark _))))) (ass_one (as_ret (ae_bl))) (ass_nil)) (ass_cons (as_if (at_not (at_tru (ae_cb (fun _ h => pe_callB (cr_all rfl) (by rfl) T.z_all (by decide +kernel) h) lk_all (aa_cons (ae_lc rfl sc_is_state.nd (ai_tup (ae_var (pv 1))) (blkOk_by (N := N_is_state) (sc := defScope s_is_state) (by decide +kernel)) (fun _ _ _ _ _ => pg_name (i := 2) sc_is_state.nd rfl (Or.inl rfl)) (fun _ _ _ _ _ => ae_call g_is_version (hr.mono (by decide)) (by rfl) T.m_is_version T.F_is_version.kp T.b_is_version (aa_cons (ae_var (pv 2)) (aa_cons (ae_ix ix_seq lk_ix (ae_var (pv 0)) (ae_int) (fun _ _ => rfl)) (aa_nil))))) (aa_nil))))) (ass_one (as_ret (ae_bl))) (ass_nil)) (ass_one (as_ret (ae_cb (fun _ h => pe_callB (cr_all rfl) (by rfl) T.z_all (by decide +kernel) h) lk_all (aa_cons (ae_lc rfl sc_is_state.nd (ai_range2 (by rfl) T.z_range (aa_cons (ae_int) (aa_cons (ae_cb (fun _ h => pe_callB call_lenA (by rfl) T.z_len (by decide +kernel) h) lk_len (aa_cons (ae_var (pv 1)) (aa_nil))) (aa_nil)))) (blkOk_by (N := N_is_state) (sc := defScope s_is_state) (by decide +kernel)) (fun _ _ _ _ _ => pg_name (i := 3) sc_is_state.nd rfl (Or.inl rfl)) (fun _ _ _ _ _ => ae_cmp op_lt lk_cmp (ae_ix ix_seq lk_ix (ae_ix ix_seq lk_ix (ae_var (pv 1)) (ae_bin op_sub lk_sub (ae_var (pv 3)) (ae_int)) (fun _ _ => rfl)) (ae_int) (fun _ _ => rfl)) (ae_ix ix_seq lk_ix (ae_ix ix_seq lk_ix (ae_var (pv 1)) (ae_var (pv 3)) (fun _ _ => rfl)) (ae_int) (fun _ _ => rfl)) (nomark _))) (aa_nil))))))))
set_option maxHeartbeats 4000000 in
theorem ok_written (T : Tx P K mg) : FnOk P w K mg base (L2.CX P w) 3 T.f_written T.d_written ["state", "replica", "count", "value", "seen"] (aSp T.κ K sp_written) := by
  have g_joined_seen : FnOk P w K mg base (L2.CX P w) 1 T.f_joined_seen T.d_joined_seen ["one", "two"] (aSp T.κ K sp_joined_seen) := ok_joined_seen T
  have g_covers : FnOk P w K mg base (L2.CX P w) 1 T.f_covers T.d_covers ["seen", "version"] (aSp T.κ K sp_covers) := ok_covers T
  have g_is_number : FnOk P w K mg base (L2.CX P w) 1 T.f_is_number T.d_is_number ["thing", "low", "high"] (aSp T.κ K sp_is_number) := ok_is_number T
  refine okA (k := 2) (N := N_written) (T := T_written) T.F_written sc_written l_written (fun B cdv A outer s H E hκ hr => ?_) w_written
  obtain ⟨κ, H0, A0⟩ := B
  cases hκ
  exact ass_cons (as_if (at_not (at_tru (ae_call g_is_number (hr.mono (by decide)) (by rfl) T.m_is_number T.F_is_number.kp T.b_is_number (aa_cons (ae_var (pv 2)) (aa_cons (ae_bin op_addA lk_add (ae_ix ix_seq lk_ix (ae_ix ix_seq lk_ix (ae_var (pv 0)) (ae_int) (fun _ _ => rfl)) (ae_var (pv 1)) (fun _ _ => rfl)) (ae_int)) (aa_cons (ae_c (pe_glob (by rfl) T.m_MAX_COUNT T.v_MAX_COUNT) T.r_MAX_COUNT) (aa_nil))))))) (ass_one (as_raise T.k_Full (by decide +kernel) T.X_Full.ox T.iI_Full T.tI_Full (fn_sup T.X_Full T.z_super) (hr.mono (by decide)) rfl (by rfl) T.m_Full T.bI_Full (aa_cons (ae_str) (aa_nil)))) (ass_nil)) (ass_cons (as_lcif (j := 5) rfl sc_written.nd rfl rfl (sw_true rfl rfl rfl (by decide +kernel)) (ai_tup (ae_ix ix_seq lk_ix (ae_var (pv 0)) (ae_int) (fun _ _ => rfl))) (blkOk_by (N := N_written) (sc := defScope s_written) (by decide +kernel)) (fun _ _ _ _ _ => pg_name (i := 6) sc_written.nd rfl (Or.inl rfl)) (fun _ _ _ _ _ => AW.at_ (aw_and (at_cmp (op_neD hr.units) lk_ne (ae_ix ix_seq lk_ix (ae_var (pv 6)) (ae_int) (fun _ _ => rfl)) (ae_var (pv 1)) (nomark _)) (aw_and1 (at_not (at_tru (ae_call g_covers (hr.mono (by decide)) (by rfl) T.m_covers T.F_covers.kp T.b_covers (aa_cons (ae_var (pv 4)) (aa_cons (ae_var (pv 6)) (aa_nil))))))))) (fun _ _ _ _ _ => ae_var (pv 6))) (ass_cons (as_expr (ae_lm (fun _ _ h1 h2 => pe_bm PySem.F.plainAttrs_list PySem.F.slot_list_append PySem.F.type_list_append mt_append h1 h2) lk_app (ae_var (pv 5)) (aa_cons (ae_tup (aa_cons (ae_var (pv 1)) (aa_cons (ae_var (pv 2)) (aa_cons (ae_var (pv 3)) (aa_nil))))) (aa_nil)))) (ass_cons (as_set (i := 7) sc_written.nd rfl (by first | exact Or.inl rfl | exact Or.inr rfl) (ae_cb (fun _ h => pe_callTy call_tuple_of (by rfl) T.z_tuple (by decide +kernel) h) lk_tup (aa_cons (ae_lc rfl sc_written.nd (ai_range1 (by rfl) T.z_range (aa_cons (ae_c (pe_glob (by rfl) T.m_REPLICAS T.v_REPLICAS) T.r_REPLICAS) (aa_nil))) (blkOk_by (N := N_written) (sc := defScope s_written) (by decide +kernel)) (fun _ _ _ _ _ => pg_name (i := 8) sc_written.nd rfl (Or.inl rfl)) (fun _ _ _ _ _ => ae_if (at_cmp (op_eqD hr.units) lk_eq (ae_var (pv 8)) (ae_var (pv 1)) (nomark _)) (ae_var (pv 2)) (ae_int))) (aa_nil)))) (ass_one (as_ret (ae_tup (aa_cons (ae_call g_joined_seen (hr.mono (by decide)) (by rfl) T.m_joined_seen T.F_joined_seen.kp T.b_joined_seen (aa_cons (ae_call g_joined_seen (hr.mono (by decide)) (by rfl) T.m_joined_seen T.F_joined_seen.kp T.b_joined_seen (aa_cons (ae_ix ix_seq lk_ix (ae_var (pv 0)) (ae_int) (fun _ _ => rfl)) (aa_cons (ae_var (pv 4)) (aa_nil)))) (aa_cons (ae_var (pv 7)) (aa_nil)))) (aa_cons (ae_cb (fun _ h => pe_callTy call_tuple_of (by rfl) T.z_tuple (by decide +kernel) h) lk_tup (aa_cons (ae_cb (fun _ h => pe_callB (cr_sortT (d := 3) (B := 256) (by decide)) (by rfl) T.z_sorted (by decide +kernel) h) lk_srt (aa_cons (ae_var (pv 5)) (aa_nil))) (aa_nil))) (aa_nil)))))))))
set_option maxHeartbeats 4000000 in
theorem ok_Disk_append (T : Tx P K mg) : FnOk P w K mg base (L2.CX P w) 3 T.f_Disk_append T.d_Disk_append ["self", "key", "state"] (aSp T.κ K sp_Disk_append) := by
  have g_record : FnOk P w K mg base (L2.CX P w) 2 T.f_record T.d_record ["key", "state"] (aSp T.κ K sp_record) := ok_record T
  refine okA (k := 2) (N := N_Disk_append) (T := T_Disk_append) T.F_Disk_append sc_Disk_append l_Disk_append (fun B cdv A outer s H E hκ hr => ?_) w_Disk_append
  obtain ⟨κ, H0, A0⟩ := B
  cases hκ
  exact ass_one (as_expr (ae_lm (fun _ _ h1 h2 => pe_bm PySem.F.plainAttrs_list PySem.F.slot_list_extend PySem.F.type_list_extend mt_extend h1 h2) lk_ext (ae_fld T.k_Disk T.cl_Disk T.fld_Disk_data (ae_var (pv 0))) (aa_cons (ae_call g_record (hr.mono (by decide)) (by rfl) T.m_record T.F_record.kp T.b_record (aa_cons (ae_var (pv 1)) (aa_cons (ae_var (pv 2)) (aa_nil)))) (aa_nil))))
set_option maxHeartbeats 4000000 in
theorem ok_Disk_replace (T : Tx P K mg) : FnOk P w K mg base (L2.CX P w) 3 T.f_Disk_replace T.d_Disk_replace ["self", "rows", "left"] (aSp T.κ K sp_Disk_replace) := by
  have g_record : FnOk P w K mg base (L2.CX P w) 2 T.f_record T.d_record ["key", "state"] (aSp T.κ K sp_record) := ok_record T
  refine okA (k := 2) (N := N_Disk_replace) (T := T_Disk_replace) T.F_Disk_replace sc_Disk_replace l_Disk_replace (fun B cdv A outer s H E hκ hr => ?_) w_Disk_replace
  obtain ⟨κ, H0, A0⟩ := B
  cases hκ
  have HP := passes_of (X := cxOf (L2.CX P w) P w K mg base N_Disk_replace "Disk.replace" (defScope s_Disk_replace) T.f_Disk_replace cdv A outer s H E) rfl
  exact ass_cons (as_set (i := 3) sc_Disk_replace.nd rfl (by first | exact Or.inl rfl | exact Or.inr rfl) (ae_lst (aa_nil))) (ass_cons (as_for HP rfl (ai_list (ae_var (pv 1))) (ag_tup rfl (ags_cons (ag_name (i := 4) sc_Disk_replace.nd rfl (by first | exact Or.inl rfl | exact Or.inr rfl)) (ags_cons (ag_name (i := 5) sc_Disk_replace.nd rfl (by first | exact Or.inl rfl | exact Or.inr rfl)) (ags_nil)))) (ass_one (as_expr (ae_lm (fun _ _ h1 h2 => pe_bm PySem.F.plainAttrs_list PySem.F.slot_list_extend PySem.F.type_list_extend mt_extend h1 h2) lk_ext (ae_var (pv 3)) (aa_cons (ae_call g_record (hr.mono (by decide)) (by rfl) T.m_record T.F_record.kp T.b_record (aa_cons (ae_var (pv 4)) (aa_cons (ae_var (pv 5)) (aa_nil)))) (aa_nil)))))) (ass_cons (as_if (at_cmp op_lt lk_cmp (ae_var (pv 2)) (ae_cb (fun _ h => pe_callB call_lenA (by rfl) T.z_len (by decide +kernel) h) lk_len (aa_cons (ae_var (pv 3)) (aa_nil))) (nomark _)) (ass_one (as_ret (ae_bl))) (ass_nil)) (ass_cons (as_fld T.k_Disk T.cl_Disk T.fld_Disk_data (ae_var (pv 0)) (ae_var (pv 3))) (ass_cons (as_fld T.k_Disk T.cl_Disk T.fld_Disk_safe (ae_var (pv 0)) (ae_cb (fun _ h => pe_callB call_lenA (by rfl) T.z_len (by decide +kernel) h) lk_len (aa_cons (ae_var (pv 3)) (aa_nil)))) (ass_one (as_ret (ae_bl)))))))
set_option maxHeartbeats 4000000 in
theorem ok_Store___init__ (T : Tx P K mg) : FnOk P w K mg base (L2.CX P w) 3 T.f_Store___init__ T.d_Store___init__ ["self", "size"] (aSp T.κ K sp_Store___init__) := by
  refine okA (k := 2) (N := N_Store___init__) (T := T_Store___init__) T.F_Store___init__ sc_Store___init__ l_Store___init__ (fun B cdv A outer s H E hκ hr => ?_) w_Store___init__
  obtain ⟨κ, H0, A0⟩ := B
  cases hκ
  exact ass_cons (as_if (AW.at_ (aw_or (at_tru (ae_cb (fun _ h => pe_callB call_isi (by rfl) T.z_isinstance (by decide +kernel) h) lk_isi (aa_cons (ae_var (pv 1)) (aa_cons (ae_c (pe_bltn (v := .ty "bool") (by rfl) T.z_bool (by decide +kernel) rfl) (fun _ => .ty _)) (aa_nil))))) (aw_or1 (at_cmp (op_ninA (hu66 hr)) lk_in (ae_var (pv 1)) (ae_c (pe_glob (by rfl) T.m_SIZES T.v_SIZES) T.r_SIZES) rfl)))) (ass_one (as_raise T.k_Invalid (by decide +kernel) T.X_Invalid.ox T.iI_Invalid T.tI_Invalid (fn_sup T.X_Invalid T.z_super) (hr.mono (by decide)) rfl (by rfl) T.m_Invalid T.bI_Invalid (aa_cons (ae_str) (aa_nil)))) (ass_nil)) (ass_cons (as_fld T.k_Store T.cl_Store T.fld_Store_size (ae_var (pv 0)) (ae_var (pv 1))) (ass_cons (as_fld T.k_Store T.cl_Store T.fld_Store_held (ae_var (pv 0)) (ae_bin op_mulA lk_mul (ae_lst (aa_cons (ae_c (pe_glob (by rfl) T.m_EMPTY T.v_EMPTY) T.r_EMPTY) (aa_nil))) (ae_var (pv 1)))) (ass_one (as_fld T.k_Store T.cl_Store T.fld_Store_trees (ae_var (pv 0)) (ae_dnew)))))
set_option maxHeartbeats 4000000 in
theorem ok_Replica_next_count (T : Tx P K mg) : FnOk P w K mg base (L2.CX P w) 3 T.f_Replica_next_count T.d_Replica_next_count ["self", "key"] (aSp T.κ K sp_Replica_next_count) := by
  refine okA (k := 2) (N := N_Replica_next_count) (T := T_Replica_next_count) T.F_Replica_next_count sc_Replica_next_count l_Replica_next_count (fun B cdv A outer s H E hκ hr => ?_) w_Replica_next_count
  obtain ⟨κ, H0, A0⟩ := B
  cases hκ
  exact ass_cons (as_set (i := 2) sc_Replica_next_count.nd rfl (by first | exact Or.inl rfl | exact Or.inr rfl) (ae_bin op_addA lk_add (ae_ix ix_seq lk_ix (ae_fld T.k_Replica T.cl_Replica T.fld_Replica_counts (ae_var (pv 0))) (ae_var (pv 1)) (fun _ _ => rfl)) (ae_int))) (ass_cons (as_if (at_cmp op_gt lk_cmp (ae_var (pv 2)) (ae_c (pe_glob (by rfl) T.m_MAX_COUNT T.v_MAX_COUNT) T.r_MAX_COUNT) (nomark _)) (ass_one (as_raise T.k_Full (by decide +kernel) T.X_Full.ox T.iI_Full T.tI_Full (fn_sup T.X_Full T.z_super) (hr.mono (by decide)) rfl (by rfl) T.m_Full T.bI_Full (aa_cons (ae_str) (aa_nil)))) (ass_nil)) (ass_cons (as_if (at_cmp op_gt lk_cmp (ae_var (pv 2)) (ae_ix ix_seq lk_ix (ae_fld T.k_Replica T.cl_Replica T.fld_Replica_limits (ae_var (pv 0))) (ae_var (pv 1)) (fun _ _ => rfl)) (nomark _)) (ass_one (as_asg (ae_cb (fun _ h => pe_callB (call_min2 rfl) (by rfl) T.z_min (by decide +kernel) h) lk_min (aa_cons (ae_c (pe_glob (by rfl) T.m_MAX_COUNT T.v_MAX_COUNT) T.r_MAX_COUNT) (aa_cons (ae_bin op_addA lk_add (ae_var (pv 2)) (ae_c (pe_glob (by rfl) T.m_AHEAD T.v_AHEAD) T.r_AHEAD)) (aa_nil)))) (ag_subL (ae_fld T.k_Replica T.cl_Replica T.fld_Replica_limits (ae_var (pv 0))) (ae_var (pv 1))))) (ass_nil)) (ass_one (as_ret (ae_var (pv 2))))))
set_option maxHeartbeats 4000000 in
theorem ok_checked (T : Tx P K mg) : FnOk P w K mg base (L2.CX P w) 4 T.f_checked T.d_checked ["state"] (aSp T.κ K sp_checked) := by
  have g_is_state : FnOk P w K mg base (L2.CX P w) 3 T.f_is_state T.d_is_state ["thing"] (aSp T.κ K sp_is_state) := ok_is_state T
  refine okA (k := 3) (N := N_checked) (T := T_checked) T.F_checked sc_checked l_checked (fun B cdv A outer s H E hκ hr => ?_) w_checked
  obtain ⟨κ, H0, A0⟩ := B
  cases hκ
  exact ass_cons (as_if (at_not (at_tru (ae_call g_is_state (hr.mono (by decide)) (by rfl) T.m_is_state T.F_is_state.kp T.b_is_state (aa_cons (ae_var (pv 0)) (aa_nil))))) (ass_one (as_raise T.k_Invalid (by decide +kernel) T.X_Invalid.ox T.iI_Invalid T.tI_Invalid (fn_sup T.X_Invalid T.z_super) (hr.mono (by decide)) rfl (by rfl) T.m_Invalid T.bI_Invalid (aa_cons (ae_str) (aa_nil)))) (ass_nil)) (ass_one (as_ret (ae_var (pv 0))))
set_option maxHeartbeats 4000000 in
theorem ok_decoded (T : Tx P K mg) : FnOk P w K mg base (L2.CX P w) 4 T.f_decoded T.d_decoded ["number"] (aSp T.κ K sp_decoded) := by
  have g_is_state : FnOk P w K mg base (L2.CX P w) 3 T.f_is_state T.d_is_state ["thing"] (aSp T.κ K sp_is_state) := ok_is_state T
  have g_code : FnOk P w K mg base (L2.CX P w) 1 T.f_code T.d_code ["state"] (aSp T.κ K sp_code) := ok_code T
  refine okA (k := 3) (N := N_decoded) (T := T_decoded) T.F_decoded sc_decoded l_decoded (fun B cdv A outer s H E hκ hr => ?_) w_decoded
  obtain ⟨κ, H0, A0⟩ := B
  cases hκ
  have HP := passes_of (X := cxOf (L2.CX P w) P w K mg base N_decoded "decoded" (defScope s_decoded) T.f_decoded cdv A outer s H E) rfl
  exact ass_cons (as_set (i := 1) sc_decoded.nd rfl (by first | exact Or.inl rfl | exact Or.inr rfl) (ae_var (pv 0))) (ass_cons (as_set (i := 2) sc_decoded.nd rfl (by first | exact Or.inl rfl | exact Or.inr rfl) (ae_lst (aa_nil))) (ass_cons (as_for HP rfl (ai_range1 (by rfl) T.z_range (aa_cons (ae_c (pe_glob (by rfl) T.m_REPLICAS T.v_REPLICAS) T.r_REPLICAS) (aa_nil))) (ag_name (i := 3) sc_decoded.nd rfl (by first | exact Or.inl rfl | exact Or.inr rfl)) (ass_cons (as_expr (ae_lm (fun _ _ h1 h2 => pe_bm PySem.F.plainAttrs_list PySem.F.slot_list_append PySem.F.type_list_append mt_append h1 h2) lk_app (ae_var (pv 2)) (aa_cons (ae_bin op_mod lk_mod (ae_var (pv 0)) (ae_bin op_addA lk_add (ae_c (pe_glob (by rfl) T.m_MAX_COUNT T.v_MAX_COUNT) T.r_MAX_COUNT) (ae_int))) (aa_nil)))) (ass_one (as_set (i := 0) sc_decoded.nd rfl (by first | exact Or.inl rfl | exact Or.inr rfl) (ae_bin op_fdivW lk_div (ae_var (pv 0)) (ae_bin op_addA lk_add (ae_c (pe_glob (by rfl) T.m_MAX_COUNT T.v_MAX_COUNT) T.r_MAX_COUNT) (ae_int))))))) (ass_cons (as_set (i := 4) sc_decoded.nd rfl (by first | exact Or.inl rfl | exact Or.inr rfl) (ae_lst (aa_nil))) (ass_cons (as_for HP rfl (ai_range1 (by rfl) T.z_range (aa_cons (ae_c (pe_glob (by rfl) T.m_REPLICAS T.v_REPLICAS) T.r_REPLICAS) (aa_nil))) (ag_name (i := 3) sc_decoded.nd rfl (by first | exact Or.inl rfl | exact Or.inr rfl)) (ass_cons (as_set (i := 5) sc_decoded.nd rfl (by first | exact Or.inl rfl | exact Or.inr rfl) (ae_bin op_mod lk_mod (ae_var (pv 0)) (ae_bin op_addA lk_add (ae_c (pe_glob (by rfl) T.m_MAX_VALUE T.v_MAX_VALUE) T.r_MAX_VALUE) (ae_int)))) (ass_cons (as_set (i := 0) sc_decoded.nd rfl (by first | exact Or.inl rfl | exact Or.inr rfl) (ae_bin op_fdivW lk_div (ae_var (pv 0)) (ae_bin op_addA lk_add (ae_c (pe_glob (by rfl) T.m_MAX_VALUE T.v_MAX_VALUE) T.r_MAX_VALUE) (ae_int)))) (ass_cons (as_set (i := 6) sc_decoded.nd rfl (by first | exact Or.inl rfl | exact Or.inr rfl) (ae_bin op_mod lk_mod (ae_var (pv 0)) (ae_bin op_addA lk_add (ae_c (pe_glob (by rfl) T.m_MAX_COUNT T.v_MAX_COUNT) T.r_MAX_COUNT) (ae_int)))) (ass_cons (as_set (i := 0) sc_decoded.nd rfl (by first | exact Or.inl rfl | exact Or.inr rfl) (ae_bin op_fdivW lk_div (ae_var (pv 0)) (ae_bin op_addA lk_add (ae_c (pe_glob (by rfl) T.m_MAX_COUNT T.v_MAX_COUNT) T.r_MAX_COUNT) (ae_int)))) (ass_cons (as_expr (ae_lm (fun _ _ h1 h2 => pe_bm PySem.F.plainAttrs_list PySem.F.slot_list_append PySem.F.type_list_append mt_append h1 h2) lk_app (ae_var (pv 4)) (aa_cons (ae_tup (aa_cons (ae_bin op_mod lk_mod (ae_var (pv 0)) (ae_c (pe_glob (by rfl) T.m_REPLICAS T.v_REPLICAS) T.r_REPLICAS)) (aa_cons (ae_var (pv 6)) (aa_cons (ae_var (pv 5)) (aa_nil))))) (aa_nil)))) (ass_one (as_set (i := 0) sc_decoded.nd rfl (by first | exact Or.inl rfl | exact Or.inr rfl) (ae_bin op_fdivW lk_div (ae_var (pv 0)) (ae_c (pe_glob (by rfl) T.m_REPLICAS T.v_REPLICAS) T.r_REPLICAS)))))))))) (ass_cons (as_set (i := 7) sc_decoded.nd rfl (by first | exact Or.inl rfl | exact Or.inr rfl) (ae_tup (aa_cons (ae_cb (fun _ h => pe_callTy call_tuple_of (by rfl) T.z_tuple (by decide +kernel) h) lk_tup (aa_cons (ae_rev (ae_var (pv 2))) (aa_nil))) (aa_cons (ae_cb (fun _ h => pe_callTy call_tuple_of (by rfl) T.z_tuple (by decide +kernel) h) lk_tup (aa_cons (ae_sl (ae_rev (ae_var (pv 4))) (ao_none) (ao_some (ae_var (pv 0)))) (aa_nil))) (aa_nil))))) (ass_cons (as_if (AW.at_ (aw_or (at_not (at_tru (ae_call g_is_state (hr.mono (by decide)) (by rfl) T.m_is_state T.F_is_state.kp T.b_is_state (aa_cons (ae_var (pv 7)) (aa_nil))))) (aw_or1 (at_cmp (op_neD hr.units) lk_ne (ae_call g_code (hr.mono (by decide)) (by rfl) T.m_code T.F_code.kp T.b_code (aa_cons (ae_var (pv 7)) (aa_nil))) (ae_var (pv 1)) (nomark _))))) (ass_one (as_raise T.k_Invalid (by decide +kernel) T.X_Invalid.ox T.iI_Invalid T.tI_Invalid (fn_sup T.X_Invalid T.z_super) (hr.mono (by decide)) rfl (by rfl) T.m_Invalid T.bI_Invalid (aa_cons (ae_str) (aa_nil)))) (ass_nil)) (ass_one (as_ret (ae_var (pv 7))))))))))
set_option maxHeartbeats 4000000 in
theorem ok_Store_total (T : Tx P K mg) : FnOk P w K mg base (L2.CX P w) 4 T.f_Store_total T.d_Store_total ["self", "low", "high", "salt"] (aSp T.κ K sp_Store_total) := by
  have g_Tree_total : FnOk P w K mg base (L2.CX P w) 1 T.f_Tree_total T.d_Tree_total ["self", "low", "high"] (aSp T.κ K sp_Tree_total) := ok_Tree_total T
  have g_code : FnOk P w K mg base (L2.CX P w) 1 T.f_code T.d_code ["state"] (aSp T.κ K sp_code) := ok_code T
  have g_Tree___init__ : FnOk P w K mg base (L2.CX P w) 2 T.f_Tree___init__ T.d_Tree___init__ ["self", "numbers", "salt"] (aSp T.κ K sp_Tree___init__) := ok_Tree___init__ T
  refine okA (k := 3) (N := N_Store_total) (T := T_Store_total) T.F_Store_total sc_Store_total l_Store_total (fun B cdv A outer s H E hκ hr => ?_) w_Store_total
  obtain ⟨κ, H0, A0⟩ := B
  cases hκ
  exact ass_cons (as_if (at_dnin (hu_of hr) (ae_var (pv 3)) (ae_fld T.k_Store T.cl_Store T.fld_Store_trees (ae_var (pv 0)))) (ass_one (as_dput (hu_of hr) (ae_fld T.k_Store T.cl_Store T.fld_Store_trees (ae_var (pv 0))) (ae_var (pv 3)) (ae_new T.k_Tree T.mk_Tree g_Tree___init__ (hr.mono (by decide)) (by rfl) T.m_Tree T.b_Tree___init__ (aa_cons (ae_lc rfl sc_Store_total.nd (ai_list (ae_fld T.k_Store T.cl_Store T.fld_Store_held (ae_var (pv 0)))) (blkOk_by (N := N_Store_total) (sc := defScope s_Store_total) (by decide +kernel)) (fun _ _ _ _ _ => pg_name (i := 4) sc_Store_total.nd rfl (Or.inl rfl)) (fun _ _ _ _ _ => ae_call g_code (hr.mono (by decide)) (by rfl) T.m_code T.F_code.kp T.b_code (aa_cons (ae_var (pv 4)) (aa_nil)))) (aa_cons (ae_var (pv 3)) (aa_nil)))))) (ass_nil)) (ass_one (as_ret (ae_meth T.k_Tree T.cl_Tree T.me_Tree_total g_Tree_total (hr.mono (by decide)) T.b_Tree_total (ae_dg (hu_of hr) (ae_fld T.k_Store T.cl_Store T.fld_Store_trees (ae_var (pv 0))) (ae_var (pv 3)) (fun _ _ => rfl)) (aa_cons (ae_var (pv 1)) (aa_cons (ae_var (pv 2)) (aa_nil))))))
set_option maxHeartbeats 4000000 in
theorem ok_read_record (T : Tx P K mg) : FnOk P w K mg base (L2.CX P w) 5 T.f_read_record T.d_read_record ["part"] (aSp T.κ K sp_read_record) := by
  have g_decoded : FnOk P w K mg base (L2.CX P w) 4 T.f_decoded T.d_decoded ["number"] (aSp T.κ K sp_decoded) := ok_decoded T
  refine okA (k := 4) (N := N_read_record) (T := T_read_record) T.F_read_record sc_read_record l_read_record (fun B cdv A outer s H E hκ hr => ?_) w_read_record
  obtain ⟨κ, H0, A0⟩ := B
  cases hκ
  have HP := passes_of (X := cxOf (L2.CX P w) P w K mg base N_read_record "read_record" (defScope s_read_record) T.f_read_record cdv A outer s H E) rfl
  exact ass_cons (as_set (i := 1) sc_read_record.nd rfl (by first | exact Or.inl rfl | exact Or.inr rfl) (ae_int)) (ass_cons (as_for HP rfl (ai_range3 (by rfl) T.z_range (aa_cons (ae_bin op_sub lk_sub (ae_c (pe_glob (by rfl) T.m_RECORD T.v_RECORD) T.r_RECORD) (ae_int)) (aa_cons (ae_int) (aa_cons (ae_neg (ae_int)) (aa_nil)))) (fun _ h => pi_range3 (by rfl) T.z_range h)) (ag_name (i := 2) sc_read_record.nd rfl (by first | exact Or.inl rfl | exact Or.inr rfl)) (ass_one (as_set (i := 1) sc_read_record.nd rfl (by first | exact Or.inl rfl | exact Or.inr rfl) (ae_bin op_addA lk_add (ae_bin op_mulA lk_mul (ae_var (pv 1)) (ae_int)) (ae_ix ix_seq lk_ix (ae_var (pv 0)) (ae_var (pv 2)) (fun _ _ => rfl)))))) (ass_one (as_ret (ae_tup (aa_cons (ae_ix ix_seq lk_ix (ae_var (pv 0)) (ae_int) (fun _ _ => rfl)) (aa_cons (ae_call g_decoded (hr.mono (by decide)) (by rfl) T.m_decoded T.F_decoded.kp T.b_decoded (aa_cons (ae_var (pv 1)) (aa_nil))) (aa_nil)))))))
set_option maxHeartbeats 4000000 in
theorem ok_Store_place (T : Tx P K mg) : FnOk P w K mg base (L2.CX P w) 5 T.f_Store_place T.d_Store_place ["self", "key", "state"] (aSp T.κ K sp_Store_place) := by
  have g_code : FnOk P w K mg base (L2.CX P w) 1 T.f_code T.d_code ["state"] (aSp T.κ K sp_code) := ok_code T
  have g_Tree_change : FnOk P w K mg base (L2.CX P w) 2 T.f_Tree_change T.d_Tree_change ["self", "key", "number"] (aSp T.κ K sp_Tree_change) := ok_Tree_change T
  have g_checked : FnOk P w K mg base (L2.CX P w) 4 T.f_checked T.d_checked ["state"] (aSp T.κ K sp_checked) := ok_checked T
  refine okA (k := 4) (N := N_Store_place) (T := T_Store_place) T.F_Store_place sc_Store_place l_Store_place (fun B cdv A outer s H E hκ hr => ?_) w_Store_place
  obtain ⟨κ, H0, A0⟩ := B
  cases hκ
  have HP := passes_of (X := cxOf (L2.CX P w) P w K mg base N_Store_place "Store.place" (defScope s_Store_place) T.f_Store_place cdv A outer s H E) rfl
  exact ass_cons (as_asg (ae_call g_checked (hr.mono (by decide)) (by rfl) T.m_checked T.F_checked.kp T.b_checked (aa_cons (ae_var (pv 2)) (aa_nil))) (ag_subL (ae_fld T.k_Store T.cl_Store T.fld_Store_held (ae_var (pv 0))) (ae_var (pv 1)))) (ass_one (as_forV HP rfl (fun B1 hB => by obtain ⟨κ1, H1, A1⟩ := B1; cases hB; exact ae_fld T.k_Store T.cl_Store T.fld_Store_trees (ae_var (pv 0))) (fun B1 hB => by obtain ⟨κ1, H1, A1⟩ := B1; cases hB; exact ag_name (i := 3) sc_Store_place.nd rfl (by first | exact Or.inl rfl | exact Or.inr rfl)) (fun B1 hB => by obtain ⟨κ1, H1, A1⟩ := B1; cases hB; exact ass_one (as_expr (ae_meth T.k_Tree T.cl_Tree T.me_Tree_change g_Tree_change (hr.mono (by decide)) T.b_Tree_change (ae_var (pv 3)) (aa_cons (ae_var (pv 1)) (aa_cons (ae_call g_code (hr.mono (by decide)) (by rfl) T.m_code T.F_code.kp T.b_code (aa_cons (ae_var (pv 2)) (aa_nil))) (aa_nil))))))))
set_option maxHeartbeats 4000000 in
theorem ok_Replica___init__ (T : Tx P K mg) : FnOk P w K mg base (L2.CX P w) 5 T.f_Replica___init__ T.d_Replica___init__ ["self", "number", "size"] (aSp T.κ K sp_Replica___init__) := by
  have g_Disk___init__ : FnOk P w K mg base (L2.CX P w) 1 T.f_Disk___init__ T.d_Disk___init__ ["self"] (aSp T.κ K sp_Disk___init__) := ok_Disk___init__ T
  have g_Store___init__ : FnOk P w K mg base (L2.CX P w) 3 T.f_Store___init__ T.d_Store___init__ ["self", "size"] (aSp T.κ K sp_Store___init__) := ok_Store___init__ T
  refine okA (k := 4) (N := N_Replica___init__) (T := T_Replica___init__) T.F_Replica___init__ sc_Replica___init__ l_Replica___init__ (fun B cdv A outer s H E hκ hr => ?_) w_Replica___init__
  obtain ⟨κ, H0, A0⟩ := B
  cases hκ
  exact ass_cons (as_fld T.k_Replica T.cl_Replica T.fld_Replica_number (ae_var (pv 0)) (ae_var (pv 1))) (ass_cons (as_fld T.k_Replica T.cl_Replica T.fld_Replica_store (ae_var (pv 0)) (ae_new T.k_Store T.mk_Store g_Store___init__ (hr.mono (by decide)) (by rfl) T.m_Store T.b_Store___init__ (aa_cons (ae_var (pv 2)) (aa_nil)))) (ass_cons (as_fld T.k_Replica T.cl_Replica T.fld_Replica_disk (ae_var (pv 0)) (ae_new0 T.k_Disk T.mk_Disk g_Disk___init__ (hr.mono (by decide)) (by rfl) T.m_Disk T.b_Disk___init__)) (ass_cons (as_fld T.k_Replica T.cl_Replica T.fld_Replica_waiting (ae_var (pv 0)) (ae_lst (aa_nil))) (ass_cons (as_fld T.k_Replica T.cl_Replica T.fld_Replica_counts (ae_var (pv 0)) (ae_bin op_mulA lk_mul (ae_lst (aa_cons (ae_int) (aa_nil))) (ae_var (pv 2)))) (ass_one (as_fld T.k_Replica T.cl_Replica T.fld_Replica_limits (ae_var (pv 0)) (ae_bin op_mulA lk_mul (ae_lst (aa_cons (ae_int) (aa_nil))) (ae_var (pv 2)))))))))
set_option maxHeartbeats 4000000 in
theorem ok_recover (T : Tx P K mg) : FnOk P w K mg base (L2.CX P w) 6 T.f_recover T.d_recover ["data", "size"] (aSp T.κ K sp_recover) := by
  have g_is_record : FnOk P w K mg base (L2.CX P w) 2 T.f_is_record T.d_is_record ["part"] (aSp T.κ K sp_is_record) := ok_is_record T
  have g_read_record : FnOk P w K mg base (L2.CX P w) 5 T.f_read_record T.d_read_record ["part"] (aSp T.κ K sp_read_record) := ok_read_record T
  refine okA (k := 5) (N := N_recover) (T := T_recover) T.F_recover sc_recover l_recover (fun B cdv A outer s H E hκ hr => ?_) w_recover
  obtain ⟨κ, H0, A0⟩ := B
  cases hκ
  have HP := passes_of (X := cxOf (L2.CX P w) P w K mg base N_recover "recover" (defScope s_recover) T.f_recover cdv A outer s H E) rfl
  exact ass_cons (as_set (i := 2) sc_recover.nd rfl (by first | exact Or.inl rfl | exact Or.inr rfl) (ae_lst (aa_nil))) (ass_cons (as_set (i := 3) sc_recover.nd rfl (by first | exact Or.inl rfl | exact Or.inr rfl) (ae_int)) (ass_cons (as_while HP (at_tru (ae_call g_is_record (hr.mono (by decide)) (by rfl) T.m_is_record T.F_is_record.kp T.b_is_record (aa_cons (ae_sl (ae_var (pv 0)) (ao_some (ae_var (pv 3))) (ao_some (ae_bin op_addA lk_add (ae_var (pv 3)) (ae_c (pe_glob (by rfl) T.m_RECORD T.v_RECORD) T.r_RECORD)))) (aa_nil)))) (ass_cons (as_asg (ae_call g_read_record (hr.mono (by decide)) (by rfl) T.m_read_record T.F_read_record.kp T.b_read_record (aa_cons (ae_sl (ae_var (pv 0)) (ao_some (ae_var (pv 3))) (ao_some (ae_bin op_addA lk_add (ae_var (pv 3)) (ae_c (pe_glob (by rfl) T.m_RECORD T.v_RECORD) T.r_RECORD)))) (aa_nil))) (ag_tup rfl (ags_cons (ag_name (i := 4) sc_recover.nd rfl (by first | exact Or.inl rfl | exact Or.inr rfl)) (ags_cons (ag_name (i := 5) sc_recover.nd rfl (by first | exact Or.inl rfl | exact Or.inr rfl)) (ags_nil))))) (ass_cons (as_if (at_cmp op_ge lk_cmp (ae_var (pv 4)) (ae_var (pv 1)) (nomark _)) (ass_one (as_raise T.k_Invalid (by decide +kernel) T.X_Invalid.ox T.iI_Invalid T.tI_Invalid (fn_sup T.X_Invalid T.z_super) (hr.mono (by decide)) rfl (by rfl) T.m_Invalid T.bI_Invalid (aa_cons (ae_str) (aa_nil)))) (ass_nil)) (ass_cons (as_expr (ae_lm (fun _ _ h1 h2 => pe_bm PySem.F.plainAttrs_list PySem.F.slot_list_append PySem.F.type_list_append mt_append h1 h2) lk_app (ae_var (pv 2)) (aa_cons (ae_tup (aa_cons (ae_var (pv 4)) (aa_cons (ae_var (pv 5)) (aa_nil)))) (aa_nil)))) (ass_one (as_aug (i := 3) sc_recover.nd rfl (by first | exact Or.inl rfl | exact Or.inr rfl) (ae_c (pe_glob (by rfl) T.m_RECORD T.v_RECORD) T.r_RECORD))))))) (ass_one (as_ret (ae_var (pv 2))))))
set_option maxHeartbeats 4000000 in
theorem ok_Replica_keep (T : Tx P K mg) : FnOk P w K mg base (L2.CX P w) 6 T.f_Replica_keep T.d_Replica_keep ["self", "key", "state"] (aSp T.κ K sp_Replica_keep) := by
  have g_Disk_append : FnOk P w K mg base (L2.CX P w) 3 T.f_Disk_append T.d_Disk_append ["self", "key", "state"] (aSp T.κ K sp_Disk_append) := ok_Disk_append T
  have g_Store_place : FnOk P w K mg base (L2.CX P w) 5 T.f_Store_place T.d_Store_place ["self", "key", "state"] (aSp T.κ K sp_Store_place) := ok_Store_place T
  refine okA (k := 5) (N := N_Replica_keep) (T := T_Replica_keep) T.F_Replica_keep sc_Replica_keep l_Replica_keep (fun B cdv A outer s H E hκ hr => ?_) w_Replica_keep
  obtain ⟨κ, H0, A0⟩ := B
  cases hκ
  exact ass_cons (as_expr (ae_meth T.k_Store T.cl_Store T.me_Store_place g_Store_place (hr.mono (by decide)) T.b_Store_place (ae_fld T.k_Replica T.cl_Replica T.fld_Replica_store (ae_var (pv 0))) (aa_cons (ae_var (pv 1)) (aa_cons (ae_var (pv 2)) (aa_nil))))) (ass_one (as_expr (ae_meth T.k_Disk T.cl_Disk T.me_Disk_append g_Disk_append (hr.mono (by decide)) T.b_Disk_append (ae_fld T.k_Replica T.cl_Replica T.fld_Replica_disk (ae_var (pv 0))) (aa_cons (ae_var (pv 1)) (aa_cons (ae_var (pv 2)) (aa_nil))))))
set_option maxHeartbeats 4000000 in
theorem ok_Replica_write (T : Tx P K mg) : FnOk P w K mg base (L2.CX P w) 7 T.f_Replica_write T.d_Replica_write ["self", "key", "value", "seen"] (aSp T.κ K sp_Replica_write) := by
  have g_Replica_keep : FnOk P w K mg base (L2.CX P w) 6 T.f_Replica_keep T.d_Replica_keep ["self", "key", "state"] (aSp T.κ K sp_Replica_keep) := ok_Replica_keep T
  have g_Store_state : FnOk P w K mg base (L2.CX P w) 1 T.f_Store_state T.d_Store_state ["self", "key"] (aSp T.κ K sp_Store_state) := ok_Store_state T
  have g_written : FnOk P w K mg base (L2.CX P w) 3 T.f_written T.d_written ["state", "replica", "count", "value", "seen"] (aSp T.κ K sp_written) := ok_written T
  have g_Replica_next_count : FnOk P w K mg base (L2.CX P w) 3 T.f_Replica_next_count T.d_Replica_next_count ["self", "key"] (aSp T.κ K sp_Replica_next_count) := ok_Replica_next_count T
  refine okA (k := 6) (N := N_Replica_write) (T := T_Replica_write) T.F_Replica_write sc_Replica_write l_Replica_write (fun B cdv A outer s H E hκ hr => ?_) w_Replica_write
  obtain ⟨κ, H0, A0⟩ := B
  cases hκ
  exact ass_cons (as_set (i := 4) sc_Replica_write.nd rfl (by first | exact Or.inl rfl | exact Or.inr rfl) (ae_meth T.k_Replica T.cl_Replica T.me_Replica_next_count g_Replica_next_count (hr.mono (by decide)) T.b_Replica_next_count (ae_var (pv 0)) (aa_cons (ae_var (pv 1)) (aa_nil)))) (ass_cons (as_set (i := 5) sc_Replica_write.nd rfl (by first | exact Or.inl rfl | exact Or.inr rfl) (ae_call g_written (hr.mono (by decide)) (by rfl) T.m_written T.F_written.kp T.b_written (aa_cons (ae_meth T.k_Store T.cl_Store T.me_Store_state g_Store_state (hr.mono (by decide)) T.b_Store_state (ae_fld T.k_Replica T.cl_Replica T.fld_Replica_store (ae_var (pv 0))) (aa_cons (ae_var (pv 1)) (aa_nil))) (aa_cons (ae_fld T.k_Replica T.cl_Replica T.fld_Replica_number (ae_var (pv 0))) (aa_cons (ae_var (pv 4)) (aa_cons (ae_var (pv 2)) (aa_cons (ae_var (pv 3)) (aa_nil)))))))) (ass_cons (as_asg (ae_var (pv 4)) (ag_subL (ae_fld T.k_Replica T.cl_Replica T.fld_Replica_counts (ae_var (pv 0))) (ae_var (pv 1)))) (ass_cons (as_expr (ae_meth T.k_Replica T.cl_Replica T.me_Replica_keep g_Replica_keep (hr.mono (by decide)) T.b_Replica_keep (ae_var (pv 0)) (aa_cons (ae_var (pv 1)) (aa_cons (ae_var (pv 5)) (aa_nil))))) (ass_cons (as_expr (ae_lm (fun _ _ h1 h2 => pe_bm PySem.F.plainAttrs_list PySem.F.slot_list_append PySem.F.type_list_append mt_append h1 h2) lk_app (ae_fld T.k_Replica T.cl_Replica T.fld_Replica_waiting (ae_var (pv 0))) (aa_cons (ae_tup (aa_cons (ae_var (pv 1)) (aa_cons (ae_tup (aa_cons (ae_fld T.k_Replica T.cl_Replica T.fld_Replica_number (ae_var (pv 0))) (aa_cons (ae_var (pv 4)) (aa_cons (ae_var (pv 2)) (aa_nil))))) (aa_nil)))) (aa_nil)))) (ass_one (as_ret (ae_tup (aa_cons (ae_fld T.k_Replica T.cl_Replica T.fld_Replica_number (ae_var (pv 0))) (aa_cons (ae_var (pv 4)) (aa_cons (ae_var (pv 2)) (aa_nil)))))))))))
set_option maxHeartbeats 4000000 in
theorem ok_Replica_remove (T : Tx P K mg) : FnOk P w K mg base (L2.CX P w) 7 T.f_Replica_remove T.d_Replica_remove ["self", "key", "seen"] (aSp T.κ K sp_Replica_remove) := by
  have g_Store_state : FnOk P w K mg base (L2.CX P w) 1 T.f_Store_state T.d_Store_state ["self", "key"] (aSp T.κ K sp_Store_state) := ok_Store_state T
  have g_removed : FnOk P w K mg base (L2.CX P w) 2 T.f_removed T.d_removed ["state", "seen"] (aSp T.κ K sp_removed) := ok_removed T
  have g_Replica_keep : FnOk P w K mg base (L2.CX P w) 6 T.f_Replica_keep T.d_Replica_keep ["self", "key", "state"] (aSp T.κ K sp_Replica_keep) := ok_Replica_keep T
  refine okA (k := 6) (N := N_Replica_remove) (T := T_Replica_remove) T.F_Replica_remove sc_Replica_remove l_Replica_remove (fun B cdv A outer s H E hκ hr => ?_) w_Replica_remove
  obtain ⟨κ, H0, A0⟩ := B
  cases hκ
  exact ass_one (as_expr (ae_meth T.k_Replica T.cl_Replica T.me_Replica_keep g_Replica_keep (hr.mono (by decide)) T.b_Replica_keep (ae_var (pv 0)) (aa_cons (ae_var (pv 1)) (aa_cons (ae_call g_removed (hr.mono (by decide)) (by rfl) T.m_removed T.F_removed.kp T.b_removed (aa_cons (ae_meth T.k_Store T.cl_Store T.me_Store_state g_Store_state (hr.mono (by decide)) T.b_Store_state (ae_fld T.k_Replica T.cl_Replica T.fld_Replica_store (ae_var (pv 0))) (aa_cons (ae_var (pv 1)) (aa_nil))) (aa_cons (ae_var (pv 2)) (aa_nil)))) (aa_nil)))))
set_option maxHeartbeats 4000000 in
theorem ok_Replica_crash (T : Tx P K mg) : FnOk P w K mg base (L2.CX P w) 7 T.f_Replica_crash T.d_Replica_crash ["self", "left"] (aSp T.κ K sp_Replica_crash) := by
  have g_Store_place : FnOk P w K mg base (L2.CX P w) 5 T.f_Store_place T.d_Store_place ["self", "key", "state"] (aSp T.κ K sp_Store_place) := ok_Store_place T
  have g_Store___init__ : FnOk P w K mg base (L2.CX P w) 3 T.f_Store___init__ T.d_Store___init__ ["self", "size"] (aSp T.κ K sp_Store___init__) := ok_Store___init__ T
  have g_Disk_trim : FnOk P w K mg base (L2.CX P w) 1 T.f_Disk_trim T.d_Disk_trim ["self", "many"] (aSp T.κ K sp_Disk_trim) := ok_Disk_trim T
  have g_recover : FnOk P w K mg base (L2.CX P w) 6 T.f_recover T.d_recover ["data", "size"] (aSp T.κ K sp_recover) := ok_recover T
  have g_Disk_cut : FnOk P w K mg base (L2.CX P w) 1 T.f_Disk_cut T.d_Disk_cut ["self", "left"] (aSp T.κ K sp_Disk_cut) := ok_Disk_cut T
  refine okA (k := 6) (N := N_Replica_crash) (T := T_Replica_crash) T.F_Replica_crash sc_Replica_crash l_Replica_crash (fun B cdv A outer s H E hκ hr => ?_) w_Replica_crash
  obtain ⟨κ, H0, A0⟩ := B
  cases hκ
  have HP := passes_of (X := cxOf (L2.CX P w) P w K mg base N_Replica_crash "Replica.crash" (defScope s_Replica_crash) T.f_Replica_crash cdv A outer s H E) rfl
  exact ass_cons (as_expr (ae_meth T.k_Disk T.cl_Disk T.me_Disk_cut g_Disk_cut (hr.mono (by decide)) T.b_Disk_cut (ae_fld T.k_Replica T.cl_Replica T.fld_Replica_disk (ae_var (pv 0))) (aa_cons (ae_var (pv 1)) (aa_nil)))) (ass_cons (as_set (i := 2) sc_Replica_crash.nd rfl (by first | exact Or.inl rfl | exact Or.inr rfl) (ae_fld T.k_Store T.cl_Store T.fld_Store_size (ae_fld T.k_Replica T.cl_Replica T.fld_Replica_store (ae_var (pv 0))))) (ass_cons (as_set (i := 3) sc_Replica_crash.nd rfl (by first | exact Or.inl rfl | exact Or.inr rfl) (ae_call g_recover (hr.mono (by decide)) (by rfl) T.m_recover T.F_recover.kp T.b_recover (aa_cons (ae_fld T.k_Disk T.cl_Disk T.fld_Disk_data (ae_fld T.k_Replica T.cl_Replica T.fld_Replica_disk (ae_var (pv 0)))) (aa_cons (ae_var (pv 2)) (aa_nil))))) (ass_cons (as_expr (ae_meth T.k_Disk T.cl_Disk T.me_Disk_trim g_Disk_trim (hr.mono (by decide)) T.b_Disk_trim (ae_fld T.k_Replica T.cl_Replica T.fld_Replica_disk (ae_var (pv 0))) (aa_cons (ae_cb (fun _ h => pe_callB call_lenA (by rfl) T.z_len (by decide +kernel) h) lk_len (aa_cons (ae_var (pv 3)) (aa_nil))) (aa_nil)))) (ass_cons (as_fld T.k_Replica T.cl_Replica T.fld_Replica_store (ae_var (pv 0)) (ae_new T.k_Store T.mk_Store g_Store___init__ (hr.mono (by decide)) (by rfl) T.m_Store T.b_Store___init__ (aa_cons (ae_var (pv 2)) (aa_nil)))) (ass_cons (as_for HP rfl (ai_list (ae_var (pv 3))) (ag_tup rfl (ags_cons (ag_name (i := 4) sc_Replica_crash.nd rfl (by first | exact Or.inl rfl | exact Or.inr rfl)) (ags_cons (ag_name (i := 5) sc_Replica_crash.nd rfl (by first | exact Or.inl rfl | exact Or.inr rfl)) (ags_nil)))) (ass_one (as_expr (ae_meth T.k_Store T.cl_Store T.me_Store_place g_Store_place (hr.mono (by decide)) T.b_Store_place (ae_fld T.k_Replica T.cl_Replica T.fld_Replica_store (ae_var (pv 0))) (aa_cons (ae_var (pv 4)) (aa_cons (ae_var (pv 5)) (aa_nil))))))) (ass_cons (as_fld T.k_Replica T.cl_Replica T.fld_Replica_waiting (ae_var (pv 0)) (ae_lst (aa_nil))) (ass_cons (as_fld T.k_Replica T.cl_Replica T.fld_Replica_counts (ae_var (pv 0)) (ae_cb (fun _ h => pe_callTy call_list_of (by rfl) T.z_list (by decide +kernel) h) lk_lst (aa_cons (ae_fld T.k_Replica T.cl_Replica T.fld_Replica_limits (ae_var (pv 0))) (aa_nil)))) (ass_one (as_ret (ae_cb (fun _ h => pe_callB call_lenA (by rfl) T.z_len (by decide +kernel) h) lk_len (aa_cons (ae_var (pv 3)) (aa_nil))))))))))))
set_option maxHeartbeats 4000000 in
theorem ok_q_after (T : Tx P K mg) : FnOk P w K mg base (L2.CX P w) 7 T.f_q_after T.d_q_after ["_law_data", "_law_size"] (aSp T.κ K sp_q_after) := by
  have g_recover : FnOk P w K mg base (L2.CX P w) 6 T.f_recover T.d_recover ["data", "size"] (aSp T.κ K sp_recover) := ok_recover T
  refine okA (k := 6) (N := N_q_after) (T := T_q_after) T.F_q_after sc_q_after l_q_after (fun B cdv A outer s H E hκ hr => ?_) w_q_after
  obtain ⟨κ, H0, A0⟩ := B
  cases hκ
  have HP := passes_of (X := cxOf (L2.CX P w) P w K mg base N_q_after "_law_after" (defScope s_q_after) T.f_q_after cdv A outer s H E) rfl
  exact ass_cons (as_set (i := 2) sc_q_after.nd rfl (by first | exact Or.inl rfl | exact Or.inr rfl) (ae_bin op_mulA lk_mul (ae_lst (aa_cons (ae_c (pe_glob (by rfl) T.m_EMPTY T.v_EMPTY) T.r_EMPTY) (aa_nil))) (ae_var (pv 1)))) (ass_cons (as_for HP rfl (ai_list (ae_call g_recover (hr.mono (by decide)) (by rfl) T.m_recover T.F_recover.kp T.b_recover (aa_cons (ae_var (pv 0)) (aa_cons (ae_var (pv 1)) (aa_nil))))) (ag_tup rfl (ags_cons (ag_name (i := 3) sc_q_after.nd rfl (by first | exact Or.inl rfl | exact Or.inr rfl)) (ags_cons (ag_name (i := 4) sc_q_after.nd rfl (by first | exact Or.inl rfl | exact Or.inr rfl)) (ags_nil)))) (ass_one (as_asg (ae_var (pv 4)) (ag_subL (ae_var (pv 2)) (ae_var (pv 3)))))) (ass_one (as_ret (ae_var (pv 2)))))
set_option maxHeartbeats 4000000 in
theorem ok_Replica_pack (T : Tx P K mg) : FnOk P w K mg base (L2.CX P w) 8 T.f_Replica_pack T.d_Replica_pack ["self", "left"] (aSp T.κ K sp_Replica_pack) := by
  have g_Replica_crash : FnOk P w K mg base (L2.CX P w) 7 T.f_Replica_crash T.d_Replica_crash ["self", "left"] (aSp T.κ K sp_Replica_crash) := ok_Replica_crash T
  have g_Store_rows : FnOk P w K mg base (L2.CX P w) 1 T.f_Store_rows T.d_Store_rows ["self"] (aSp T.κ K sp_Store_rows) := ok_Store_rows T
  have g_Disk_replace : FnOk P w K mg base (L2.CX P w) 3 T.f_Disk_replace T.d_Disk_replace ["self", "rows", "left"] (aSp T.κ K sp_Disk_replace) := ok_Disk_replace T
  refine okA (k := 7) (N := N_Replica_pack) (T := T_Replica_pack) T.F_Replica_pack sc_Replica_pack l_Replica_pack (fun B cdv A outer s H E hκ hr => ?_) w_Replica_pack
  obtain ⟨κ, H0, A0⟩ := B
  cases hκ
  exact ass_cons (as_set (i := 2) sc_Replica_pack.nd rfl (by first | exact Or.inl rfl | exact Or.inr rfl) (ae_meth T.k_Disk T.cl_Disk T.me_Disk_replace g_Disk_replace (hr.mono (by decide)) T.b_Disk_replace (ae_fld T.k_Replica T.cl_Replica T.fld_Replica_disk (ae_var (pv 0))) (aa_cons (ae_meth0 T.k_Store T.cl_Store T.me_Store_rows g_Store_rows (hr.mono (by decide)) T.b_Store_rows (ae_fld T.k_Replica T.cl_Replica T.fld_Replica_store (ae_var (pv 0)))) (aa_cons (ae_var (pv 1)) (aa_nil))))) (ass_cons (as_if (at_not (at_tru (ae_var (pv 2)))) (ass_one (as_expr (ae_meth T.k_Replica T.cl_Replica T.me_Replica_crash g_Replica_crash (hr.mono (by decide)) T.b_Replica_crash (ae_var (pv 0)) (aa_cons (ae_int) (aa_nil))))) (ass_nil)) (ass_one (as_ret (ae_var (pv 2)))))
set_option maxHeartbeats 4000000 in
theorem ok_q_full (T : Tx P K mg) : FnOk P w K mg base (L2.CX P w) 8 T.f_q_full T.d_q_full ["_law_replica", "_law_key", "_law_seen"] (aSp T.κ K sp_q_full) := by
  have g_Replica_write : FnOk P w K mg base (L2.CX P w) 7 T.f_Replica_write T.d_Replica_write ["self", "key", "value", "seen"] (aSp T.κ K sp_Replica_write) := ok_Replica_write T
  refine okA (k := 7) (N := N_q_full) (T := T_q_full) T.F_q_full sc_q_full l_q_full (fun B cdv A outer s H E hκ hr => ?_) w_q_full
  obtain ⟨κ, H0, A0⟩ := B
  cases hκ
  have HP := passes_of (X := cxOf (L2.CX P w) P w K mg base N_q_full "_law_full" (defScope s_q_full) T.f_q_full cdv A outer s H E) rfl
  exact ass_cons (as_tryAs T.k_Full rfl rfl sc_q_full.nd rfl rfl (by rfl) T.m_Full T.ex_Full (fun B1 hB pn xe HP => by obtain ⟨κ1, H1, A1⟩ := B1; cases hB; exact ass_one (as_expr (ae_meth T.k_Replica T.cl_Replica T.me_Replica_write g_Replica_write (hr.mono (by decide)) T.b_Replica_write (ae_var (pv 0)) (aa_cons (ae_var (pv 1)) (aa_cons (ae_int) (aa_cons (ae_var (pv 2)) (aa_nil))))))) (fun B1 a oe dd v pl pn hB hz hd rh h0 hA0 rv => by obtain ⟨κ1, H1, A1⟩ := B1; cases hB; exact ass_one (as_ret (ae_cmp (op_eqD hr.units) lk_eq (ae_err T.xf_Full T.nf_Full hz hd rh h0 hA0 rv (pv 3)) (ae_str) (nomark _))))) (ass_one (as_ret (ae_bl)))
set_option maxHeartbeats 4000000 in
theorem ok_q_crashed (T : Tx P K mg) : FnOk P w K mg base (L2.CX P w) 8 T.f_q_crashed T.d_q_crashed ["_law_w", "_law_data", "_law_size"] (aSp T.κ K sp_q_crashed) := by
  have g_q_after : FnOk P w K mg base (L2.CX P w) 7 T.f_q_after T.d_q_after ["_law_data", "_law_size"] (aSp T.κ K sp_q_after) := ok_q_after T
  refine okA (k := 7) (N := N_q_crashed) (T := T_q_crashed) T.F_q_crashed sc_q_crashed l_q_crashed (fun B cdv A outer s H E hκ hr => ?_) w_q_crashed
  obtain ⟨κ, H0, A0⟩ := B
  cases hκ
  exact ass_cons (as_dput (hu_of hr) (ae_var (pv 0)) (ae_str) (ae_call g_q_after (hr.mono (by decide)) (by rfl) T.m_q_after T.F_q_after.kp T.b_q_after (aa_cons (ae_var (pv 1)) (aa_cons (ae_var (pv 2)) (aa_nil))))) (ass_cons (as_dput (hu_of hr) (ae_var (pv 0)) (ae_str) (ae_cb (fun _ h => pe_callTy call_list_of (by rfl) T.z_list (by decide +kernel) h) lk_lst (aa_cons (ae_dg (hu_of hr) (ae_var (pv 0)) (ae_str) (fun _ _ => rfl)) (aa_nil)))) (ass_one (as_dput (hu_of hr) (ae_var (pv 0)) (ae_str) (ae_lst (aa_nil)))))
set_option maxHeartbeats 4000000 in
theorem ok_q_write (T : Tx P K mg) : FnOk P w K mg base (L2.CX P w) 9 T.f_q_write T.d_q_write ["_law_replica", "_law_number", "_law_w", "_law_key", "_law_value", "_law_seen"] (aSp T.κ K sp_q_write) := by
  have g_Replica_write : FnOk P w K mg base (L2.CX P w) 7 T.f_Replica_write T.d_Replica_write ["self", "key", "value", "seen"] (aSp T.κ K sp_Replica_write) := ok_Replica_write T
  have g_q_full : FnOk P w K mg base (L2.CX P w) 8 T.f_q_full T.d_q_full ["_law_replica", "_law_key", "_law_seen"] (aSp T.κ K sp_q_full) := ok_q_full T
  refine okA (k := 8) (N := N_q_write) (T := T_q_write) T.F_q_write sc_q_write l_q_write (fun B cdv A outer s H E hκ hr => ?_) w_q_write
  obtain ⟨κ, H0, A0⟩ := B
  cases hκ
  exact ass_cons (as_set (i := 6) sc_q_write.nd rfl (by first | exact Or.inl rfl | exact Or.inr rfl) (ae_bin op_addA lk_add (ae_ix ix_seq lk_ix (ae_dg (hu_of hr) (ae_var (pv 2)) (ae_str) (fun _ _ => rfl)) (ae_var (pv 3)) (fun _ _ => rfl)) (ae_int))) (ass_cons (as_if (at_cmp op_gt lk_cmp (ae_var (pv 6)) (ae_int) (nomark _)) (ass_one (as_ret (ae_call g_q_full (hr.mono (by decide)) (by rfl) T.m_q_full T.F_q_full.kp T.b_q_full (aa_cons (ae_var (pv 0)) (aa_cons (ae_var (pv 3)) (aa_cons (ae_var (pv 5)) (aa_nil))))))) (ass_nil)) (ass_cons (as_if (at_cmp (op_neD hr.units) lk_ne (ae_meth T.k_Replica T.cl_Replica T.me_Replica_write g_Replica_write (hr.mono (by decide)) T.b_Replica_write (ae_var (pv 0)) (aa_cons (ae_var (pv 3)) (aa_cons (ae_var (pv 4)) (aa_cons (ae_var (pv 5)) (aa_nil))))) (ae_tup (aa_cons (ae_var (pv 1)) (aa_cons (ae_var (pv 6)) (aa_cons (ae_var (pv 4)) (aa_nil))))) (nomark _)) (ass_one (as_ret (ae_bl))) (ass_nil)) (ass_cons (as_asg (ae_var (pv 6)) (ag_subL (ae_dg (hu_of hr) (ae_var (pv 2)) (ae_str) (fun _ _ => rfl)) (ae_var (pv 3)))) (ass_cons (as_if (at_cmp op_gt lk_cmp (ae_var (pv 6)) (ae_ix ix_seq lk_ix (ae_dg (hu_of hr) (ae_var (pv 2)) (ae_str) (fun _ _ => rfl)) (ae_var (pv 3)) (fun _ _ => rfl)) (nomark _)) (ass_one (as_asg (ae_cb (fun _ h => pe_callB (call_min2 rfl) (by rfl) T.z_min (by decide +kernel) h) lk_min (aa_cons (ae_int) (aa_cons (ae_bin op_addA lk_add (ae_var (pv 6)) (ae_int)) (aa_nil)))) (ag_subL (ae_dg (hu_of hr) (ae_var (pv 2)) (ae_str) (fun _ _ => rfl)) (ae_var (pv 3))))) (ass_nil)) (ass_cons (as_set (i := 7) sc_q_write.nd rfl (by first | exact Or.inl rfl | exact Or.inr rfl) (ae_ix ix_seq lk_ix (ae_dg (hu_of hr) (ae_var (pv 2)) (ae_str) (fun _ _ => rfl)) (ae_var (pv 3)) (fun _ _ => rfl))) (ass_cons (as_lcif (j := 8) rfl sc_q_write.nd rfl rfl (sw_true rfl rfl rfl (by decide +kernel)) (ai_tup (ae_ix ix_seq lk_ix (ae_var (pv 7)) (ae_int) (fun _ _ => rfl))) (blkOk_by (N := N_q_write) (sc := defScope s_q_write) (by decide +kernel)) (fun _ _ _ _ _ => pg_name (i := 9) sc_q_write.nd rfl (Or.inl rfl)) (fun _ _ _ _ _ => AW.at_ (aw_and (at_cmp (op_neD hr.units) lk_ne (ae_ix ix_seq lk_ix (ae_var (pv 9)) (ae_int) (fun _ _ => rfl)) (ae_var (pv 1)) (nomark _)) (aw_and1 (at_cmp op_gt lk_cmp (ae_ix ix_seq lk_ix (ae_var (pv 9)) (ae_int) (fun _ _ => rfl)) (ae_ix ix_seq lk_ix (ae_var (pv 5)) (ae_ix ix_seq lk_ix (ae_var (pv 9)) (ae_int) (fun _ _ => rfl)) (fun _ _ => rfl)) (nomark _))))) (fun _ _ _ _ _ => ae_var (pv 9))) (ass_cons (as_lc (j := 10) rfl sc_q_write.nd rfl rfl (sw_true rfl rfl rfl (by decide +kernel)) (ai_range1 (by rfl) T.z_range (aa_cons (ae_int) (aa_nil))) (blkOk_by (N := N_q_write) (sc := defScope s_q_write) (by decide +kernel)) (fun _ _ _ _ _ => pg_name (i := 11) sc_q_write.nd rfl (Or.inl rfl)) (fun _ _ _ _ _ => ae_cb (fun _ h => pe_callB (call_max2 rfl) (by rfl) T.z_max (by decide +kernel) h) lk_max (aa_cons (ae_ix ix_seq lk_ix (ae_ix ix_seq lk_ix (ae_var (pv 7)) (ae_int) (fun _ _ => rfl)) (ae_var (pv 11)) (fun _ _ => rfl)) (aa_cons (ae_ix ix_seq lk_ix (ae_var (pv 5)) (ae_var (pv 11)) (fun _ _ => rfl)) (aa_nil))))) (ass_cons (as_asg (ae_var (pv 6)) (ag_subL (ae_var (pv 10)) (ae_var (pv 1)))) (ass_cons (as_asg (ae_tup (aa_cons (ae_cb (fun _ h => pe_callTy call_tuple_of (by rfl) T.z_tuple (by decide +kernel) h) lk_tup (aa_cons (ae_var (pv 10)) (aa_nil))) (aa_cons (ae_cb (fun _ h => pe_callTy call_tuple_of (by rfl) T.z_tuple (by decide +kernel) h) lk_tup (aa_cons (ae_cb (fun _ h => pe_callB (cr_sortT (d := 3) (B := 256) (by decide)) (by rfl) T.z_sorted (by decide +kernel) h) lk_srt (aa_cons (ae_bin op_addA lk_add (ae_var (pv 8)) (ae_lst (aa_cons (ae_tup (aa_cons (ae_var (pv 1)) (aa_cons (ae_var (pv 6)) (aa_cons (ae_var (pv 4)) (aa_nil))))) (aa_nil)))) (aa_nil))) (aa_nil))) (aa_nil)))) (ag_subL (ae_dg (hu_of hr) (ae_var (pv 2)) (ae_str) (fun _ _ => rfl)) (ae_var (pv 3)))) (ass_cons (as_expr (ae_lm (fun _ _ h1 h2 => pe_bm PySem.F.plainAttrs_list PySem.F.slot_list_append PySem.F.type_list_append mt_append h1 h2) lk_app (ae_dg (hu_of hr) (ae_var (pv 2)) (ae_str) (fun _ _ => rfl)) (aa_cons (ae_tup (aa_cons (ae_var (pv 3)) (aa_cons (ae_tup (aa_cons (ae_var (pv 1)) (aa_cons (ae_var (pv 6)) (aa_cons (ae_var (pv 4)) (aa_nil))))) (aa_nil)))) (aa_nil)))) (ass_one (as_ret (ae_bl)))))))))))))
set_option maxHeartbeats 4000000 in
theorem ok_q_crash (T : Tx P K mg) : FnOk P w K mg base (L2.CX P w) 9 T.f_q_crash T.d_q_crash ["_law_replica", "_law_w", "_law_left", "_law_size"] (aSp T.κ K sp_q_crash) := by
  have g_Replica_crash : FnOk P w K mg base (L2.CX P w) 7 T.f_Replica_crash T.d_Replica_crash ["self", "left"] (aSp T.κ K sp_Replica_crash) := ok_Replica_crash T
  have g_recover : FnOk P w K mg base (L2.CX P w) 6 T.f_recover T.d_recover ["data", "size"] (aSp T.κ K sp_recover) := ok_recover T
  have g_q_crashed : FnOk P w K mg base (L2.CX P w) 8 T.f_q_crashed T.d_q_crashed ["_law_w", "_law_data", "_law_size"] (aSp T.κ K sp_q_crashed) := ok_q_crashed T
  refine okA (k := 8) (N := N_q_crash) (T := T_q_crash) T.F_q_crash sc_q_crash l_q_crash (fun B cdv A outer s H E hκ hr => ?_) w_q_crash
  obtain ⟨κ, H0, A0⟩ := B
  cases hκ
  exact ass_cons (as_set (i := 4) sc_q_crash.nd rfl (by first | exact Or.inl rfl | exact Or.inr rfl) (ae_sl (ae_fld T.k_Disk T.cl_Disk T.fld_Disk_data (ae_fld T.k_Replica T.cl_Replica T.fld_Replica_disk (ae_var (pv 0)))) (ao_none) (ao_some (ae_cb (fun _ h => pe_callB (call_min2 rfl) (by rfl) T.z_min (by decide +kernel) h) lk_min (aa_cons (ae_cb (fun _ h => pe_callB call_lenA (by rfl) T.z_len (by decide +kernel) h) lk_len (aa_cons (ae_fld T.k_Disk T.cl_Disk T.fld_Disk_data (ae_fld T.k_Replica T.cl_Replica T.fld_Replica_disk (ae_var (pv 0)))) (aa_nil))) (aa_cons (ae_bin op_addA lk_add (ae_fld T.k_Disk T.cl_Disk T.fld_Disk_safe (ae_fld T.k_Replica T.cl_Replica T.fld_Replica_disk (ae_var (pv 0)))) (ae_var (pv 2))) (aa_nil))))))) (ass_cons (as_expr (ae_call g_q_crashed (hr.mono (by decide)) (by rfl) T.m_q_crashed T.F_q_crashed.kp T.b_q_crashed (aa_cons (ae_var (pv 1)) (aa_cons (ae_var (pv 4)) (aa_cons (ae_var (pv 3)) (aa_nil)))))) (ass_cons (as_set (i := 5) sc_q_crash.nd rfl (by first | exact Or.inl rfl | exact Or.inr rfl) (ae_cb (fun _ h => pe_callB call_lenA (by rfl) T.z_len (by decide +kernel) h) lk_len (aa_cons (ae_call g_recover (hr.mono (by decide)) (by rfl) T.m_recover T.F_recover.kp T.b_recover (aa_cons (ae_var (pv 4)) (aa_cons (ae_var (pv 3)) (aa_nil)))) (aa_nil)))) (ass_one (as_ret (ae_and (ae_cmp (op_eqD hr.units) lk_eq (ae_meth T.k_Replica T.cl_Replica T.me_Replica_crash g_Replica_crash (hr.mono (by decide)) T.b_Replica_crash (ae_var (pv 0)) (aa_cons (ae_var (pv 2)) (aa_nil))) (ae_var (pv 5)) (nomark _)) (ae_one (ae_cmp (op_eqD hr.units) lk_eq (ae_cb (fun _ h => pe_callB call_lenA (by rfl) T.z_len (by decide +kernel) h) lk_len (aa_cons (ae_fld T.k_Disk T.cl_Disk T.fld_Disk_data (ae_fld T.k_Replica T.cl_Replica T.fld_Replica_disk (ae_var (pv 0)))) (aa_nil))) (ae_bin op_mulA lk_mul (ae_int) (ae_var (pv 5))) (nomark _))))))))
set_option maxHeartbeats 4000000 in
theorem ok_q_pack (T : Tx P K mg) : FnOk P w K mg base (L2.CX P w) 9 T.f_q_pack T.d_q_pack ["_law_replica", "_law_w", "_law_left", "_law_base", "_law_size"] (aSp T.κ K sp_q_pack) := by
  have g_recover : FnOk P w K mg base (L2.CX P w) 6 T.f_recover T.d_recover ["data", "size"] (aSp T.κ K sp_recover) := ok_recover T
  have g_q_crashed : FnOk P w K mg base (L2.CX P w) 8 T.f_q_crashed T.d_q_crashed ["_law_w", "_law_data", "_law_size"] (aSp T.κ K sp_q_crashed) := ok_q_crashed T
  have g_Replica_pack : FnOk P w K mg base (L2.CX P w) 8 T.f_Replica_pack T.d_Replica_pack ["self", "left"] (aSp T.κ K sp_Replica_pack) := ok_Replica_pack T
  refine okA (k := 8) (N := N_q_pack) (T := T_q_pack) T.F_q_pack sc_q_pack l_q_pack (fun B cdv A outer s H E hκ hr => ?_) w_q_pack
  obtain ⟨κ, H0, A0⟩ := B
  cases hκ
  exact ass_cons (as_lcif (j := 5) rfl sc_q_pack.nd rfl rfl (sw_true rfl rfl rfl (by decide +kernel)) (ai_range1 (by rfl) T.z_range (aa_cons (ae_var (pv 4)) (aa_nil))) (blkOk_by (N := N_q_pack) (sc := defScope s_q_pack) (by decide +kernel)) (fun _ _ _ _ _ => pg_name (i := 6) sc_q_pack.nd rfl (Or.inl rfl)) (fun _ _ _ _ _ => at_cmp (op_neD hr.units) lk_ne (ae_ix ix_seq lk_ix (ae_dg (hu_of hr) (ae_var (pv 1)) (ae_str) (fun _ _ => rfl)) (ae_var (pv 6)) (fun _ _ => rfl)) (ae_c (pe_glob (by rfl) T.m_EMPTY T.v_EMPTY) T.r_EMPTY) (nomark _)) (fun _ _ _ _ _ => ae_tup (aa_cons (ae_var (pv 6)) (aa_cons (ae_ix ix_seq lk_ix (ae_dg (hu_of hr) (ae_var (pv 1)) (ae_str) (fun _ _ => rfl)) (ae_var (pv 6)) (fun _ _ => rfl)) (aa_nil))))) (ass_cons (as_set (i := 7) sc_q_pack.nd rfl (by first | exact Or.inl rfl | exact Or.inr rfl) (ae_meth T.k_Replica T.cl_Replica T.me_Replica_pack g_Replica_pack (hr.mono (by decide)) T.b_Replica_pack (ae_var (pv 0)) (aa_cons (ae_var (pv 2)) (aa_nil)))) (ass_cons (as_if (AW.at_ (aw_or (at_not (at_tru (ae_cb (fun _ h => pe_callB call_isi (by rfl) T.z_isinstance (by decide +kernel) h) lk_isi (aa_cons (ae_var (pv 7)) (aa_cons (ae_c (pe_bltn (v := .ty "bool") (by rfl) T.z_bool (by decide +kernel) rfl) (fun _ => .ty _)) (aa_nil)))))) (aw_or1 (at_cmp (op_neD hr.units) lk_ne (ae_var (pv 7)) (ae_cmp op_ge lk_cmp (ae_var (pv 2)) (ae_bin op_mulA lk_mul (ae_int) (ae_cb (fun _ h => pe_callB call_lenA (by rfl) T.z_len (by decide +kernel) h) lk_len (aa_cons (ae_var (pv 5)) (aa_nil)))) (nomark _)) (nomark _))))) (ass_one (as_ret (ae_bl))) (ass_nil)) (ass_cons (as_if (at_cmp op_lt lk_cmp (ae_var (pv 2)) (ae_bin op_mulA lk_mul (ae_int) (ae_cb (fun _ h => pe_callB call_lenA (by rfl) T.z_len (by decide +kernel) h) lk_len (aa_cons (ae_var (pv 5)) (aa_nil)))) (nomark _)) (ass_cons (as_expr (ae_call g_q_crashed (hr.mono (by decide)) (by rfl) T.m_q_crashed T.F_q_crashed.kp T.b_q_crashed (aa_cons (ae_var (pv 1)) (aa_cons (ae_var (pv 3)) (aa_cons (ae_var (pv 4)) (aa_nil)))))) (ass_one (as_ret (ae_bl)))) (ass_nil)) (ass_one (as_ret (ae_and (ae_cmp (op_eqD hr.units) lk_eq (ae_call g_recover (hr.mono (by decide)) (by rfl) T.m_recover T.F_recover.kp T.b_recover (aa_cons (ae_fld T.k_Disk T.cl_Disk T.fld_Disk_data (ae_fld T.k_Replica T.cl_Replica T.fld_Replica_disk (ae_var (pv 0)))) (aa_cons (ae_var (pv 4)) (aa_nil)))) (ae_var (pv 5)) (nomark _)) (ae_one (ae_cmp (op_eqD hr.units) lk_eq (ae_fld T.k_Disk T.cl_Disk T.fld_Disk_safe (ae_fld T.k_Replica T.cl_Replica T.fld_Replica_disk (ae_var (pv 0)))) (ae_bin op_mulA lk_mul (ae_int) (ae_cb (fun _ h => pe_callB call_lenA (by rfl) T.z_len (by decide +kernel) h) lk_len (aa_cons (ae_var (pv 5)) (aa_nil)))) (nomark _)))))))))
set_option maxHeartbeats 4000000 in
theorem ok_q_step (T : Tx P K mg) : FnOk P w K mg base (L2.CX P w) 10 T.f_q_step T.d_q_step ["_law_row", "_law_replica", "_law_number", "_law_w", "_law_base", "_law_turn", "_law_size"] (aSp T.κ K sp_q_step) := by
  have g_removed : FnOk P w K mg base (L2.CX P w) 2 T.f_removed T.d_removed ["state", "seen"] (aSp T.κ K sp_removed) := ok_removed T
  have g_Replica_remove : FnOk P w K mg base (L2.CX P w) 7 T.f_Replica_remove T.d_Replica_remove ["self", "key", "seen"] (aSp T.κ K sp_Replica_remove) := ok_Replica_remove T
  have g_Replica_sync : FnOk P w K mg base (L2.CX P w) 2 T.f_Replica_sync T.d_Replica_sync ["self"] (aSp T.κ K sp_Replica_sync) := ok_Replica_sync T
  have g_q_take : FnOk P w K mg base (L2.CX P w) 1 T.f_q_take T.d_q_take ["_law_row", "_law_many"] (aSp T.κ K sp_q_take) := ok_q_take T
  have g_q_crash : FnOk P w K mg base (L2.CX P w) 9 T.f_q_crash T.d_q_crash ["_law_replica", "_law_w", "_law_left", "_law_size"] (aSp T.κ K sp_q_crash) := ok_q_crash T
  have g_q_pack : FnOk P w K mg base (L2.CX P w) 9 T.f_q_pack T.d_q_pack ["_law_replica", "_law_w", "_law_left", "_law_base", "_law_size"] (aSp T.κ K sp_q_pack) := ok_q_pack T
  have g_q_write : FnOk P w K mg base (L2.CX P w) 9 T.f_q_write T.d_q_write ["_law_replica", "_law_number", "_law_w", "_law_key", "_law_value", "_law_seen"] (aSp T.κ K sp_q_write) := ok_q_write T
  have g_q_state : FnOk P w K mg base (L2.CX P w) 2 T.f_q_state T.d_q_state ["_law_row"] (aSp T.κ K sp_q_state) := ok_q_state T
  refine okA (k := 9) (N := N_q_step) (T := T_q_step) T.F_q_step sc_q_step l_q_step (fun B cdv A outer s H E hκ hr => ?_) w_q_step
  obtain ⟨κ, H0, A0⟩ := B
  cases hκ
  exact ass_cons (as_set (i := 7) sc_q_step.nd rfl (by first | exact Or.inl rfl | exact Or.inr rfl) (ae_call g_q_take (hr.mono (by decide)) (by rfl) T.m_q_take T.F_q_take.kp T.b_q_take (aa_cons (ae_var (pv 0)) (aa_cons (ae_int) (aa_nil))))) (ass_cons (as_set (i := 8) sc_q_step.nd rfl (by first | exact Or.inl rfl | exact Or.inr rfl) (ae_call g_q_take (hr.mono (by decide)) (by rfl) T.m_q_take T.F_q_take.kp T.b_q_take (aa_cons (ae_var (pv 0)) (aa_cons (ae_var (pv 6)) (aa_nil))))) (ass_cons (as_set (i := 9) sc_q_step.nd rfl (by first | exact Or.inl rfl | exact Or.inr rfl) (ae_dg (hu_of hr) (ae_var (pv 3)) (ae_str) (fun _ _ => rfl))) (ass_cons (as_set (i := 10) sc_q_step.nd rfl (by first | exact Or.inl rfl | exact Or.inr rfl) (ae_ix ix_seq lk_ix (ae_lst (aa_cons (ae_ix ix_seq lk_ix (ae_ix ix_seq lk_ix (ae_var (pv 9)) (ae_var (pv 8)) (fun _ _ => rfl)) (ae_int) (fun _ _ => rfl)) (aa_cons (ae_ix ix_seq lk_ix (ae_c (pe_glob (by rfl) T.m_EMPTY T.v_EMPTY) T.r_EMPTY) (ae_int) (fun _ _ => rfl)) (aa_cons (ae_ix ix_seq lk_ix (ae_call g_q_state (hr.mono (by decide)) (by rfl) T.m_q_state T.F_q_state.kp T.b_q_state (aa_cons (ae_var (pv 0)) (aa_nil))) (ae_int) (fun _ _ => rfl)) (aa_nil))))) (ae_call g_q_take (hr.mono (by decide)) (by rfl) T.m_q_take T.F_q_take.kp T.b_q_take (aa_cons (ae_var (pv 0)) (aa_cons (ae_int) (aa_nil)))) (fun _ _ => rfl))) (ass_cons (as_if (at_cmp op_lt lk_cmp (ae_var (pv 7)) (ae_int) (nomark _)) (ass_cons (as_set (i := 10) sc_q_step.nd rfl (by first | exact Or.inl rfl | exact Or.inr rfl) (ae_cb (fun _ h => pe_callTy call_tuple_of (by rfl) T.z_tuple (by decide +kernel) h) lk_tup (aa_cons (ae_lc rfl sc_q_step.nd (ai_range1 (by rfl) T.z_range (aa_cons (ae_int) (aa_nil))) (blkOk_by (N := N_q_step) (sc := defScope s_q_step) (by decide +kernel)) (fun _ _ _ _ _ => pg_name (i := 11) sc_q_step.nd rfl (Or.inl rfl)) (fun _ _ _ _ _ => ae_if (at_cmp (op_eqD hr.units) lk_eq (ae_var (pv 11)) (ae_var (pv 2)) (nomark _)) (ae_cb (fun _ h => pe_callB (call_min2 rfl) (by rfl) T.z_min (by decide +kernel) h) lk_min (aa_cons (ae_ix ix_seq lk_ix (ae_var (pv 10)) (ae_var (pv 11)) (fun _ _ => rfl)) (aa_cons (ae_ix ix_seq lk_ix (ae_ix ix_seq lk_ix (ae_ix ix_seq lk_ix (ae_var (pv 9)) (ae_var (pv 8)) (fun _ _ => rfl)) (ae_int) (fun _ _ => rfl)) (ae_var (pv 11)) (fun _ _ => rfl)) (aa_nil)))) (ae_ix ix_seq lk_ix (ae_var (pv 10)) (ae_var (pv 11)) (fun _ _ => rfl)))) (aa_nil)))) (ass_one (as_ret (ae_call g_q_write (hr.mono (by decide)) (by rfl) T.m_q_write T.F_q_write.kp T.b_q_write (aa_cons (ae_var (pv 1)) (aa_cons (ae_var (pv 2)) (aa_cons (ae_var (pv 3)) (aa_cons (ae_var (pv 8)) (aa_cons (ae_var (pv 5)) (aa_cons (ae_var (pv 10)) (aa_nil))))))))))) (ass_nil)) (ass_cons (as_if (at_cmp (op_eqD hr.units) lk_eq (ae_var (pv 7)) (ae_int) (nomark _)) (ass_cons (as_expr (ae_meth T.k_Replica T.cl_Replica T.me_Replica_remove g_Replica_remove (hr.mono (by decide)) T.b_Replica_remove (ae_var (pv 1)) (aa_cons (ae_var (pv 8)) (aa_cons (ae_ix ix_seq lk_ix (ae_ix ix_seq lk_ix (ae_var (pv 9)) (ae_var (pv 8)) (fun _ _ => rfl)) (ae_int) (fun _ _ => rfl)) (aa_nil))))) (ass_one (as_asg (ae_call g_removed (hr.mono (by decide)) (by rfl) T.m_removed T.F_removed.kp T.b_removed (aa_cons (ae_ix ix_seq lk_ix (ae_var (pv 9)) (ae_var (pv 8)) (fun _ _ => rfl)) (aa_cons (ae_ix ix_seq lk_ix (ae_ix ix_seq lk_ix (ae_var (pv 9)) (ae_var (pv 8)) (fun _ _ => rfl)) (ae_int) (fun _ _ => rfl)) (aa_nil)))) (ag_subL (ae_var (pv 9)) (ae_var (pv 8)))))) (ass_one (as_if (at_cmp (op_eqD hr.units) lk_eq (ae_var (pv 7)) (ae_int) (nomark _)) (ass_cons (as_set (i := 12) sc_q_step.nd rfl (by first | exact Or.inl rfl | exact Or.inr rfl) (ae_meth0 T.k_Replica T.cl_Replica T.me_Replica_sync g_Replica_sync (hr.mono (by decide)) T.b_Replica_sync (ae_var (pv 1)))) (ass_cons (as_set (i := 13) sc_q_step.nd rfl (by first | exact Or.inl rfl | exact Or.inr rfl) (ae_dg (hu_of hr) (ae_var (pv 3)) (ae_str) (fun _ _ => rfl))) (ass_cons (as_dput (hu_of hr) (ae_var (pv 3)) (ae_str) (ae_lst (aa_nil))) (ass_one (as_ret (ae_and (ae_cmp (op_eqD hr.units) lk_eq (ae_var (pv 12)) (ae_var (pv 13)) (nomark _)) (ae_one (ae_cmp (op_eqD hr.units) lk_eq (ae_fld T.k_Disk T.cl_Disk T.fld_Disk_safe (ae_fld T.k_Replica T.cl_Replica T.fld_Replica_disk (ae_var (pv 1)))) (ae_cb (fun _ h => pe_callB call_lenA (by rfl) T.z_len (by decide +kernel) h) lk_len (aa_cons (ae_fld T.k_Disk T.cl_Disk T.fld_Disk_data (ae_fld T.k_Replica T.cl_Replica T.fld_Replica_disk (ae_var (pv 1)))) (aa_nil))) (nomark _))))))))) (ass_one (as_if (at_cmp (op_eqD hr.units) lk_eq (ae_var (pv 7)) (ae_int) (nomark _)) (ass_one (as_ret (ae_call g_q_crash (hr.mono (by decide)) (by rfl) T.m_q_crash T.F_q_crash.kp T.b_q_crash (aa_cons (ae_var (pv 1)) (aa_cons (ae_var (pv 3)) (aa_cons (ae_call g_q_take (hr.mono (by decide)) (by rfl) T.m_q_take T.F_q_take.kp T.b_q_take (aa_cons (ae_var (pv 0)) (aa_cons (ae_int) (aa_nil)))) (aa_cons (ae_var (pv 6)) (aa_nil)))))))) (ass_one (as_if (at_cmp (op_eqD hr.units) lk_eq (ae_var (pv 7)) (ae_int) (nomark _)) (ass_one (as_ret (ae_call g_q_pack (hr.mono (by decide)) (by rfl) T.m_q_pack T.F_q_pack.kp T.b_q_pack (aa_cons (ae_var (pv 1)) (aa_cons (ae_var (pv 3)) (aa_cons (ae_bin op_mulA lk_mul (ae_call g_q_take (hr.mono (by decide)) (by rfl) T.m_q_take T.F_q_take.kp T.b_q_take (aa_cons (ae_var (pv 0)) (aa_cons (ae_int) (aa_nil)))) (ae_int)) (aa_cons (ae_var (pv 4)) (aa_cons (ae_var (pv 6)) (aa_nil))))))))) (ass_nil)))))))) (ass_one (as_ret (ae_bl))))))))
set_option maxHeartbeats 4000000 in
theorem ok_law (T : Tx P K mg) : FnOk P w K mg base (L2.CX P w) 11 T.f_law T.d_law ["_law_script"] (aSp T.κ K sp_law) := by
  have g_Replica_sync : FnOk P w K mg base (L2.CX P w) 2 T.f_Replica_sync T.d_Replica_sync ["self"] (aSp T.κ K sp_Replica_sync) := ok_Replica_sync T
  have g_q_take : FnOk P w K mg base (L2.CX P w) 1 T.f_q_take T.d_q_take ["_law_row", "_law_many"] (aSp T.κ K sp_q_take) := ok_q_take T
  have g_Store_state : FnOk P w K mg base (L2.CX P w) 1 T.f_Store_state T.d_Store_state ["self", "key"] (aSp T.κ K sp_Store_state) := ok_Store_state T
  have g_q_step : FnOk P w K mg base (L2.CX P w) 10 T.f_q_step T.d_q_step ["_law_row", "_law_replica", "_law_number", "_law_w", "_law_base", "_law_turn", "_law_size"] (aSp T.κ K sp_q_step) := ok_q_step T
  have g_q_write : FnOk P w K mg base (L2.CX P w) 9 T.f_q_write T.d_q_write ["_law_replica", "_law_number", "_law_w", "_law_key", "_law_value", "_law_seen"] (aSp T.κ K sp_q_write) := ok_q_write T
  have g_Replica___init__ : FnOk P w K mg base (L2.CX P w) 5 T.f_Replica___init__ T.d_Replica___init__ ["self", "number", "size"] (aSp T.κ K sp_Replica___init__) := ok_Replica___init__ T
  have g_q_stream : FnOk P w K mg base (L2.CX P w) 1 T.f_q_stream T.d_q_stream ["_law_script"] (aSp T.κ K sp_q_stream) := ok_q_stream T
  refine okA (k := 10) (N := N_law) (T := T_law) T.F_law sc_law l_law (fun B cdv A outer s H E hκ hr => ?_) w_law
  obtain ⟨κ, H0, A0⟩ := B
  cases hκ
  have HP := passes_of (X := cxOf (L2.CX P w) P w K mg base N_law "law" (defScope s_law) T.f_law cdv A outer s H E) rfl
  exact ass_cons (as_set (i := 1) sc_law.nd rfl (by first | exact Or.inl rfl | exact Or.inr rfl) (ae_call g_q_stream (hr.mono (by decide)) (by rfl) T.m_q_stream T.F_q_stream.kp T.b_q_stream (aa_cons (ae_var (pv 0)) (aa_nil)))) (ass_cons (as_set (i := 2) sc_law.nd rfl (by first | exact Or.inl rfl | exact Or.inr rfl) (ae_ix ix_seq lk_ix (ae_lst (aa_cons (ae_int) (aa_cons (ae_int) (aa_cons (ae_int) (aa_nil))))) (ae_call g_q_take (hr.mono (by decide)) (by rfl) T.m_q_take T.F_q_take.kp T.b_q_take (aa_cons (ae_var (pv 1)) (aa_cons (ae_int) (aa_nil)))) (fun _ _ => rfl))) (ass_cons (as_set (i := 3) sc_law.nd rfl (by first | exact Or.inl rfl | exact Or.inr rfl) (ae_call g_q_take (hr.mono (by decide)) (by rfl) T.m_q_take T.F_q_take.kp T.b_q_take (aa_cons (ae_var (pv 1)) (aa_cons (ae_int) (aa_nil))))) (ass_cons (as_set (i := 4) sc_law.nd rfl (by first | exact Or.inl rfl | exact Or.inr rfl) (ae_new T.k_Replica T.mk_Replica g_Replica___init__ (hr.mono (by decide)) (by rfl) T.m_Replica T.b_Replica___init__ (aa_cons (ae_var (pv 3)) (aa_cons (ae_var (pv 2)) (aa_nil))))) (ass_cons (as_set (i := 5) sc_law.nd rfl (by first | exact Or.inl rfl | exact Or.inr rfl) (ae_disp (aps_cons (ae_str) (ae_bin op_mulA lk_mul (ae_lst (aa_cons (ae_c (pe_glob (by rfl) T.m_EMPTY T.v_EMPTY) T.r_EMPTY) (aa_nil))) (ae_var (pv 2))) (aps_cons (ae_str) (ae_bin op_mulA lk_mul (ae_lst (aa_cons (ae_int) (aa_nil))) (ae_var (pv 2))) (aps_cons (ae_str) (ae_bin op_mulA lk_mul (ae_lst (aa_cons (ae_int) (aa_nil))) (ae_var (pv 2))) (aps_cons (ae_str) (ae_lst (aa_nil)) (aps_nil))))))) (ass_cons (as_set (i := 6) sc_law.nd rfl (by first | exact Or.inl rfl | exact Or.inr rfl) (ae_if (at_cmp (op_eqD hr.units) lk_eq (ae_call g_q_take (hr.mono (by decide)) (by rfl) T.m_q_take T.F_q_take.kp T.b_q_take (aa_cons (ae_var (pv 1)) (aa_cons (ae_int) (aa_nil)))) (ae_int) (nomark _)) (ae_bin op_addA lk_add (ae_int) (ae_call g_q_take (hr.mono (by decide)) (by rfl) T.m_q_take T.F_q_take.kp T.b_q_take (aa_cons (ae_var (pv 1)) (aa_cons (ae_int) (aa_nil))))) (ae_int))) (ass_cons (as_for HP rfl (ai_range1 (by rfl) T.z_range (aa_cons (ae_var (pv 6)) (aa_nil))) (ag_name (i := 7) sc_law.nd rfl (by first | exact Or.inl rfl | exact Or.inr rfl)) (ass_one (as_if (at_not (at_tru (ae_call g_q_write (hr.mono (by decide)) (by rfl) T.m_q_write T.F_q_write.kp T.b_q_write (aa_cons (ae_var (pv 4)) (aa_cons (ae_var (pv 3)) (aa_cons (ae_var (pv 5)) (aa_cons (ae_int) (aa_cons (ae_int) (aa_cons (ae_ix ix_seq lk_ix (ae_ix ix_seq lk_ix (ae_dg (hu_of hr) (ae_var (pv 5)) (ae_str) (fun _ _ => rfl)) (ae_int) (fun _ _ => rfl)) (ae_int) (fun _ _ => rfl)) (aa_nil)))))))))) (ass_one (as_ret (ae_bl))) (ass_nil)))) (ass_cons (as_set (i := 8) sc_law.nd rfl (by first | exact Or.inl rfl | exact Or.inr rfl) (ae_lst (aa_nil))) (ass_cons (as_for HP rfl (ai_range1 (by rfl) T.z_range (aa_cons (ae_call g_q_take (hr.mono (by decide)) (by rfl) T.m_q_take T.F_q_take.kp T.b_q_take (aa_cons (ae_var (pv 1)) (aa_cons (ae_int) (aa_nil)))) (aa_nil))) (ag_name (i := 7) sc_law.nd rfl (by first | exact Or.inl rfl | exact Or.inr rfl)) (ass_cons (as_if (at_not (at_tru (ae_call g_q_step (hr.mono (by decide)) (by rfl) T.m_q_step T.F_q_step.kp T.b_q_step (aa_cons (ae_var (pv 1)) (aa_cons (ae_var (pv 4)) (aa_cons (ae_var (pv 3)) (aa_cons (ae_var (pv 5)) (aa_cons (ae_var (pv 8)) (aa_cons (ae_var (pv 7)) (aa_cons (ae_var (pv 2)) (aa_nil))))))))))) (ass_one (as_ret (ae_bl))) (ass_nil)) (ass_cons (as_set (i := 8) sc_law.nd rfl (by first | exact Or.inl rfl | exact Or.inr rfl) (ae_sl (ae_fld T.k_Disk T.cl_Disk T.fld_Disk_data (ae_fld T.k_Replica T.cl_Replica T.fld_Replica_disk (ae_var (pv 4)))) (ao_none) (ao_some (ae_fld T.k_Disk T.cl_Disk T.fld_Disk_safe (ae_fld T.k_Replica T.cl_Replica T.fld_Replica_disk (ae_var (pv 4))))))) (ass_one (as_if (AW.at_ (aw_or (at_cmp (op_neD hr.units) lk_ne (ae_lc rfl sc_law.nd (ai_range1 (by rfl) T.z_range (aa_cons (ae_var (pv 2)) (aa_nil))) (blkOk_by (N := N_law) (sc := defScope s_law) (by decide +kernel)) (fun _ _ _ _ _ => pg_name (i := 9) sc_law.nd rfl (Or.inl rfl)) (fun _ _ _ _ _ => ae_meth T.k_Store T.cl_Store T.me_Store_state g_Store_state (hr.mono (by decide)) T.b_Store_state (ae_fld T.k_Replica T.cl_Replica T.fld_Replica_store (ae_var (pv 4))) (aa_cons (ae_var (pv 9)) (aa_nil)))) (ae_dg (hu_of hr) (ae_var (pv 5)) (ae_str) (fun _ _ => rfl)) (nomark _)) (aw_or1 (at_cmp (op_neD hr.units) lk_ne (ae_fld T.k_Replica T.cl_Replica T.fld_Replica_counts (ae_var (pv 4))) (ae_dg (hu_of hr) (ae_var (pv 5)) (ae_str) (fun _ _ => rfl)) (nomark _))))) (ass_one (as_ret (ae_bl))) (ass_nil)))))) (ass_one (as_ret (ae_cmp (op_eqD hr.units) lk_eq (ae_meth0 T.k_Replica T.cl_Replica T.me_Replica_sync g_Replica_sync (hr.mono (by decide)) T.b_Replica_sync (ae_var (pv 4))) (ae_dg (hu_of hr) (ae_var (pv 5)) (ae_str) (fun _ _ => rfl)) (nomark _))))))))))))
end
/-! ## the end -/
/-- what is wanted of the law -/
def spEnd (K : PySem.W.Frag) : Sp := fun vs H Q _ => ∃ (a : Addr) (ns : List Int), vs = [.ref a] ∧ Frl K H a (ns.map V.int) ∧ ns.length ≤ 63 ∧ ∀ H', Q (.bl true) H'
theorem Frl.only {K : PySem.W.Frag} {H : Hp} {a : Addr} {xs : List V} (o : Only H) (h : SqL K H a xs) : Frl K H a xs := by
  rcases h with (h | h) | h
  · rcases o a with z | ⟨ob, ys, z⟩ <;> (rw [h] at z; cases z)
  · exact .inl h
  · exact .inr fun _ => .inr h
set_option maxHeartbeats 8000000 in
theorem all_mk {l : PySem.W.OpenLaw} {w : World} {K : PySem.W.Frag} {h : Heap} {mg : Str → Option Value} {fa : Addr} (X : K.In h) (G : h.Ns mainGlobals mg) (hfa : mg "law" = some (.ref fa))
    {t_REPLICAS : Tok}
    {t_MAX_COUNT : Tok}
    {t_MAX_VALUE : Tok}
    {a_EMPTY : Addr}
    {a_EMPTY_1 : Addr}
    {a_EMPTY_2 : Addr}
    {o_EMPTY : Option Addr} {n_EMPTY : Nat} {l_EMPTY : Array (Option Value)}
    {t_EMPTY_3 : Tok}
    {t_EMPTY_4 : Tok}
    {t_EMPTY_5 : Tok}
    {t_EMPTY_6 : Tok}
    {o_EMPTY_1 : Option Addr} {n_EMPTY_1 : Nat} {l_EMPTY_1 : Array (Option Value)}
    {o_EMPTY_2 : Option Addr} {n_EMPTY_2 : Nat} {l_EMPTY_2 : Array (Option Value)}
    {t_RECORD : Tok}
    {t_MARK : Tok}
    {t_PRIME : Tok}
    {a_SIZES : Addr}
    {t_SIZES_1 : Tok}
    {t_SIZES_2 : Tok}
    {t_SIZES_3 : Tok}
    {t_SIZES_4 : Tok}
    {t_SIZES_5 : Tok}
    {t_SIZES_6 : Tok}
    {t_SIZES_7 : Tok}
    {o_SIZES : Option Addr} {n_SIZES : Nat} {l_SIZES : Array (Option Value)}
    {t_AHEAD : Tok}
    {a_Disk : Addr}
    {a_Tree : Addr}
    {a_Store : Addr}
    {a_Replica : Addr}
    {f_is_number : Addr} {od_is_number an_is_number : Option Addr} {sl_is_number : Array (Option Value)} {oc_is_number kV_is_number dc_is_number pm_is_number cd_is_number ct_is_number : Value}
    {f_covers : Addr} {od_covers an_covers : Option Addr} {sl_covers : Array (Option Value)} {oc_covers kV_covers dc_covers pm_covers cd_covers ct_covers : Value}
    {f_joined_seen : Addr} {od_joined_seen an_joined_seen : Option Addr} {sl_joined_seen : Array (Option Value)} {oc_joined_seen kV_joined_seen dc_joined_seen pm_joined_seen cd_joined_seen ct_joined_seen : Value}
    {f_code : Addr} {od_code an_code : Option Addr} {sl_code : Array (Option Value)} {oc_code kV_code dc_code pm_code cd_code ct_code : Value}
    {f_check_byte : Addr} {od_check_byte an_check_byte : Option Addr} {sl_check_byte : Array (Option Value)} {oc_check_byte kV_check_byte dc_check_byte pm_check_byte cd_check_byte ct_check_byte : Value}
    {f_Disk___init__ : Addr} {od_Disk___init__ an_Disk___init__ : Option Addr} {sl_Disk___init__ : Array (Option Value)} {oc_Disk___init__ kV_Disk___init__ dc_Disk___init__ pm_Disk___init__ cd_Disk___init__ ct_Disk___init__ : Value}
    {f_Disk_sync : Addr} {od_Disk_sync an_Disk_sync : Option Addr} {sl_Disk_sync : Array (Option Value)} {oc_Disk_sync kV_Disk_sync dc_Disk_sync pm_Disk_sync cd_Disk_sync ct_Disk_sync : Value}
    {f_Disk_cut : Addr} {od_Disk_cut an_Disk_cut : Option Addr} {sl_Disk_cut : Array (Option Value)} {oc_Disk_cut kV_Disk_cut dc_Disk_cut pm_Disk_cut cd_Disk_cut ct_Disk_cut : Value}
    {f_Disk_trim : Addr} {od_Disk_trim an_Disk_trim : Option Addr} {sl_Disk_trim : Array (Option Value)} {oc_Disk_trim kV_Disk_trim dc_Disk_trim pm_Disk_trim cd_Disk_trim ct_Disk_trim : Value}
    {f_power : Addr} {od_power an_power : Option Addr} {sl_power : Array (Option Value)} {oc_power kV_power dc_power pm_power cd_power ct_power : Value}
    {f_Tree_total : Addr} {od_Tree_total an_Tree_total : Option Addr} {sl_Tree_total : Array (Option Value)} {oc_Tree_total kV_Tree_total dc_Tree_total pm_Tree_total cd_Tree_total ct_Tree_total : Value}
    {f_Store_state : Addr} {od_Store_state an_Store_state : Option Addr} {sl_Store_state : Array (Option Value)} {oc_Store_state kV_Store_state dc_Store_state pm_Store_state cd_Store_state ct_Store_state : Value}
    {f_Store_rows : Addr} {od_Store_rows an_Store_rows : Option Addr} {sl_Store_rows : Array (Option Value)} {oc_Store_rows kV_Store_rows dc_Store_rows pm_Store_rows cd_Store_rows ct_Store_rows : Value}
    {f_q_stream : Addr} {od_q_stream an_q_stream : Option Addr} {sl_q_stream : Array (Option Value)} {oc_q_stream kV_q_stream dc_q_stream pm_q_stream cd_q_stream ct_q_stream : Value}
    {f_q_take : Addr} {od_q_take an_q_take : Option Addr} {sl_q_take : Array (Option Value)} {oc_q_take kV_q_take dc_q_take pm_q_take cd_q_take ct_q_take : Value}
    {f_is_seen : Addr} {od_is_seen an_is_seen : Option Addr} {sl_is_seen : Array (Option Value)} {oc_is_seen kV_is_seen dc_is_seen pm_is_seen cd_is_seen ct_is_seen : Value}
    {f_is_version : Addr} {od_is_version an_is_version : Option Addr} {sl_is_version : Array (Option Value)} {oc_is_version kV_is_version dc_is_version pm_is_version cd_is_version ct_is_version : Value}
    {f_removed : Addr} {od_removed an_removed : Option Addr} {sl_removed : Array (Option Value)} {oc_removed kV_removed dc_removed pm_removed cd_removed ct_removed : Value}
    {f_record : Addr} {od_record an_record : Option Addr} {sl_record : Array (Option Value)} {oc_record kV_record dc_record pm_record cd_record ct_record : Value}
    {f_is_record : Addr} {od_is_record an_is_record : Option Addr} {sl_is_record : Array (Option Value)} {oc_is_record kV_is_record dc_is_record pm_is_record cd_is_record ct_is_record : Value}
    {f_Tree___init__ : Addr} {od_Tree___init__ an_Tree___init__ : Option Addr} {sl_Tree___init__ : Array (Option Value)} {oc_Tree___init__ kV_Tree___init__ dc_Tree___init__ pm_Tree___init__ cd_Tree___init__ ct_Tree___init__ : Value}
    {f_Tree_change : Addr} {od_Tree_change an_Tree_change : Option Addr} {sl_Tree_change : Array (Option Value)} {oc_Tree_change kV_Tree_change dc_Tree_change pm_Tree_change cd_Tree_change ct_Tree_change : Value}
    {f_Replica_sync : Addr} {od_Replica_sync an_Replica_sync : Option Addr} {sl_Replica_sync : Array (Option Value)} {oc_Replica_sync kV_Replica_sync dc_Replica_sync pm_Replica_sync cd_Replica_sync ct_Replica_sync : Value}
    {f_q_state : Addr} {od_q_state an_q_state : Option Addr} {sl_q_state : Array (Option Value)} {oc_q_state kV_q_state dc_q_state pm_q_state cd_q_state ct_q_state : Value}
    {f_is_state : Addr} {od_is_state an_is_state : Option Addr} {sl_is_state : Array (Option Value)} {oc_is_state kV_is_state dc_is_state pm_is_state cd_is_state ct_is_state : Value}
    {f_written : Addr} {od_written an_written : Option Addr} {sl_written : Array (Option Value)} {oc_written kV_written dc_written pm_written cd_written ct_written : Value}
    {f_Disk_append : Addr} {od_Disk_append an_Disk_append : Option Addr} {sl_Disk_append : Array (Option Value)} {oc_Disk_append kV_Disk_append dc_Disk_append pm_Disk_append cd_Disk_append ct_Disk_append : Value}
    {f_Disk_replace : Addr} {od_Disk_replace an_Disk_replace : Option Addr} {sl_Disk_replace : Array (Option Value)} {oc_Disk_replace kV_Disk_replace dc_Disk_replace pm_Disk_replace cd_Disk_replace ct_Disk_replace : Value}
    {f_Store___init__ : Addr} {od_Store___init__ an_Store___init__ : Option Addr} {sl_Store___init__ : Array (Option Value)} {oc_Store___init__ kV_Store___init__ dc_Store___init__ pm_Store___init__ cd_Store___init__ ct_Store___init__ : Value}
    {f_Replica_next_count : Addr} {od_Replica_next_count an_Replica_next_count : Option Addr} {sl_Replica_next_count : Array (Option Value)} {oc_Replica_next_count kV_Replica_next_count dc_Replica_next_count pm_Replica_next_count cd_Replica_next_count ct_Replica_next_count : Value}
    {f_checked : Addr} {od_checked an_checked : Option Addr} {sl_checked : Array (Option Value)} {oc_checked kV_checked dc_checked pm_checked cd_checked ct_checked : Value}
    {f_decoded : Addr} {od_decoded an_decoded : Option Addr} {sl_decoded : Array (Option Value)} {oc_decoded kV_decoded dc_decoded pm_decoded cd_decoded ct_decoded : Value}
    {f_Store_total : Addr} {od_Store_total an_Store_total : Option Addr} {sl_Store_total : Array (Option Value)} {oc_Store_total kV_Store_total dc_Store_total pm_Store_total cd_Store_total ct_Store_total : Value}
    {f_read_record : Addr} {od_read_record an_read_record : Option Addr} {sl_read_record : Array (Option Value)} {oc_read_record kV_read_record dc_read_record pm_read_record cd_read_record ct_read_record : Value}
    {f_Store_place : Addr} {od_Store_place an_Store_place : Option Addr} {sl_Store_place : Array (Option Value)} {oc_Store_place kV_Store_place dc_Store_place pm_Store_place cd_Store_place ct_Store_place : Value}
    {f_Replica___init__ : Addr} {od_Replica___init__ an_Replica___init__ : Option Addr} {sl_Replica___init__ : Array (Option Value)} {oc_Replica___init__ kV_Replica___init__ dc_Replica___init__ pm_Replica___init__ cd_Replica___init__ ct_Replica___init__ : Value}
    {f_recover : Addr} {od_recover an_recover : Option Addr} {sl_recover : Array (Option Value)} {oc_recover kV_recover dc_recover pm_recover cd_recover ct_recover : Value}
    {f_Replica_keep : Addr} {od_Replica_keep an_Replica_keep : Option Addr} {sl_Replica_keep : Array (Option Value)} {oc_Replica_keep kV_Replica_keep dc_Replica_keep pm_Replica_keep cd_Replica_keep ct_Replica_keep : Value}
    {f_Replica_write : Addr} {od_Replica_write an_Replica_write : Option Addr} {sl_Replica_write : Array (Option Value)} {oc_Replica_write kV_Replica_write dc_Replica_write pm_Replica_write cd_Replica_write ct_Replica_write : Value}
    {f_Replica_remove : Addr} {od_Replica_remove an_Replica_remove : Option Addr} {sl_Replica_remove : Array (Option Value)} {oc_Replica_remove kV_Replica_remove dc_Replica_remove pm_Replica_remove cd_Replica_remove ct_Replica_remove : Value}
    {f_Replica_crash : Addr} {od_Replica_crash an_Replica_crash : Option Addr} {sl_Replica_crash : Array (Option Value)} {oc_Replica_crash kV_Replica_crash dc_Replica_crash pm_Replica_crash cd_Replica_crash ct_Replica_crash : Value}
    {f_q_after : Addr} {od_q_after an_q_after : Option Addr} {sl_q_after : Array (Option Value)} {oc_q_after kV_q_after dc_q_after pm_q_after cd_q_after ct_q_after : Value}
    {f_Replica_pack : Addr} {od_Replica_pack an_Replica_pack : Option Addr} {sl_Replica_pack : Array (Option Value)} {oc_Replica_pack kV_Replica_pack dc_Replica_pack pm_Replica_pack cd_Replica_pack ct_Replica_pack : Value}
    {f_q_full : Addr} {od_q_full an_q_full : Option Addr} {sl_q_full : Array (Option Value)} {oc_q_full kV_q_full dc_q_full pm_q_full cd_q_full ct_q_full : Value}
    {f_q_crashed : Addr} {od_q_crashed an_q_crashed : Option Addr} {sl_q_crashed : Array (Option Value)} {oc_q_crashed kV_q_crashed dc_q_crashed pm_q_crashed cd_q_crashed ct_q_crashed : Value}
    {f_q_write : Addr} {od_q_write an_q_write : Option Addr} {sl_q_write : Array (Option Value)} {oc_q_write kV_q_write dc_q_write pm_q_write cd_q_write ct_q_write : Value}
    {f_q_crash : Addr} {od_q_crash an_q_crash : Option Addr} {sl_q_crash : Array (Option Value)} {oc_q_crash kV_q_crash dc_q_crash pm_q_crash cd_q_crash ct_q_crash : Value}
    {f_q_pack : Addr} {od_q_pack an_q_pack : Option Addr} {sl_q_pack : Array (Option Value)} {oc_q_pack kV_q_pack dc_q_pack pm_q_pack cd_q_pack ct_q_pack : Value}
    {f_q_step : Addr} {od_q_step an_q_step : Option Addr} {sl_q_step : Array (Option Value)} {oc_q_step kV_q_step dc_q_step pm_q_step cd_q_step ct_q_step : Value}
    {f_law : Addr} {od_law an_law : Option Addr} {sl_law : Array (Option Value)} {oc_law kV_law dc_law pm_law cd_law ct_law : Value}
    {a_Invalid : Addr}
    {nm_Invalid q_Invalid : Str} {N_Invalid : Addr} {bs_Invalid bm_Invalid sub_Invalid : List Value} {sn_Invalid : List Str} {ab_Invalid : Bool} {col_Invalid : Option Bool} {dd_Invalid : Option Addr} {k0_Invalid k1_Invalid k2_Invalid k3_Invalid k5_Invalid : Option Value}
    {f_Invalid___init__ cc_Invalid___init__ c_Invalid___init__ : Addr} {od_Invalid___init__ an_Invalid___init__ cdd_Invalid___init__ cld_Invalid___init__ : Option Addr} {sl_Invalid___init__ ccs_Invalid___init__ csl_Invalid___init__ : Array (Option Value)} {vs_Invalid___init__ : Array Value} {oc_Invalid___init__ kV_Invalid___init__ dc_Invalid___init__ pm_Invalid___init__ ct_Invalid___init__ ccl_Invalid___init__ cl_Invalid___init__ : Value} {fl_Invalid___init__ : Str} {tf_Invalid___init__ : Tok}
    {a_Full : Addr}
    {nm_Full q_Full : Str} {N_Full : Addr} {bs_Full bm_Full sub_Full : List Value} {sn_Full : List Str} {ab_Full : Bool} {col_Full : Option Bool} {dd_Full : Option Addr} {k0_Full k1_Full k2_Full k3_Full k5_Full : Option Value}
    {f_Full___init__ cc_Full___init__ c_Full___init__ : Addr} {od_Full___init__ an_Full___init__ cdd_Full___init__ cld_Full___init__ : Option Addr} {sl_Full___init__ ccs_Full___init__ csl_Full___init__ : Array (Option Value)} {vs_Full___init__ : Array Value} {oc_Full___init__ kV_Full___init__ dc_Full___init__ pm_Full___init__ ct_Full___init__ ccl_Full___init__ cl_Full___init__ : Value} {fl_Full___init__ : Str} {tf_Full___init__ : Tok}
    (m_REPLICAS : PySem.W.nsIn K mainGlobals "REPLICAS" = some (some (.int 4 t_REPLICAS)))
    (m_MAX_COUNT : PySem.W.nsIn K mainGlobals "MAX_COUNT" = some (some (.int 255 t_MAX_COUNT)))
    (m_MAX_VALUE : PySem.W.nsIn K mainGlobals "MAX_VALUE" = some (some (.int 255 t_MAX_VALUE)))
    (m_EMPTY : PySem.W.nsIn K mainGlobals "EMPTY" = some (some (.ref a_EMPTY)))
    (x_EMPTY : K.lookup a_EMPTY = some ⟨.type "tuple", o_EMPTY, .seq #[.ref a_EMPTY_1, .ref a_EMPTY_2] n_EMPTY, l_EMPTY⟩)
    (x_EMPTY_1 : K.lookup a_EMPTY_1 = some ⟨.type "tuple", o_EMPTY_1, .seq #[.int 0 t_EMPTY_3, .int 0 t_EMPTY_4, .int 0 t_EMPTY_5, .int 0 t_EMPTY_6] n_EMPTY_1, l_EMPTY_1⟩)
    (x_EMPTY_2 : K.lookup a_EMPTY_2 = some ⟨.type "tuple", o_EMPTY_2, .seq #[] n_EMPTY_2, l_EMPTY_2⟩)
    (m_RECORD : PySem.W.nsIn K mainGlobals "RECORD" = some (some (.int 20 t_RECORD)))
    (m_MARK : PySem.W.nsIn K mainGlobals "MARK" = some (some (.int 181 t_MARK)))
    (m_PRIME : PySem.W.nsIn K mainGlobals "PRIME" = some (some (.int 170141183460469231731687303715884105727 t_PRIME)))
    (m_SIZES : PySem.W.nsIn K mainGlobals "SIZES" = some (some (.ref a_SIZES)))
    (x_SIZES : K.lookup a_SIZES = some ⟨.type "tuple", o_SIZES, .seq #[.int 1 t_SIZES_1, .int 2 t_SIZES_2, .int 4 t_SIZES_3, .int 8 t_SIZES_4, .int 16 t_SIZES_5, .int 32 t_SIZES_6, .int 64 t_SIZES_7] n_SIZES, l_SIZES⟩)
    (m_AHEAD : PySem.W.nsIn K mainGlobals "AHEAD" = some (some (.int 8 t_AHEAD)))
    (z_abs : PySem.W.nsIn K mainGlobals "abs" = some none)
    (z_all : PySem.W.nsIn K mainGlobals "all" = some none)
    (z_bool : PySem.W.nsIn K mainGlobals "bool" = some none)
    (z_int : PySem.W.nsIn K mainGlobals "int" = some none)
    (z_isinstance : PySem.W.nsIn K mainGlobals "isinstance" = some none)
    (z_len : PySem.W.nsIn K mainGlobals "len" = some none)
    (z_list : PySem.W.nsIn K mainGlobals "list" = some none)
    (z_max : PySem.W.nsIn K mainGlobals "max" = some none)
    (z_min : PySem.W.nsIn K mainGlobals "min" = some none)
    (z_range : PySem.W.nsIn K mainGlobals "range" = some none)
    (z_sorted : PySem.W.nsIn K mainGlobals "sorted" = some none)
    (z_super : PySem.W.nsIn K mainGlobals "super" = some none)
    (z_tuple : PySem.W.nsIn K mainGlobals "tuple" = some none)
    (m_Disk : PySem.W.nsIn K mainGlobals "Disk" = some (some (.ref a_Disk)))
    (pg_Disk : PySem.W.plainGet K a_Disk Str.empty = true)
    (hd_Disk : PySem.W.hasDictIn K a_Disk = true)
    (po_Disk : PySem.W.plainOver K a_Disk = true)
    (sa_Disk : PySem.W.findIn K (.ref a_Disk) "__setattr__" = some (some (.builtin "object.__setattr__")))
    (mk_Disk : PySem.W.makesIn K a_Disk = true)
    (kc_Disk : PySem.W.keepIn K (.ref a_Disk) = true)
    (m_Tree : PySem.W.nsIn K mainGlobals "Tree" = some (some (.ref a_Tree)))
    (pg_Tree : PySem.W.plainGet K a_Tree Str.empty = true)
    (hd_Tree : PySem.W.hasDictIn K a_Tree = true)
    (po_Tree : PySem.W.plainOver K a_Tree = true)
    (sa_Tree : PySem.W.findIn K (.ref a_Tree) "__setattr__" = some (some (.builtin "object.__setattr__")))
    (mk_Tree : PySem.W.makesIn K a_Tree = true)
    (kc_Tree : PySem.W.keepIn K (.ref a_Tree) = true)
    (m_Store : PySem.W.nsIn K mainGlobals "Store" = some (some (.ref a_Store)))
    (pg_Store : PySem.W.plainGet K a_Store Str.empty = true)
    (hd_Store : PySem.W.hasDictIn K a_Store = true)
    (po_Store : PySem.W.plainOver K a_Store = true)
    (sa_Store : PySem.W.findIn K (.ref a_Store) "__setattr__" = some (some (.builtin "object.__setattr__")))
    (mk_Store : PySem.W.makesIn K a_Store = true)
    (kc_Store : PySem.W.keepIn K (.ref a_Store) = true)
    (m_Replica : PySem.W.nsIn K mainGlobals "Replica" = some (some (.ref a_Replica)))
    (pg_Replica : PySem.W.plainGet K a_Replica Str.empty = true)
    (hd_Replica : PySem.W.hasDictIn K a_Replica = true)
    (po_Replica : PySem.W.plainOver K a_Replica = true)
    (sa_Replica : PySem.W.findIn K (.ref a_Replica) "__setattr__" = some (some (.builtin "object.__setattr__")))
    (mk_Replica : PySem.W.makesIn K a_Replica = true)
    (kc_Replica : PySem.W.keepIn K (.ref a_Replica) = true)
    (a_is_number : PySem.W.nsIn K mainGlobals "is_number" = some (some (.ref f_is_number)))
    (l_is_number : K.lookup f_is_number = some ⟨oc_is_number, od_is_number, .func (PySem.W.fnOf "is_number" "is_number" (defArgs s_is_number) (defBody s_is_number) (defScope s_is_number) .none kV_is_number dc_is_number pm_is_number an_is_number cd_is_number ct_is_number), sl_is_number⟩)
    (c_is_number : PySem.W.codeIn K cd_is_number "is_number" = true)
    (k_is_number : PySem.W.keepIn K (.ref f_is_number) = true)
    (a_covers : PySem.W.nsIn K mainGlobals "covers" = some (some (.ref f_covers)))
    (l_covers : K.lookup f_covers = some ⟨oc_covers, od_covers, .func (PySem.W.fnOf "covers" "covers" (defArgs s_covers) (defBody s_covers) (defScope s_covers) .none kV_covers dc_covers pm_covers an_covers cd_covers ct_covers), sl_covers⟩)
    (c_covers : PySem.W.codeIn K cd_covers "covers" = true)
    (k_covers : PySem.W.keepIn K (.ref f_covers) = true)
    (a_joined_seen : PySem.W.nsIn K mainGlobals "joined_seen" = some (some (.ref f_joined_seen)))
    (l_joined_seen : K.lookup f_joined_seen = some ⟨oc_joined_seen, od_joined_seen, .func (PySem.W.fnOf "joined_seen" "joined_seen" (defArgs s_joined_seen) (defBody s_joined_seen) (defScope s_joined_seen) .none kV_joined_seen dc_joined_seen pm_joined_seen an_joined_seen cd_joined_seen ct_joined_seen), sl_joined_seen⟩)
    (c_joined_seen : PySem.W.codeIn K cd_joined_seen "joined_seen" = true)
    (k_joined_seen : PySem.W.keepIn K (.ref f_joined_seen) = true)
    (a_code : PySem.W.nsIn K mainGlobals "code" = some (some (.ref f_code)))
    (l_code : K.lookup f_code = some ⟨oc_code, od_code, .func (PySem.W.fnOf "code" "code" (defArgs s_code) (defBody s_code) (defScope s_code) .none kV_code dc_code pm_code an_code cd_code ct_code), sl_code⟩)
    (c_code : PySem.W.codeIn K cd_code "code" = true)
    (k_code : PySem.W.keepIn K (.ref f_code) = true)
    (a_check_byte : PySem.W.nsIn K mainGlobals "check_byte" = some (some (.ref f_check_byte)))
    (l_check_byte : K.lookup f_check_byte = some ⟨oc_check_byte, od_check_byte, .func (PySem.W.fnOf "check_byte" "check_byte" (defArgs s_check_byte) (defBody s_check_byte) (defScope s_check_byte) .none kV_check_byte dc_check_byte pm_check_byte an_check_byte cd_check_byte ct_check_byte), sl_check_byte⟩)
    (c_check_byte : PySem.W.codeIn K cd_check_byte "check_byte" = true)
    (k_check_byte : PySem.W.keepIn K (.ref f_check_byte) = true)
    (a_Disk___init__ : PySem.W.findIn K (.ref a_Disk) "__init__" = some (some (.ref f_Disk___init__)))
    (i_Disk___init__ : PySem.W.isFn K (.ref f_Disk___init__) = true)
    (l_Disk___init__ : K.lookup f_Disk___init__ = some ⟨oc_Disk___init__, od_Disk___init__, .func (PySem.W.fnOf "__init__" "Disk.__init__" (defArgs s_Disk___init__) (defBody s_Disk___init__) (defScope s_Disk___init__) .none kV_Disk___init__ dc_Disk___init__ pm_Disk___init__ an_Disk___init__ cd_Disk___init__ ct_Disk___init__), sl_Disk___init__⟩)
    (c_Disk___init__ : PySem.W.codeIn K cd_Disk___init__ "Disk.__init__" = true)
    (k_Disk___init__ : PySem.W.keepIn K (.ref f_Disk___init__) = true)
    (a_Disk_sync : PySem.W.findIn K (.ref a_Disk) "sync" = some (some (.ref f_Disk_sync)))
    (i_Disk_sync : PySem.W.isFn K (.ref f_Disk_sync) = true)
    (l_Disk_sync : K.lookup f_Disk_sync = some ⟨oc_Disk_sync, od_Disk_sync, .func (PySem.W.fnOf "sync" "Disk.sync" (defArgs s_Disk_sync) (defBody s_Disk_sync) (defScope s_Disk_sync) .none kV_Disk_sync dc_Disk_sync pm_Disk_sync an_Disk_sync cd_Disk_sync ct_Disk_sync), sl_Disk_sync⟩)
    (c_Disk_sync : PySem.W.codeIn K cd_Disk_sync "Disk.sync" = true)
    (k_Disk_sync : PySem.W.keepIn K (.ref f_Disk_sync) = true)
    (a_Disk_cut : PySem.W.findIn K (.ref a_Disk) "cut" = some (some (.ref f_Disk_cut)))
    (i_Disk_cut : PySem.W.isFn K (.ref f_Disk_cut) = true)
    (l_Disk_cut : K.lookup f_Disk_cut = some ⟨oc_Disk_cut, od_Disk_cut, .func (PySem.W.fnOf "cut" "Disk.cut" (defArgs s_Disk_cut) (defBody s_Disk_cut) (defScope s_Disk_cut) .none kV_Disk_cut dc_Disk_cut pm_Disk_cut an_Disk_cut cd_Disk_cut ct_Disk_cut), sl_Disk_cut⟩)
    (c_Disk_cut : PySem.W.codeIn K cd_Disk_cut "Disk.cut" = true)
    (k_Disk_cut : PySem.W.keepIn K (.ref f_Disk_cut) = true)
    (a_Disk_trim : PySem.W.findIn K (.ref a_Disk) "trim" = some (some (.ref f_Disk_trim)))
    (i_Disk_trim : PySem.W.isFn K (.ref f_Disk_trim) = true)
    (l_Disk_trim : K.lookup f_Disk_trim = some ⟨oc_Disk_trim, od_Disk_trim, .func (PySem.W.fnOf "trim" "Disk.trim" (defArgs s_Disk_trim) (defBody s_Disk_trim) (defScope s_Disk_trim) .none kV_Disk_trim dc_Disk_trim pm_Disk_trim an_Disk_trim cd_Disk_trim ct_Disk_trim), sl_Disk_trim⟩)
    (c_Disk_trim : PySem.W.codeIn K cd_Disk_trim "Disk.trim" = true)
    (k_Disk_trim : PySem.W.keepIn K (.ref f_Disk_trim) = true)
    (a_power : PySem.W.nsIn K mainGlobals "power" = some (some (.ref f_power)))
    (l_power : K.lookup f_power = some ⟨oc_power, od_power, .func (PySem.W.fnOf "power" "power" (defArgs s_power) (defBody s_power) (defScope s_power) .none kV_power dc_power pm_power an_power cd_power ct_power), sl_power⟩)
    (c_power : PySem.W.codeIn K cd_power "power" = true)
    (k_power : PySem.W.keepIn K (.ref f_power) = true)
    (a_Tree_total : PySem.W.findIn K (.ref a_Tree) "total" = some (some (.ref f_Tree_total)))
    (i_Tree_total : PySem.W.isFn K (.ref f_Tree_total) = true)
    (l_Tree_total : K.lookup f_Tree_total = some ⟨oc_Tree_total, od_Tree_total, .func (PySem.W.fnOf "total" "Tree.total" (defArgs s_Tree_total) (defBody s_Tree_total) (defScope s_Tree_total) .none kV_Tree_total dc_Tree_total pm_Tree_total an_Tree_total cd_Tree_total ct_Tree_total), sl_Tree_total⟩)
    (c_Tree_total : PySem.W.codeIn K cd_Tree_total "Tree.total" = true)
    (k_Tree_total : PySem.W.keepIn K (.ref f_Tree_total) = true)
    (a_Store_state : PySem.W.findIn K (.ref a_Store) "state" = some (some (.ref f_Store_state)))
    (i_Store_state : PySem.W.isFn K (.ref f_Store_state) = true)
    (l_Store_state : K.lookup f_Store_state = some ⟨oc_Store_state, od_Store_state, .func (PySem.W.fnOf "state" "Store.state" (defArgs s_Store_state) (defBody s_Store_state) (defScope s_Store_state) .none kV_Store_state dc_Store_state pm_Store_state an_Store_state cd_Store_state ct_Store_state), sl_Store_state⟩)
    (c_Store_state : PySem.W.codeIn K cd_Store_state "Store.state" = true)
    (k_Store_state : PySem.W.keepIn K (.ref f_Store_state) = true)
    (a_Store_rows : PySem.W.findIn K (.ref a_Store) "rows" = some (some (.ref f_Store_rows)))
    (i_Store_rows : PySem.W.isFn K (.ref f_Store_rows) = true)
    (l_Store_rows : K.lookup f_Store_rows = some ⟨oc_Store_rows, od_Store_rows, .func (PySem.W.fnOf "rows" "Store.rows" (defArgs s_Store_rows) (defBody s_Store_rows) (defScope s_Store_rows) .none kV_Store_rows dc_Store_rows pm_Store_rows an_Store_rows cd_Store_rows ct_Store_rows), sl_Store_rows⟩)
    (c_Store_rows : PySem.W.codeIn K cd_Store_rows "Store.rows" = true)
    (k_Store_rows : PySem.W.keepIn K (.ref f_Store_rows) = true)
    (a_q_stream : PySem.W.nsIn K mainGlobals "_law_stream" = some (some (.ref f_q_stream)))
    (l_q_stream : K.lookup f_q_stream = some ⟨oc_q_stream, od_q_stream, .func (PySem.W.fnOf "_law_stream" "_law_stream" (defArgs s_q_stream) (defBody s_q_stream) (defScope s_q_stream) .none kV_q_stream dc_q_stream pm_q_stream an_q_stream cd_q_stream ct_q_stream), sl_q_stream⟩)
    (c_q_stream : PySem.W.codeIn K cd_q_stream "_law_stream" = true)
    (k_q_stream : PySem.W.keepIn K (.ref f_q_stream) = true)
    (a_q_take : PySem.W.nsIn K mainGlobals "_law_take" = some (some (.ref f_q_take)))
    (l_q_take : K.lookup f_q_take = some ⟨oc_q_take, od_q_take, .func (PySem.W.fnOf "_law_take" "_law_take" (defArgs s_q_take) (defBody s_q_take) (defScope s_q_take) .none kV_q_take dc_q_take pm_q_take an_q_take cd_q_take ct_q_take), sl_q_take⟩)
    (c_q_take : PySem.W.codeIn K cd_q_take "_law_take" = true)
    (k_q_take : PySem.W.keepIn K (.ref f_q_take) = true)
    (a_is_seen : PySem.W.nsIn K mainGlobals "is_seen" = some (some (.ref f_is_seen)))
    (l_is_seen : K.lookup f_is_seen = some ⟨oc_is_seen, od_is_seen, .func (PySem.W.fnOf "is_seen" "is_seen" (defArgs s_is_seen) (defBody s_is_seen) (defScope s_is_seen) .none kV_is_seen dc_is_seen pm_is_seen an_is_seen cd_is_seen ct_is_seen), sl_is_seen⟩)
    (c_is_seen : PySem.W.codeIn K cd_is_seen "is_seen" = true)
    (k_is_seen : PySem.W.keepIn K (.ref f_is_seen) = true)
    (a_is_version : PySem.W.nsIn K mainGlobals "is_version" = some (some (.ref f_is_version)))
    (l_is_version : K.lookup f_is_version = some ⟨oc_is_version, od_is_version, .func (PySem.W.fnOf "is_version" "is_version" (defArgs s_is_version) (defBody s_is_version) (defScope s_is_version) .none kV_is_version dc_is_version pm_is_version an_is_version cd_is_version ct_is_version), sl_is_version⟩)
    (c_is_version : PySem.W.codeIn K cd_is_version "is_version" = true)
    (k_is_version : PySem.W.keepIn K (.ref f_is_version) = true)
    (a_removed : PySem.W.nsIn K mainGlobals "removed" = some (some (.ref f_removed)))
    (l_removed : K.lookup f_removed = some ⟨oc_removed, od_removed, .func (PySem.W.fnOf "removed" "removed" (defArgs s_removed) (defBody s_removed) (defScope s_removed) .none kV_removed dc_removed pm_removed an_removed cd_removed ct_removed), sl_removed⟩)
    (c_removed : PySem.W.codeIn K cd_removed "removed" = true)
    (k_removed : PySem.W.keepIn K (.ref f_removed) = true)
    (a_record : PySem.W.nsIn K mainGlobals "record" = some (some (.ref f_record)))
    (l_record : K.lookup f_record = some ⟨oc_record, od_record, .func (PySem.W.fnOf "record" "record" (defArgs s_record) (defBody s_record) (defScope s_record) .none kV_record dc_record pm_record an_record cd_record ct_record), sl_record⟩)
    (c_record : PySem.W.codeIn K cd_record "record" = true)
    (k_record : PySem.W.keepIn K (.ref f_record) = true)
    (a_is_record : PySem.W.nsIn K mainGlobals "is_record" = some (some (.ref f_is_record)))
    (l_is_record : K.lookup f_is_record = some ⟨oc_is_record, od_is_record, .func (PySem.W.fnOf "is_record" "is_record" (defArgs s_is_record) (defBody s_is_record) (defScope s_is_record) .none kV_is_record dc_is_record pm_is_record an_is_record cd_is_record ct_is_record), sl_is_record⟩)
    (c_is_record : PySem.W.codeIn K cd_is_record "is_record" = true)
    (k_is_record : PySem.W.keepIn K (.ref f_is_record) = true)
    (a_Tree___init__ : PySem.W.findIn K (.ref a_Tree) "__init__" = some (some (.ref f_Tree___init__)))
    (i_Tree___init__ : PySem.W.isFn K (.ref f_Tree___init__) = true)
    (l_Tree___init__ : K.lookup f_Tree___init__ = some ⟨oc_Tree___init__, od_Tree___init__, .func (PySem.W.fnOf "__init__" "Tree.__init__" (defArgs s_Tree___init__) (defBody s_Tree___init__) (defScope s_Tree___init__) .none kV_Tree___init__ dc_Tree___init__ pm_Tree___init__ an_Tree___init__ cd_Tree___init__ ct_Tree___init__), sl_Tree___init__⟩)
    (c_Tree___init__ : PySem.W.codeIn K cd_Tree___init__ "Tree.__init__" = true)
    (k_Tree___init__ : PySem.W.keepIn K (.ref f_Tree___init__) = true)
    (a_Tree_change : PySem.W.findIn K (.ref a_Tree) "change" = some (some (.ref f_Tree_change)))
    (i_Tree_change : PySem.W.isFn K (.ref f_Tree_change) = true)
    (l_Tree_change : K.lookup f_Tree_change = some ⟨oc_Tree_change, od_Tree_change, .func (PySem.W.fnOf "change" "Tree.change" (defArgs s_Tree_change) (defBody s_Tree_change) (defScope s_Tree_change) .none kV_Tree_change dc_Tree_change pm_Tree_change an_Tree_change cd_Tree_change ct_Tree_change), sl_Tree_change⟩)
    (c_Tree_change : PySem.W.codeIn K cd_Tree_change "Tree.change" = true)
    (k_Tree_change : PySem.W.keepIn K (.ref f_Tree_change) = true)
    (a_Replica_sync : PySem.W.findIn K (.ref a_Replica) "sync" = some (some (.ref f_Replica_sync)))
    (i_Replica_sync : PySem.W.isFn K (.ref f_Replica_sync) = true)
    (l_Replica_sync : K.lookup f_Replica_sync = some ⟨oc_Replica_sync, od_Replica_sync, .func (PySem.W.fnOf "sync" "Replica.sync" (defArgs s_Replica_sync) (defBody s_Replica_sync) (defScope s_Replica_sync) .none kV_Replica_sync dc_Replica_sync pm_Replica_sync an_Replica_sync cd_Replica_sync ct_Replica_sync), sl_Replica_sync⟩)
    (c_Replica_sync : PySem.W.codeIn K cd_Replica_sync "Replica.sync" = true)
    (k_Replica_sync : PySem.W.keepIn K (.ref f_Replica_sync) = true)
    (a_q_state : PySem.W.nsIn K mainGlobals "_law_state" = some (some (.ref f_q_state)))
    (l_q_state : K.lookup f_q_state = some ⟨oc_q_state, od_q_state, .func (PySem.W.fnOf "_law_state" "_law_state" (defArgs s_q_state) (defBody s_q_state) (defScope s_q_state) .none kV_q_state dc_q_state pm_q_state an_q_state cd_q_state ct_q_state), sl_q_state⟩)
    (c_q_state : PySem.W.codeIn K cd_q_state "_law_state" = true)
    (k_q_state : PySem.W.keepIn K (.ref f_q_state) = true)
    (a_is_state : PySem.W.nsIn K mainGlobals "is_state" = some (some (.ref f_is_state)))
    (l_is_state : K.lookup f_is_state = some ⟨oc_is_state, od_is_state, .func (PySem.W.fnOf "is_state" "is_state" (defArgs s_is_state) (defBody s_is_state) (defScope s_is_state) .none kV_is_state dc_is_state pm_is_state an_is_state cd_is_state ct_is_state), sl_is_state⟩)
    (c_is_state : PySem.W.codeIn K cd_is_state "is_state" = true)
    (k_is_state : PySem.W.keepIn K (.ref f_is_state) = true)
    (a_written : PySem.W.nsIn K mainGlobals "written" = some (some (.ref f_written)))
    (l_written : K.lookup f_written = some ⟨oc_written, od_written, .func (PySem.W.fnOf "written" "written" (defArgs s_written) (defBody s_written) (defScope s_written) .none kV_written dc_written pm_written an_written cd_written ct_written), sl_written⟩)
    (c_written : PySem.W.codeIn K cd_written "written" = true)
    (k_written : PySem.W.keepIn K (.ref f_written) = true)
    (a_Disk_append : PySem.W.findIn K (.ref a_Disk) "append" = some (some (.ref f_Disk_append)))
    (i_Disk_append : PySem.W.isFn K (.ref f_Disk_append) = true)
    (l_Disk_append : K.lookup f_Disk_append = some ⟨oc_Disk_append, od_Disk_append, .func (PySem.W.fnOf "append" "Disk.append" (defArgs s_Disk_append) (defBody s_Disk_append) (defScope s_Disk_append) .none kV_Disk_append dc_Disk_append pm_Disk_append an_Disk_append cd_Disk_append ct_Disk_append), sl_Disk_append⟩)
    (c_Disk_append : PySem.W.codeIn K cd_Disk_append "Disk.append" = true)
    (k_Disk_append : PySem.W.keepIn K (.ref f_Disk_append) = true)
    (a_Disk_replace : PySem.W.findIn K (.ref a_Disk) "replace" = some (some (.ref f_Disk_replace)))
    (i_Disk_replace : PySem.W.isFn K (.ref f_Disk_replace) = true)
    (l_Disk_replace : K.lookup f_Disk_replace = some ⟨oc_Disk_replace, od_Disk_replace, .func (PySem.W.fnOf "replace" "Disk.replace" (defArgs s_Disk_replace) (defBody s_Disk_replace) (defScope s_Disk_replace) .none kV_Disk_replace dc_Disk_replace pm_Disk_replace an_Disk_replace cd_Disk_replace ct_Disk_replace), sl_Disk_replace⟩)
    (c_Disk_replace : PySem.W.codeIn K cd_Disk_replace "Disk.replace" = true)
    (k_Disk_replace : PySem.W.keepIn K (.ref f_Disk_replace) = true)
    (a_Store___init__ : PySem.W.findIn K (.ref a_Store) "__init__" = some (some (.ref f_Store___init__)))
    (i_Store___init__ : PySem.W.isFn K (.ref f_Store___init__) = true)
    (l_Store___init__ : K.lookup f_Store___init__ = some ⟨oc_Store___init__, od_Store___init__, .func (PySem.W.fnOf "__init__" "Store.__init__" (defArgs s_Store___init__) (defBody s_Store___init__) (defScope s_Store___init__) .none kV_Store___init__ dc_Store___init__ pm_Store___init__ an_Store___init__ cd_Store___init__ ct_Store___init__), sl_Store___init__⟩)
    (c_Store___init__ : PySem.W.codeIn K cd_Store___init__ "Store.__init__" = true)
    (k_Store___init__ : PySem.W.keepIn K (.ref f_Store___init__) = true)
    (a_Replica_next_count : PySem.W.findIn K (.ref a_Replica) "next_count" = some (some (.ref f_Replica_next_count)))
    (i_Replica_next_count : PySem.W.isFn K (.ref f_Replica_next_count) = true)
    (l_Replica_next_count : K.lookup f_Replica_next_count = some ⟨oc_Replica_next_count, od_Replica_next_count, .func (PySem.W.fnOf "next_count" "Replica.next_count" (defArgs s_Replica_next_count) (defBody s_Replica_next_count) (defScope s_Replica_next_count) .none kV_Replica_next_count dc_Replica_next_count pm_Replica_next_count an_Replica_next_count cd_Replica_next_count ct_Replica_next_count), sl_Replica_next_count⟩)
    (c_Replica_next_count : PySem.W.codeIn K cd_Replica_next_count "Replica.next_count" = true)
    (k_Replica_next_count : PySem.W.keepIn K (.ref f_Replica_next_count) = true)
    (a_checked : PySem.W.nsIn K mainGlobals "checked" = some (some (.ref f_checked)))
    (l_checked : K.lookup f_checked = some ⟨oc_checked, od_checked, .func (PySem.W.fnOf "checked" "checked" (defArgs s_checked) (defBody s_checked) (defScope s_checked) .none kV_checked dc_checked pm_checked an_checked cd_checked ct_checked), sl_checked⟩)
    (c_checked : PySem.W.codeIn K cd_checked "checked" = true)
    (k_checked : PySem.W.keepIn K (.ref f_checked) = true)
    (a_decoded : PySem.W.nsIn K mainGlobals "decoded" = some (some (.ref f_decoded)))
    (l_decoded : K.lookup f_decoded = some ⟨oc_decoded, od_decoded, .func (PySem.W.fnOf "decoded" "decoded" (defArgs s_decoded) (defBody s_decoded) (defScope s_decoded) .none kV_decoded dc_decoded pm_decoded an_decoded cd_decoded ct_decoded), sl_decoded⟩)
    (c_decoded : PySem.W.codeIn K cd_decoded "decoded" = true)
    (k_decoded : PySem.W.keepIn K (.ref f_decoded) = true)
    (a_Store_total : PySem.W.findIn K (.ref a_Store) "total" = some (some (.ref f_Store_total)))
    (i_Store_total : PySem.W.isFn K (.ref f_Store_total) = true)
    (l_Store_total : K.lookup f_Store_total = some ⟨oc_Store_total, od_Store_total, .func (PySem.W.fnOf "total" "Store.total" (defArgs s_Store_total) (defBody s_Store_total) (defScope s_Store_total) .none kV_Store_total dc_Store_total pm_Store_total an_Store_total cd_Store_total ct_Store_total), sl_Store_total⟩)
    (c_Store_total : PySem.W.codeIn K cd_Store_total "Store.total" = true)
    (k_Store_total : PySem.W.keepIn K (.ref f_Store_total) = true)
    (a_read_record : PySem.W.nsIn K mainGlobals "read_record" = some (some (.ref f_read_record)))
    (l_read_record : K.lookup f_read_record = some ⟨oc_read_record, od_read_record, .func (PySem.W.fnOf "read_record" "read_record" (defArgs s_read_record) (defBody s_read_record) (defScope s_read_record) .none kV_read_record dc_read_record pm_read_record an_read_record cd_read_record ct_read_record), sl_read_record⟩)
    (c_read_record : PySem.W.codeIn K cd_read_record "read_record" = true)
    (k_read_record : PySem.W.keepIn K (.ref f_read_record) = true)
    (a_Store_place : PySem.W.findIn K (.ref a_Store) "place" = some (some (.ref f_Store_place)))
    (i_Store_place : PySem.W.isFn K (.ref f_Store_place) = true)
    (l_Store_place : K.lookup f_Store_place = some ⟨oc_Store_place, od_Store_place, .func (PySem.W.fnOf "place" "Store.place" (defArgs s_Store_place) (defBody s_Store_place) (defScope s_Store_place) .none kV_Store_place dc_Store_place pm_Store_place an_Store_place cd_Store_place ct_Store_place), sl_Store_place⟩)
    (c_Store_place : PySem.W.codeIn K cd_Store_place "Store.place" = true)
    (k_Store_place : PySem.W.keepIn K (.ref f_Store_place) = true)
    (a_Replica___init__ : PySem.W.findIn K (.ref a_Replica) "__init__" = some (some (.ref f_Replica___init__)))
    (i_Replica___init__ : PySem.W.isFn K (.ref f_Replica___init__) = true)
    (l_Replica___init__ : K.lookup f_Replica___init__ = some ⟨oc_Replica___init__, od_Replica___init__, .func (PySem.W.fnOf "__init__" "Replica.__init__" (defArgs s_Replica___init__) (defBody s_Replica___init__) (defScope s_Replica___init__) .none kV_Replica___init__ dc_Replica___init__ pm_Replica___init__ an_Replica___init__ cd_Replica___init__ ct_Replica___init__), sl_Replica___init__⟩)
    (c_Replica___init__ : PySem.W.codeIn K cd_Replica___init__ "Replica.__init__" = true)
    (k_Replica___init__ : PySem.W.keepIn K (.ref f_Replica___init__) = true)
    (a_recover : PySem.W.nsIn K mainGlobals "recover" = some (some (.ref f_recover)))
    (l_recover : K.lookup f_recover = some ⟨oc_recover, od_recover, .func (PySem.W.fnOf "recover" "recover" (defArgs s_recover) (defBody s_recover) (defScope s_recover) .none kV_recover dc_recover pm_recover an_recover cd_recover ct_recover), sl_recover⟩)
    (c_recover : PySem.W.codeIn K cd_recover "recover" = true)
    (k_recover : PySem.W.keepIn K (.ref f_recover) = true)
    (a_Replica_keep : PySem.W.findIn K (.ref a_Replica) "keep" = some (some (.ref f_Replica_keep)))
    (i_Replica_keep : PySem.W.isFn K (.ref f_Replica_keep) = true)
    (l_Replica_keep : K.lookup f_Replica_keep = some ⟨oc_Replica_keep, od_Replica_keep, .func (PySem.W.fnOf "keep" "Replica.keep" (defArgs s_Replica_keep) (defBody s_Replica_keep) (defScope s_Replica_keep) .none kV_Replica_keep dc_Replica_keep pm_Replica_keep an_Replica_keep cd_Replica_keep ct_Replica_keep), sl_Replica_keep⟩)
    (c_Replica_keep : PySem.W.codeIn K cd_Replica_keep "Replica.keep" = true)
    (k_Replica_keep : PySem.W.keepIn K (.ref f_Replica_keep) = true)
    (a_Replica_write : PySem.W.findIn K (.ref a_Replica) "write" = some (some (.ref f_Replica_write)))
    (i_Replica_write : PySem.W.isFn K (.ref f_Replica_write) = true)
    (l_Replica_write : K.lookup f_Replica_write = some ⟨oc_Replica_write, od_Replica_write, .func (PySem.W.fnOf "write" "Replica.write" (defArgs s_Replica_write) (defBody s_Replica_write) (defScope s_Replica_write) .none kV_Replica_write dc_Replica_write pm_Replica_write an_Replica_write cd_Replica_write ct_Replica_write), sl_Replica_write⟩)
    (c_Replica_write : PySem.W.codeIn K cd_Replica_write "Replica.write" = true)
    (k_Replica_write : PySem.W.keepIn K (.ref f_Replica_write) = true)
    (a_Replica_remove : PySem.W.findIn K (.ref a_Replica) "remove" = some (some (.ref f_Replica_remove)))
    (i_Replica_remove : PySem.W.isFn K (.ref f_Replica_remove) = true)
    (l_Replica_remove : K.lookup f_Replica_remove = some ⟨oc_Replica_remove, od_Replica_remove, .func (PySem.W.fnOf "remove" "Replica.remove" (defArgs s_Replica_remove) (defBody s_Replica_remove) (defScope s_Replica_remove) .none kV_Replica_remove dc_Replica_remove pm_Replica_remove an_Replica_remove cd_Replica_remove ct_Replica_remove), sl_Replica_remove⟩)
    (c_Replica_remove : PySem.W.codeIn K cd_Replica_remove "Replica.remove" = true)
    (k_Replica_remove : PySem.W.keepIn K (.ref f_Replica_remove) = true)
    (a_Replica_crash : PySem.W.findIn K (.ref a_Replica) "crash" = some (some (.ref f_Replica_crash)))
    (i_Replica_crash : PySem.W.isFn K (.ref f_Replica_crash) = true)
    (l_Replica_crash : K.lookup f_Replica_crash = some ⟨oc_Replica_crash, od_Replica_crash, .func (PySem.W.fnOf "crash" "Replica.crash" (defArgs s_Replica_crash) (defBody s_Replica_crash) (defScope s_Replica_crash) .none kV_Replica_crash dc_Replica_crash pm_Replica_crash an_Replica_crash cd_Replica_crash ct_Replica_crash), sl_Replica_crash⟩)
    (c_Replica_crash : PySem.W.codeIn K cd_Replica_crash "Replica.crash" = true)
    (k_Replica_crash : PySem.W.keepIn K (.ref f_Replica_crash) = true)
    (a_q_after : PySem.W.nsIn K mainGlobals "_law_after" = some (some (.ref f_q_after)))
    (l_q_after : K.lookup f_q_after = some ⟨oc_q_after, od_q_after, .func (PySem.W.fnOf "_law_after" "_law_after" (defArgs s_q_after) (defBody s_q_after) (defScope s_q_after) .none kV_q_after dc_q_after pm_q_after an_q_after cd_q_after ct_q_after), sl_q_after⟩)
    (c_q_after : PySem.W.codeIn K cd_q_after "_law_after" = true)
    (k_q_after : PySem.W.keepIn K (.ref f_q_after) = true)
    (a_Replica_pack : PySem.W.findIn K (.ref a_Replica) "pack" = some (some (.ref f_Replica_pack)))
    (i_Replica_pack : PySem.W.isFn K (.ref f_Replica_pack) = true)
    (l_Replica_pack : K.lookup f_Replica_pack = some ⟨oc_Replica_pack, od_Replica_pack, .func (PySem.W.fnOf "pack" "Replica.pack" (defArgs s_Replica_pack) (defBody s_Replica_pack) (defScope s_Replica_pack) .none kV_Replica_pack dc_Replica_pack pm_Replica_pack an_Replica_pack cd_Replica_pack ct_Replica_pack), sl_Replica_pack⟩)
    (c_Replica_pack : PySem.W.codeIn K cd_Replica_pack "Replica.pack" = true)
    (k_Replica_pack : PySem.W.keepIn K (.ref f_Replica_pack) = true)
    (a_q_full : PySem.W.nsIn K mainGlobals "_law_full" = some (some (.ref f_q_full)))
    (l_q_full : K.lookup f_q_full = some ⟨oc_q_full, od_q_full, .func (PySem.W.fnOf "_law_full" "_law_full" (defArgs s_q_full) (defBody s_q_full) (defScope s_q_full) .none kV_q_full dc_q_full pm_q_full an_q_full cd_q_full ct_q_full), sl_q_full⟩)
    (c_q_full : PySem.W.codeIn K cd_q_full "_law_full" = true)
    (k_q_full : PySem.W.keepIn K (.ref f_q_full) = true)
    (a_q_crashed : PySem.W.nsIn K mainGlobals "_law_crashed" = some (some (.ref f_q_crashed)))
    (l_q_crashed : K.lookup f_q_crashed = some ⟨oc_q_crashed, od_q_crashed, .func (PySem.W.fnOf "_law_crashed" "_law_crashed" (defArgs s_q_crashed) (defBody s_q_crashed) (defScope s_q_crashed) .none kV_q_crashed dc_q_crashed pm_q_crashed an_q_crashed cd_q_crashed ct_q_crashed), sl_q_crashed⟩)
    (c_q_crashed : PySem.W.codeIn K cd_q_crashed "_law_crashed" = true)
    (k_q_crashed : PySem.W.keepIn K (.ref f_q_crashed) = true)
    (a_q_write : PySem.W.nsIn K mainGlobals "_law_write" = some (some (.ref f_q_write)))
    (l_q_write : K.lookup f_q_write = some ⟨oc_q_write, od_q_write, .func (PySem.W.fnOf "_law_write" "_law_write" (defArgs s_q_write) (defBody s_q_write) (defScope s_q_write) .none kV_q_write dc_q_write pm_q_write an_q_write cd_q_write ct_q_write), sl_q_write⟩)
    (c_q_write : PySem.W.codeIn K cd_q_write "_law_write" = true)
    (k_q_write : PySem.W.keepIn K (.ref f_q_write) = true)
    (a_q_crash : PySem.W.nsIn K mainGlobals "_law_crash" = some (some (.ref f_q_crash)))
    (l_q_crash : K.lookup f_q_crash = some ⟨oc_q_crash, od_q_crash, .func (PySem.W.fnOf "_law_crash" "_law_crash" (defArgs s_q_crash) (defBody s_q_crash) (defScope s_q_crash) .none kV_q_crash dc_q_crash pm_q_crash an_q_crash cd_q_crash ct_q_crash), sl_q_crash⟩)
    (c_q_crash : PySem.W.codeIn K cd_q_crash "_law_crash" = true)
    (k_q_crash : PySem.W.keepIn K (.ref f_q_crash) = true)
    (a_q_pack : PySem.W.nsIn K mainGlobals "_law_pack" = some (some (.ref f_q_pack)))
    (l_q_pack : K.lookup f_q_pack = some ⟨oc_q_pack, od_q_pack, .func (PySem.W.fnOf "_law_pack" "_law_pack" (defArgs s_q_pack) (defBody s_q_pack) (defScope s_q_pack) .none kV_q_pack dc_q_pack pm_q_pack an_q_pack cd_q_pack ct_q_pack), sl_q_pack⟩)
    (c_q_pack : PySem.W.codeIn K cd_q_pack "_law_pack" = true)
    (k_q_pack : PySem.W.keepIn K (.ref f_q_pack) = true)
    (a_q_step : PySem.W.nsIn K mainGlobals "_law_step" = some (some (.ref f_q_step)))
    (l_q_step : K.lookup f_q_step = some ⟨oc_q_step, od_q_step, .func (PySem.W.fnOf "_law_step" "_law_step" (defArgs s_q_step) (defBody s_q_step) (defScope s_q_step) .none kV_q_step dc_q_step pm_q_step an_q_step cd_q_step ct_q_step), sl_q_step⟩)
    (c_q_step : PySem.W.codeIn K cd_q_step "_law_step" = true)
    (k_q_step : PySem.W.keepIn K (.ref f_q_step) = true)
    (a_law : PySem.W.nsIn K mainGlobals "law" = some (some (.ref f_law)))
    (l_law : K.lookup f_law = some ⟨oc_law, od_law, .func (PySem.W.fnOf "law" "law" (defArgs s_law) (defBody s_law) (defScope s_law) .none kV_law dc_law pm_law an_law cd_law ct_law), sl_law⟩)
    (c_law : PySem.W.codeIn K cd_law "law" = true)
    (k_law : PySem.W.keepIn K (.ref f_law) = true)
    (n_Disk_data : PySem.W.findIn K (.ref a_Disk) "data" = some none)
    (n_Disk_safe : PySem.W.findIn K (.ref a_Disk) "safe" = some none)
    (n_Replica_counts : PySem.W.findIn K (.ref a_Replica) "counts" = some none)
    (n_Replica_disk : PySem.W.findIn K (.ref a_Replica) "disk" = some none)
    (n_Replica_limits : PySem.W.findIn K (.ref a_Replica) "limits" = some none)
    (n_Replica_number : PySem.W.findIn K (.ref a_Replica) "number" = some none)
    (n_Replica_store : PySem.W.findIn K (.ref a_Replica) "store" = some none)
    (n_Replica_waiting : PySem.W.findIn K (.ref a_Replica) "waiting" = some none)
    (n_Store_held : PySem.W.findIn K (.ref a_Store) "held" = some none)
    (n_Store_size : PySem.W.findIn K (.ref a_Store) "size" = some none)
    (n_Store_trees : PySem.W.findIn K (.ref a_Store) "trees" = some none)
    (n_Tree_nodes : PySem.W.findIn K (.ref a_Tree) "nodes" = some none)
    (n_Tree_salt : PySem.W.findIn K (.ref a_Tree) "salt" = some none)
    (n_Tree_size : PySem.W.findIn K (.ref a_Tree) "size" = some none)
    (htop : (l.prog.main.scope.names.lookup ("super" : Str)).isSome = false)
    (hany : PySem.W.nsIn K cStatics "thirdparty.any" = some none)
    (m_Invalid : PySem.W.nsIn K mainGlobals "Invalid" = some (some (.ref a_Invalid)))
    (xo_Invalid : K.lookup a_Invalid = some (excClassObj nm_Invalid q_Invalid a_Invalid N_Invalid bs_Invalid bm_Invalid true sn_Invalid sub_Invalid ab_Invalid col_Invalid dd_Invalid k0_Invalid k1_Invalid k2_Invalid k3_Invalid k5_Invalid "ValueError.__new__"))
    (xr_Invalid : PySem.HandSPX.refsVE bm_Invalid = true)
    (sa_Invalid : PySem.W.findIn K (.ref a_Invalid) "__setattr__" = some (some (.builtin "object.__setattr__")))
    (xB_Invalid : PySem.W.subIn K (.ref a_Invalid) (.type "BaseException") = some true)
    (ty_Invalid : PySem.W.typeIn K (.ref a_Invalid) = some (.type "type"))
    (kc_Invalid : PySem.W.keepIn K (.ref a_Invalid) = true)
    (iI_Invalid : PySem.W.findIn K (.ref a_Invalid) "__init__" = some (some (.ref f_Invalid___init__)))
    (tI_Invalid : PySem.W.typeIn K (.ref f_Invalid___init__) = some (.type "function"))
    (l_Invalid___init__ : K.lookup f_Invalid___init__ = some ⟨oc_Invalid___init__, od_Invalid___init__, .func (PySem.W.fnX "__init__" "Invalid.__init__" (C8.fnArgs s_Invalid___init__) (C8.fnBody s_Invalid___init__) (C8.fnScope s_Invalid___init__) [("__class__", cc_Invalid___init__)] .none kV_Invalid___init__ dc_Invalid___init__ pm_Invalid___init__ an_Invalid___init__ (.ref c_Invalid___init__) ct_Invalid___init__), sl_Invalid___init__⟩)
    (cd_Invalid___init__ : PySem.W.codeIn K (.ref c_Invalid___init__) "Invalid.__init__" = true)
    (co_Invalid___init__ : K.lookup c_Invalid___init__ = some ⟨ccl_Invalid___init__, cdd_Invalid___init__, .fields vs_Invalid___init__, ccs_Invalid___init__⟩)
    (cv_Invalid___init__ : vs_Invalid___init__[2]? = some (.str fl_Invalid___init__ tf_Invalid___init__))
    (cf_Invalid___init__ : ((l.prog.main.file : Str) == fl_Invalid___init__) = true)
    (ce_Invalid___init__ : K.lookup cc_Invalid___init__ = some ⟨cl_Invalid___init__, cld_Invalid___init__, .cell (some (.ref a_Invalid)), csl_Invalid___init__⟩)
    (su_Invalid : PySem.W.ks_superIn K a_Invalid a_Invalid "__init__" = some (some (.builtin "ValueError.__init__")))
    (ve_Invalid : PySem.W.subIn K (.ref a_Invalid) (.type "ValueError") = some true)
    (mr_Invalid : PySem.W.mroIn K a_Invalid (.ref a_Invalid) = some true)
    (nf_Invalid : PySem.W.findIn K (.ref a_Invalid) "name" = some none)
    (ga_Invalid : PySem.W.findIn K (.ref a_Invalid) "__getattribute__" = some (some (.builtin "BaseException.__getattribute__")))
    (gg_Invalid : PySem.W.findIn K (.ref a_Invalid) "__getattr__" = some none)
    (hd_Invalid : PySem.W.hasDictIn K a_Invalid = true)
    (ex_Invalid : PySem.W.exmOne K (.ref a_Invalid) (.ref a_Invalid) = some true)
    (m_Full : PySem.W.nsIn K mainGlobals "Full" = some (some (.ref a_Full)))
    (xo_Full : K.lookup a_Full = some (excClassObj nm_Full q_Full a_Full N_Full bs_Full bm_Full true sn_Full sub_Full ab_Full col_Full dd_Full k0_Full k1_Full k2_Full k3_Full k5_Full "ValueError.__new__"))
    (xr_Full : PySem.HandSPX.refsVE bm_Full = true)
    (sa_Full : PySem.W.findIn K (.ref a_Full) "__setattr__" = some (some (.builtin "object.__setattr__")))
    (xB_Full : PySem.W.subIn K (.ref a_Full) (.type "BaseException") = some true)
    (ty_Full : PySem.W.typeIn K (.ref a_Full) = some (.type "type"))
    (kc_Full : PySem.W.keepIn K (.ref a_Full) = true)
    (iI_Full : PySem.W.findIn K (.ref a_Full) "__init__" = some (some (.ref f_Full___init__)))
    (tI_Full : PySem.W.typeIn K (.ref f_Full___init__) = some (.type "function"))
    (l_Full___init__ : K.lookup f_Full___init__ = some ⟨oc_Full___init__, od_Full___init__, .func (PySem.W.fnX "__init__" "Full.__init__" (C8.fnArgs s_Full___init__) (C8.fnBody s_Full___init__) (C8.fnScope s_Full___init__) [("__class__", cc_Full___init__)] .none kV_Full___init__ dc_Full___init__ pm_Full___init__ an_Full___init__ (.ref c_Full___init__) ct_Full___init__), sl_Full___init__⟩)
    (cd_Full___init__ : PySem.W.codeIn K (.ref c_Full___init__) "Full.__init__" = true)
    (co_Full___init__ : K.lookup c_Full___init__ = some ⟨ccl_Full___init__, cdd_Full___init__, .fields vs_Full___init__, ccs_Full___init__⟩)
    (cv_Full___init__ : vs_Full___init__[2]? = some (.str fl_Full___init__ tf_Full___init__))
    (cf_Full___init__ : ((l.prog.main.file : Str) == fl_Full___init__) = true)
    (ce_Full___init__ : K.lookup cc_Full___init__ = some ⟨cl_Full___init__, cld_Full___init__, .cell (some (.ref a_Full)), csl_Full___init__⟩)
    (su_Full : PySem.W.ks_superIn K a_Full a_Full "__init__" = some (some (.builtin "ValueError.__init__")))
    (ve_Full : PySem.W.subIn K (.ref a_Full) (.type "ValueError") = some true)
    (mr_Full : PySem.W.mroIn K a_Full (.ref a_Full) = some true)
    (nf_Full : PySem.W.findIn K (.ref a_Full) "name" = some none)
    (ga_Full : PySem.W.findIn K (.ref a_Full) "__getattribute__" = some (some (.builtin "BaseException.__getattribute__")))
    (gg_Full : PySem.W.findIn K (.ref a_Full) "__getattr__" = some none)
    (hd_Full : PySem.W.hasDictIn K a_Full = true)
    (ex_Full : PySem.W.exmOne K (.ref a_Full) (.ref a_Full) = some true)
    : ∃ fd : FuncData, (∀ (s : Shared) (v : Value), BindsTo s fd ⟨[v], []⟩ [("_law_script", v)]) ∧ ∀ base : Heap, K.In base → base.Ns mainGlobals mg → FnOk l.prog w K mg base (L2.CX l.prog w) 11 fa fd ["_law_script"] (spEnd K) := by
  have e := hfa.symm.trans (PySem.W.mg_of X G a_law)
  cases e
  let T : Tx l.prog K mg := {
    u_REPLICAS := _, w_REPLICAS := .int 4, m_REPLICAS := PySem.W.mg_of X G m_REPLICAS, v_REPLICAS := ⟨_, rfl⟩, r_REPLICAS := fun _ => .int _,
    u_MAX_COUNT := _, w_MAX_COUNT := .int 255, m_MAX_COUNT := PySem.W.mg_of X G m_MAX_COUNT, v_MAX_COUNT := ⟨_, rfl⟩, r_MAX_COUNT := fun _ => .int _,
    u_MAX_VALUE := _, w_MAX_VALUE := .int 255, m_MAX_VALUE := PySem.W.mg_of X G m_MAX_VALUE, v_MAX_VALUE := ⟨_, rfl⟩, r_MAX_VALUE := fun _ => .int _,
    u_EMPTY := _, w_EMPTY := .ref a_EMPTY, m_EMPTY := PySem.W.mg_of X G m_EMPTY, v_EMPTY := rfl, r_EMPTY := fun _ => (.tup (.inr ⟨_, _, _, x_EMPTY, rfl, rfl, by simp [sizeLine_eq], (.cons (show RelV (.ref a_EMPTY_1) (.ref a_EMPTY_1) from rfl) (.cons (show RelV (.ref a_EMPTY_2) (.ref a_EMPTY_2) from rfl) .nil))⟩) (.cons (.tup (.inr ⟨_, _, _, x_EMPTY_1, rfl, rfl, by simp [sizeLine_eq], (.cons (show RelV (.int 0) (.int 0 t_EMPTY_3) from ⟨_, rfl⟩) (.cons (show RelV (.int 0) (.int 0 t_EMPTY_4) from ⟨_, rfl⟩) (.cons (show RelV (.int 0) (.int 0 t_EMPTY_5) from ⟨_, rfl⟩) (.cons (show RelV (.int 0) (.int 0 t_EMPTY_6) from ⟨_, rfl⟩) .nil))))⟩) (.cons (.int _) (.cons (.int _) (.cons (.int _) (.cons (.int _) .nil))))) (.cons (.tup (.inr ⟨_, _, _, x_EMPTY_2, rfl, rfl, by simp [sizeLine_eq], .nil⟩) .nil) .nil))),
    u_RECORD := _, w_RECORD := .int 20, m_RECORD := PySem.W.mg_of X G m_RECORD, v_RECORD := ⟨_, rfl⟩, r_RECORD := fun _ => .int _,
    u_MARK := _, w_MARK := .int 181, m_MARK := PySem.W.mg_of X G m_MARK, v_MARK := ⟨_, rfl⟩, r_MARK := fun _ => .int _,
    u_PRIME := _, w_PRIME := .int 170141183460469231731687303715884105727, m_PRIME := PySem.W.mg_of X G m_PRIME, v_PRIME := ⟨_, rfl⟩, r_PRIME := fun _ => .int _,
    u_SIZES := _, w_SIZES := .ref a_SIZES, m_SIZES := PySem.W.mg_of X G m_SIZES, v_SIZES := rfl, r_SIZES := fun _ => (.tup (.inr ⟨_, _, _, x_SIZES, rfl, rfl, by simp [sizeLine_eq], (.cons (show RelV (.int 1) (.int 1 t_SIZES_1) from ⟨_, rfl⟩) (.cons (show RelV (.int 2) (.int 2 t_SIZES_2) from ⟨_, rfl⟩) (.cons (show RelV (.int 4) (.int 4 t_SIZES_3) from ⟨_, rfl⟩) (.cons (show RelV (.int 8) (.int 8 t_SIZES_4) from ⟨_, rfl⟩) (.cons (show RelV (.int 16) (.int 16 t_SIZES_5) from ⟨_, rfl⟩) (.cons (show RelV (.int 32) (.int 32 t_SIZES_6) from ⟨_, rfl⟩) (.cons (show RelV (.int 64) (.int 64 t_SIZES_7) from ⟨_, rfl⟩) .nil)))))))⟩) (.cons (.int _) (.cons (.int _) (.cons (.int _) (.cons (.int _) (.cons (.int _) (.cons (.int _) (.cons (.int _) .nil)))))))),
    u_AHEAD := _, w_AHEAD := .int 8, m_AHEAD := PySem.W.mg_of X G m_AHEAD, v_AHEAD := ⟨_, rfl⟩, r_AHEAD := fun _ => .int _,
    z_abs := PySem.W.mg_none_of X G z_abs,
    z_all := PySem.W.mg_none_of X G z_all,
    z_bool := PySem.W.mg_none_of X G z_bool,
    z_int := PySem.W.mg_none_of X G z_int,
    z_isinstance := PySem.W.mg_none_of X G z_isinstance,
    z_len := PySem.W.mg_none_of X G z_len,
    z_list := PySem.W.mg_none_of X G z_list,
    z_max := PySem.W.mg_none_of X G z_max,
    z_min := PySem.W.mg_none_of X G z_min,
    z_range := PySem.W.mg_none_of X G z_range,
    z_sorted := PySem.W.mg_none_of X G z_sorted,
    z_super := PySem.W.mg_none_of X G z_super,
    z_tuple := PySem.W.mg_none_of X G z_tuple,
    a_Disk := a_Disk, cl_Disk := ⟨pg_Disk, hd_Disk, po_Disk, sa_Disk⟩, m_Disk := PySem.W.mg_of X G m_Disk,
    a_Tree := a_Tree, cl_Tree := ⟨pg_Tree, hd_Tree, po_Tree, sa_Tree⟩, m_Tree := PySem.W.mg_of X G m_Tree,
    a_Store := a_Store, cl_Store := ⟨pg_Store, hd_Store, po_Store, sa_Store⟩, m_Store := PySem.W.mg_of X G m_Store,
    a_Replica := a_Replica, cl_Replica := ⟨pg_Replica, hd_Replica, po_Replica, sa_Replica⟩, m_Replica := PySem.W.mg_of X G m_Replica,
    f_is_number := f_is_number, d_is_number := _, F_is_number := fun_mk (st := s_is_number) l_is_number c_is_number k_is_number, b_is_number := (fun_mk (st := s_is_number) l_is_number c_is_number k_is_number).binds (ps := ["thing", "low", "high"]) fun _ _ _ _ _ _ us hl => match us, hl with | [_, _, _], _ => rfl,
    m_is_number := PySem.W.mg_of X G a_is_number,
    f_covers := f_covers, d_covers := _, F_covers := fun_mk (st := s_covers) l_covers c_covers k_covers, b_covers := (fun_mk (st := s_covers) l_covers c_covers k_covers).binds (ps := ["seen", "version"]) fun _ _ _ _ _ _ us hl => match us, hl with | [_, _], _ => rfl,
    m_covers := PySem.W.mg_of X G a_covers,
    f_joined_seen := f_joined_seen, d_joined_seen := _, F_joined_seen := fun_mk (st := s_joined_seen) l_joined_seen c_joined_seen k_joined_seen, b_joined_seen := (fun_mk (st := s_joined_seen) l_joined_seen c_joined_seen k_joined_seen).binds (ps := ["one", "two"]) fun _ _ _ _ _ _ us hl => match us, hl with | [_, _], _ => rfl,
    m_joined_seen := PySem.W.mg_of X G a_joined_seen,
    f_code := f_code, d_code := _, F_code := fun_mk (st := s_code) l_code c_code k_code, b_code := (fun_mk (st := s_code) l_code c_code k_code).binds (ps := ["state"]) fun _ _ _ _ _ _ us hl => match us, hl with | [_], _ => rfl,
    m_code := PySem.W.mg_of X G a_code,
    f_check_byte := f_check_byte, d_check_byte := _, F_check_byte := fun_mk (st := s_check_byte) l_check_byte c_check_byte k_check_byte, b_check_byte := (fun_mk (st := s_check_byte) l_check_byte c_check_byte k_check_byte).binds (ps := ["part"]) fun _ _ _ _ _ _ us hl => match us, hl with | [_], _ => rfl,
    m_check_byte := PySem.W.mg_of X G a_check_byte,
    f_Disk___init__ := f_Disk___init__, d_Disk___init__ := _, F_Disk___init__ := fun_mk (st := s_Disk___init__) l_Disk___init__ c_Disk___init__ k_Disk___init__, b_Disk___init__ := (fun_mk (st := s_Disk___init__) l_Disk___init__ c_Disk___init__ k_Disk___init__).binds (ps := ["self"]) fun _ _ _ _ _ _ us hl => match us, hl with | [_], _ => rfl,
    mk_Disk := ⟨mk_Disk, a_Disk___init__, i_Disk___init__, kc_Disk⟩,
    f_Disk_sync := f_Disk_sync, d_Disk_sync := _, F_Disk_sync := fun_mk (st := s_Disk_sync) l_Disk_sync c_Disk_sync k_Disk_sync, b_Disk_sync := (fun_mk (st := s_Disk_sync) l_Disk_sync c_Disk_sync k_Disk_sync).binds (ps := ["self"]) fun _ _ _ _ _ _ us hl => match us, hl with | [_], _ => rfl,
    me_Disk_sync := ⟨a_Disk_sync, i_Disk_sync, k_Disk_sync⟩,
    f_Disk_cut := f_Disk_cut, d_Disk_cut := _, F_Disk_cut := fun_mk (st := s_Disk_cut) l_Disk_cut c_Disk_cut k_Disk_cut, b_Disk_cut := (fun_mk (st := s_Disk_cut) l_Disk_cut c_Disk_cut k_Disk_cut).binds (ps := ["self", "left"]) fun _ _ _ _ _ _ us hl => match us, hl with | [_, _], _ => rfl,
    me_Disk_cut := ⟨a_Disk_cut, i_Disk_cut, k_Disk_cut⟩,
    f_Disk_trim := f_Disk_trim, d_Disk_trim := _, F_Disk_trim := fun_mk (st := s_Disk_trim) l_Disk_trim c_Disk_trim k_Disk_trim, b_Disk_trim := (fun_mk (st := s_Disk_trim) l_Disk_trim c_Disk_trim k_Disk_trim).binds (ps := ["self", "many"]) fun _ _ _ _ _ _ us hl => match us, hl with | [_, _], _ => rfl,
    me_Disk_trim := ⟨a_Disk_trim, i_Disk_trim, k_Disk_trim⟩,
    f_power := f_power, d_power := _, F_power := fun_mk (st := s_power) l_power c_power k_power, b_power := (fun_mk (st := s_power) l_power c_power k_power).binds (ps := ["base", "exponent"]) fun _ _ _ _ _ _ us hl => match us, hl with | [_, _], _ => rfl,
    m_power := PySem.W.mg_of X G a_power,
    f_Tree_total := f_Tree_total, d_Tree_total := _, F_Tree_total := fun_mk (st := s_Tree_total) l_Tree_total c_Tree_total k_Tree_total, b_Tree_total := (fun_mk (st := s_Tree_total) l_Tree_total c_Tree_total k_Tree_total).binds (ps := ["self", "low", "high"]) fun _ _ _ _ _ _ us hl => match us, hl with | [_, _, _], _ => rfl,
    me_Tree_total := ⟨a_Tree_total, i_Tree_total, k_Tree_total⟩,
    f_Store_state := f_Store_state, d_Store_state := _, F_Store_state := fun_mk (st := s_Store_state) l_Store_state c_Store_state k_Store_state, b_Store_state := (fun_mk (st := s_Store_state) l_Store_state c_Store_state k_Store_state).binds (ps := ["self", "key"]) fun _ _ _ _ _ _ us hl => match us, hl with | [_, _], _ => rfl,
    me_Store_state := ⟨a_Store_state, i_Store_state, k_Store_state⟩,
    f_Store_rows := f_Store_rows, d_Store_rows := _, F_Store_rows := fun_mk (st := s_Store_rows) l_Store_rows c_Store_rows k_Store_rows, b_Store_rows := (fun_mk (st := s_Store_rows) l_Store_rows c_Store_rows k_Store_rows).binds (ps := ["self"]) fun _ _ _ _ _ _ us hl => match us, hl with | [_], _ => rfl,
    me_Store_rows := ⟨a_Store_rows, i_Store_rows, k_Store_rows⟩,
    f_q_stream := f_q_stream, d_q_stream := _, F_q_stream := fun_mk (st := s_q_stream) l_q_stream c_q_stream k_q_stream, b_q_stream := (fun_mk (st := s_q_stream) l_q_stream c_q_stream k_q_stream).binds (ps := ["_law_script"]) fun _ _ _ _ _ _ us hl => match us, hl with | [_], _ => rfl,
    m_q_stream := PySem.W.mg_of X G a_q_stream,
    f_q_take := f_q_take, d_q_take := _, F_q_take := fun_mk (st := s_q_take) l_q_take c_q_take k_q_take, b_q_take := (fun_mk (st := s_q_take) l_q_take c_q_take k_q_take).binds (ps := ["_law_row", "_law_many"]) fun _ _ _ _ _ _ us hl => match us, hl with | [_, _], _ => rfl,
    m_q_take := PySem.W.mg_of X G a_q_take,
    f_is_seen := f_is_seen, d_is_seen := _, F_is_seen := fun_mk (st := s_is_seen) l_is_seen c_is_seen k_is_seen, b_is_seen := (fun_mk (st := s_is_seen) l_is_seen c_is_seen k_is_seen).binds (ps := ["thing"]) fun _ _ _ _ _ _ us hl => match us, hl with | [_], _ => rfl,
    m_is_seen := PySem.W.mg_of X G a_is_seen,
    f_is_version := f_is_version, d_is_version := _, F_is_version := fun_mk (st := s_is_version) l_is_version c_is_version k_is_version, b_is_version := (fun_mk (st := s_is_version) l_is_version c_is_version k_is_version).binds (ps := ["thing", "seen"]) fun _ _ _ _ _ _ us hl => match us, hl with | [_, _], _ => rfl,
    m_is_version := PySem.W.mg_of X G a_is_version,
    f_removed := f_removed, d_removed := _, F_removed := fun_mk (st := s_removed) l_removed c_removed k_removed, b_removed := (fun_mk (st := s_removed) l_removed c_removed k_removed).binds (ps := ["state", "seen"]) fun _ _ _ _ _ _ us hl => match us, hl with | [_, _], _ => rfl,
    m_removed := PySem.W.mg_of X G a_removed,
    f_record := f_record, d_record := _, F_record := fun_mk (st := s_record) l_record c_record k_record, b_record := (fun_mk (st := s_record) l_record c_record k_record).binds (ps := ["key", "state"]) fun _ _ _ _ _ _ us hl => match us, hl with | [_, _], _ => rfl,
    m_record := PySem.W.mg_of X G a_record,
    f_is_record := f_is_record, d_is_record := _, F_is_record := fun_mk (st := s_is_record) l_is_record c_is_record k_is_record, b_is_record := (fun_mk (st := s_is_record) l_is_record c_is_record k_is_record).binds (ps := ["part"]) fun _ _ _ _ _ _ us hl => match us, hl with | [_], _ => rfl,
    m_is_record := PySem.W.mg_of X G a_is_record,
    f_Tree___init__ := f_Tree___init__, d_Tree___init__ := _, F_Tree___init__ := fun_mk (st := s_Tree___init__) l_Tree___init__ c_Tree___init__ k_Tree___init__, b_Tree___init__ := (fun_mk (st := s_Tree___init__) l_Tree___init__ c_Tree___init__ k_Tree___init__).binds (ps := ["self", "numbers", "salt"]) fun _ _ _ _ _ _ us hl => match us, hl with | [_, _, _], _ => rfl,
    mk_Tree := ⟨mk_Tree, a_Tree___init__, i_Tree___init__, kc_Tree⟩,
    f_Tree_change := f_Tree_change, d_Tree_change := _, F_Tree_change := fun_mk (st := s_Tree_change) l_Tree_change c_Tree_change k_Tree_change, b_Tree_change := (fun_mk (st := s_Tree_change) l_Tree_change c_Tree_change k_Tree_change).binds (ps := ["self", "key", "number"]) fun _ _ _ _ _ _ us hl => match us, hl with | [_, _, _], _ => rfl,
    me_Tree_change := ⟨a_Tree_change, i_Tree_change, k_Tree_change⟩,
    f_Replica_sync := f_Replica_sync, d_Replica_sync := _, F_Replica_sync := fun_mk (st := s_Replica_sync) l_Replica_sync c_Replica_sync k_Replica_sync, b_Replica_sync := (fun_mk (st := s_Replica_sync) l_Replica_sync c_Replica_sync k_Replica_sync).binds (ps := ["self"]) fun _ _ _ _ _ _ us hl => match us, hl with | [_], _ => rfl,
    me_Replica_sync := ⟨a_Replica_sync, i_Replica_sync, k_Replica_sync⟩,
    f_q_state := f_q_state, d_q_state := _, F_q_state := fun_mk (st := s_q_state) l_q_state c_q_state k_q_state, b_q_state := (fun_mk (st := s_q_state) l_q_state c_q_state k_q_state).binds (ps := ["_law_row"]) fun _ _ _ _ _ _ us hl => match us, hl with | [_], _ => rfl,
    m_q_state := PySem.W.mg_of X G a_q_state,
    f_is_state := f_is_state, d_is_state := _, F_is_state := fun_mk (st := s_is_state) l_is_state c_is_state k_is_state, b_is_state := (fun_mk (st := s_is_state) l_is_state c_is_state k_is_state).binds (ps := ["thing"]) fun _ _ _ _ _ _ us hl => match us, hl with | [_], _ => rfl,
    m_is_state := PySem.W.mg_of X G a_is_state,
    f_written := f_written, d_written := _, F_written := fun_mk (st := s_written) l_written c_written k_written, b_written := (fun_mk (st := s_written) l_written c_written k_written).binds (ps := ["state", "replica", "count", "value", "seen"]) fun _ _ _ _ _ _ us hl => match us, hl with | [_, _, _, _, _], _ => rfl,
    m_written := PySem.W.mg_of X G a_written,
    f_Disk_append := f_Disk_append, d_Disk_append := _, F_Disk_append := fun_mk (st := s_Disk_append) l_Disk_append c_Disk_append k_Disk_append, b_Disk_append := (fun_mk (st := s_Disk_append) l_Disk_append c_Disk_append k_Disk_append).binds (ps := ["self", "key", "state"]) fun _ _ _ _ _ _ us hl => match us, hl with | [_, _, _], _ => rfl,
    me_Disk_append := ⟨a_Disk_append, i_Disk_append, k_Disk_append⟩,
    f_Disk_replace := f_Disk_replace, d_Disk_replace := _, F_Disk_replace := fun_mk (st := s_Disk_replace) l_Disk_replace c_Disk_replace k_Disk_replace, b_Disk_replace := (fun_mk (st := s_Disk_replace) l_Disk_replace c_Disk_replace k_Disk_replace).binds (ps := ["self", "rows", "left"]) fun _ _ _ _ _ _ us hl => match us, hl with | [_, _, _], _ => rfl,
    me_Disk_replace := ⟨a_Disk_replace, i_Disk_replace, k_Disk_replace⟩,
    f_Store___init__ := f_Store___init__, d_Store___init__ := _, F_Store___init__ := fun_mk (st := s_Store___init__) l_Store___init__ c_Store___init__ k_Store___init__, b_Store___init__ := (fun_mk (st := s_Store___init__) l_Store___init__ c_Store___init__ k_Store___init__).binds (ps := ["self", "size"]) fun _ _ _ _ _ _ us hl => match us, hl with | [_, _], _ => rfl,
    mk_Store := ⟨mk_Store, a_Store___init__, i_Store___init__, kc_Store⟩,
    f_Replica_next_count := f_Replica_next_count, d_Replica_next_count := _, F_Replica_next_count := fun_mk (st := s_Replica_next_count) l_Replica_next_count c_Replica_next_count k_Replica_next_count, b_Replica_next_count := (fun_mk (st := s_Replica_next_count) l_Replica_next_count c_Replica_next_count k_Replica_next_count).binds (ps := ["self", "key"]) fun _ _ _ _ _ _ us hl => match us, hl with | [_, _], _ => rfl,
    me_Replica_next_count := ⟨a_Replica_next_count, i_Replica_next_count, k_Replica_next_count⟩,
    f_checked := f_checked, d_checked := _, F_checked := fun_mk (st := s_checked) l_checked c_checked k_checked, b_checked := (fun_mk (st := s_checked) l_checked c_checked k_checked).binds (ps := ["state"]) fun _ _ _ _ _ _ us hl => match us, hl with | [_], _ => rfl,
    m_checked := PySem.W.mg_of X G a_checked,
    f_decoded := f_decoded, d_decoded := _, F_decoded := fun_mk (st := s_decoded) l_decoded c_decoded k_decoded, b_decoded := (fun_mk (st := s_decoded) l_decoded c_decoded k_decoded).binds (ps := ["number"]) fun _ _ _ _ _ _ us hl => match us, hl with | [_], _ => rfl,
    m_decoded := PySem.W.mg_of X G a_decoded,
    f_Store_total := f_Store_total, d_Store_total := _, F_Store_total := fun_mk (st := s_Store_total) l_Store_total c_Store_total k_Store_total, b_Store_total := (fun_mk (st := s_Store_total) l_Store_total c_Store_total k_Store_total).binds (ps := ["self", "low", "high", "salt"]) fun _ _ _ _ _ _ us hl => match us, hl with | [_, _, _, _], _ => rfl,
    f_read_record := f_read_record, d_read_record := _, F_read_record := fun_mk (st := s_read_record) l_read_record c_read_record k_read_record, b_read_record := (fun_mk (st := s_read_record) l_read_record c_read_record k_read_record).binds (ps := ["part"]) fun _ _ _ _ _ _ us hl => match us, hl with | [_], _ => rfl,
    m_read_record := PySem.W.mg_of X G a_read_record,
    f_Store_place := f_Store_place, d_Store_place := _, F_Store_place := fun_mk (st := s_Store_place) l_Store_place c_Store_place k_Store_place, b_Store_place := (fun_mk (st := s_Store_place) l_Store_place c_Store_place k_Store_place).binds (ps := ["self", "key", "state"]) fun _ _ _ _ _ _ us hl => match us, hl with | [_, _, _], _ => rfl,
    me_Store_place := ⟨a_Store_place, i_Store_place, k_Store_place⟩,
    f_Replica___init__ := f_Replica___init__, d_Replica___init__ := _, F_Replica___init__ := fun_mk (st := s_Replica___init__) l_Replica___init__ c_Replica___init__ k_Replica___init__, b_Replica___init__ := (fun_mk (st := s_Replica___init__) l_Replica___init__ c_Replica___init__ k_Replica___init__).binds (ps := ["self", "number", "size"]) fun _ _ _ _ _ _ us hl => match us, hl with | [_, _, _], _ => rfl,
    mk_Replica := ⟨mk_Replica, a_Replica___init__, i_Replica___init__, kc_Replica⟩,
    f_recover := f_recover, d_recover := _, F_recover := fun_mk (st := s_recover) l_recover c_recover k_recover, b_recover := (fun_mk (st := s_recover) l_recover c_recover k_recover).binds (ps := ["data", "size"]) fun _ _ _ _ _ _ us hl => match us, hl with | [_, _], _ => rfl,
    m_recover := PySem.W.mg_of X G a_recover,
    f_Replica_keep := f_Replica_keep, d_Replica_keep := _, F_Replica_keep := fun_mk (st := s_Replica_keep) l_Replica_keep c_Replica_keep k_Replica_keep, b_Replica_keep := (fun_mk (st := s_Replica_keep) l_Replica_keep c_Replica_keep k_Replica_keep).binds (ps := ["self", "key", "state"]) fun _ _ _ _ _ _ us hl => match us, hl with | [_, _, _], _ => rfl,
    me_Replica_keep := ⟨a_Replica_keep, i_Replica_keep, k_Replica_keep⟩,
    f_Replica_write := f_Replica_write, d_Replica_write := _, F_Replica_write := fun_mk (st := s_Replica_write) l_Replica_write c_Replica_write k_Replica_write, b_Replica_write := (fun_mk (st := s_Replica_write) l_Replica_write c_Replica_write k_Replica_write).binds (ps := ["self", "key", "value", "seen"]) fun _ _ _ _ _ _ us hl => match us, hl with | [_, _, _, _], _ => rfl,
    me_Replica_write := ⟨a_Replica_write, i_Replica_write, k_Replica_write⟩,
    f_Replica_remove := f_Replica_remove, d_Replica_remove := _, F_Replica_remove := fun_mk (st := s_Replica_remove) l_Replica_remove c_Replica_remove k_Replica_remove, b_Replica_remove := (fun_mk (st := s_Replica_remove) l_Replica_remove c_Replica_remove k_Replica_remove).binds (ps := ["self", "key", "seen"]) fun _ _ _ _ _ _ us hl => match us, hl with | [_, _, _], _ => rfl,
    me_Replica_remove := ⟨a_Replica_remove, i_Replica_remove, k_Replica_remove⟩,
    f_Replica_crash := f_Replica_crash, d_Replica_crash := _, F_Replica_crash := fun_mk (st := s_Replica_crash) l_Replica_crash c_Replica_crash k_Replica_crash, b_Replica_crash := (fun_mk (st := s_Replica_crash) l_Replica_crash c_Replica_crash k_Replica_crash).binds (ps := ["self", "left"]) fun _ _ _ _ _ _ us hl => match us, hl with | [_, _], _ => rfl,
    me_Replica_crash := ⟨a_Replica_crash, i_Replica_crash, k_Replica_crash⟩,
    f_q_after := f_q_after, d_q_after := _, F_q_after := fun_mk (st := s_q_after) l_q_after c_q_after k_q_after, b_q_after := (fun_mk (st := s_q_after) l_q_after c_q_after k_q_after).binds (ps := ["_law_data", "_law_size"]) fun _ _ _ _ _ _ us hl => match us, hl with | [_, _], _ => rfl,
    m_q_after := PySem.W.mg_of X G a_q_after,
    f_Replica_pack := f_Replica_pack, d_Replica_pack := _, F_Replica_pack := fun_mk (st := s_Replica_pack) l_Replica_pack c_Replica_pack k_Replica_pack, b_Replica_pack := (fun_mk (st := s_Replica_pack) l_Replica_pack c_Replica_pack k_Replica_pack).binds (ps := ["self", "left"]) fun _ _ _ _ _ _ us hl => match us, hl with | [_, _], _ => rfl,
    me_Replica_pack := ⟨a_Replica_pack, i_Replica_pack, k_Replica_pack⟩,
    f_q_full := f_q_full, d_q_full := _, F_q_full := fun_mk (st := s_q_full) l_q_full c_q_full k_q_full, b_q_full := (fun_mk (st := s_q_full) l_q_full c_q_full k_q_full).binds (ps := ["_law_replica", "_law_key", "_law_seen"]) fun _ _ _ _ _ _ us hl => match us, hl with | [_, _, _], _ => rfl,
    m_q_full := PySem.W.mg_of X G a_q_full,
    f_q_crashed := f_q_crashed, d_q_crashed := _, F_q_crashed := fun_mk (st := s_q_crashed) l_q_crashed c_q_crashed k_q_crashed, b_q_crashed := (fun_mk (st := s_q_crashed) l_q_crashed c_q_crashed k_q_crashed).binds (ps := ["_law_w", "_law_data", "_law_size"]) fun _ _ _ _ _ _ us hl => match us, hl with | [_, _, _], _ => rfl,
    m_q_crashed := PySem.W.mg_of X G a_q_crashed,
    f_q_write := f_q_write, d_q_write := _, F_q_write := fun_mk (st := s_q_write) l_q_write c_q_write k_q_write, b_q_write := (fun_mk (st := s_q_write) l_q_write c_q_write k_q_write).binds (ps := ["_law_replica", "_law_number", "_law_w", "_law_key", "_law_value", "_law_seen"]) fun _ _ _ _ _ _ us hl => match us, hl with | [_, _, _, _, _, _], _ => rfl,
    m_q_write := PySem.W.mg_of X G a_q_write,
    f_q_crash := f_q_crash, d_q_crash := _, F_q_crash := fun_mk (st := s_q_crash) l_q_crash c_q_crash k_q_crash, b_q_crash := (fun_mk (st := s_q_crash) l_q_crash c_q_crash k_q_crash).binds (ps := ["_law_replica", "_law_w", "_law_left", "_law_size"]) fun _ _ _ _ _ _ us hl => match us, hl with | [_, _, _, _], _ => rfl,
    m_q_crash := PySem.W.mg_of X G a_q_crash,
    f_q_pack := f_q_pack, d_q_pack := _, F_q_pack := fun_mk (st := s_q_pack) l_q_pack c_q_pack k_q_pack, b_q_pack := (fun_mk (st := s_q_pack) l_q_pack c_q_pack k_q_pack).binds (ps := ["_law_replica", "_law_w", "_law_left", "_law_base", "_law_size"]) fun _ _ _ _ _ _ us hl => match us, hl with | [_, _, _, _, _], _ => rfl,
    m_q_pack := PySem.W.mg_of X G a_q_pack,
    f_q_step := f_q_step, d_q_step := _, F_q_step := fun_mk (st := s_q_step) l_q_step c_q_step k_q_step, b_q_step := (fun_mk (st := s_q_step) l_q_step c_q_step k_q_step).binds (ps := ["_law_row", "_law_replica", "_law_number", "_law_w", "_law_base", "_law_turn", "_law_size"]) fun _ _ _ _ _ _ us hl => match us, hl with | [_, _, _, _, _, _, _], _ => rfl,
    m_q_step := PySem.W.mg_of X G a_q_step,
    f_law := fa, d_law := _, F_law := fun_mk (st := s_law) l_law c_law k_law, b_law := (fun_mk (st := s_law) l_law c_law k_law).binds (ps := ["_law_script"]) fun _ _ _ _ _ _ us hl => match us, hl with | [_], _ => rfl,
    m_law := PySem.W.mg_of X G a_law,
    fld_Disk_data := n_Disk_data,
    fld_Disk_safe := n_Disk_safe,
    fld_Replica_counts := n_Replica_counts,
    fld_Replica_disk := n_Replica_disk,
    fld_Replica_limits := n_Replica_limits,
    fld_Replica_number := n_Replica_number,
    fld_Replica_store := n_Replica_store,
    fld_Replica_waiting := n_Replica_waiting,
    fld_Store_held := n_Store_held,
    fld_Store_size := n_Store_size,
    fld_Store_trees := n_Store_trees,
    fld_Tree_nodes := n_Tree_nodes,
    fld_Tree_salt := n_Tree_salt,
    fld_Tree_size := n_Tree_size,
    a_Invalid := a_Invalid, m_Invalid := PySem.W.mg_of X G m_Invalid, f_Invalid___init__ := f_Invalid___init__, d_Invalid___init__ := _, iI_Invalid := iI_Invalid, tI_Invalid := tI_Invalid, nf_Invalid := nf_Invalid, ex_Invalid := ex_Invalid, xf_Invalid := ⟨ga_Invalid, gg_Invalid, xB_Invalid, hd_Invalid⟩, bI_Invalid := (fun _ us _ hl => match us, hl with | [_, _], _ => .of_eq rfl), X_Invalid := ⟨⟨⟨_, _, _, _, _, _, _, _, _, _, _, _, _, _, _, xo_Invalid, xr_Invalid⟩, sa_Invalid, xB_Invalid, ty_Invalid, kc_Invalid⟩, ⟨_, _, _, _, _, _, _, _, _, _, _, _, _, _, _, _, _, _, _, _, rfl, l_Invalid___init__, cd_Invalid___init__, co_Invalid___init__, cv_Invalid___init__, cf_Invalid___init__, ce_Invalid___init__⟩, htop, hany, su_Invalid, ve_Invalid, mr_Invalid, nf_Invalid, NdefX.nscope_by (by decide +kernel), rfl, ⟨_, rfl, rfl⟩, ⟨⟨by decide, by decide⟩, by decide, by decide⟩, ⟨_, _, _, _, _, _, _, _, _, _, _, _, rfl, fun env => ⟨_, rfl⟩⟩⟩,
    a_Full := a_Full, m_Full := PySem.W.mg_of X G m_Full, f_Full___init__ := f_Full___init__, d_Full___init__ := _, iI_Full := iI_Full, tI_Full := tI_Full, nf_Full := nf_Full, ex_Full := ex_Full, xf_Full := ⟨ga_Full, gg_Full, xB_Full, hd_Full⟩, bI_Full := (fun _ us _ hl => match us, hl with | [_, _], _ => .of_eq rfl), X_Full := ⟨⟨⟨_, _, _, _, _, _, _, _, _, _, _, _, _, _, _, xo_Full, xr_Full⟩, sa_Full, xB_Full, ty_Full, kc_Full⟩, ⟨_, _, _, _, _, _, _, _, _, _, _, _, _, _, _, _, _, _, _, _, rfl, l_Full___init__, cd_Full___init__, co_Full___init__, cv_Full___init__, cf_Full___init__, ce_Full___init__⟩, htop, hany, su_Full, ve_Full, mr_Full, nf_Full, NdefX.nscope_by (by decide +kernel), rfl, ⟨_, rfl, rfl⟩, ⟨⟨by decide, by decide⟩, by decide, by decide⟩, ⟨_, _, _, _, _, _, _, _, _, _, _, _, rfl, fun env => ⟨_, rfl⟩⟩⟩ }
  refine ⟨T.d_law, fun s v => .of_eq rfl, fun base _ _ => (ok_law T).imp ?_⟩
  rintro vs H Q E ⟨a, ns, rfl, hf, hl, k⟩
  exact ⟨[.fls (ns.map D.int)], fun _ => none, fun d _ => d = .bl true, fun _ _ _ => False, .cons (.fls hf (Rps.of_ints ns)) .nil, fun _ _ z => (by cases z), ⟨ns, rfl, hl, fun _ => rfl⟩,
    fun v d H' A' _ _ r e => (by subst e; rw [r.bl_inv]; exact k H'), fun _ _ _ _ _ _ _ _ z => z.elim⟩
theorem walk {l : PySem.W.OpenLaw} {q : Program} {loose : List Str} {XP : (Str → Option Value) → Heap → Prop} {YP : World → Heap → Prop} {d : DefRec} {K : Params → PySem.W.Frag} (hn : l.most = some 63) (hdf : d.params.defaults = [])
    (hY : ∀ (w : World) (h : Heap), YP w h → (K w.params).In h)
    (F : ∀ (w : World) (mg : Str → Option Value) (fa : Addr) (h : Heap), (K w.params).In h → h.Ns mainGlobals mg → mg d.name = some (.ref fa) →
      ∃ fd : FuncData, (∀ (s : Shared) (u : Value), BindsTo s fd ⟨[u], []⟩ [("_law_script", u)]) ∧ ∀ base : Heap, (K w.params).In base → base.Ns mainGlobals mg → FnOk l.prog w (K w.params) mg base (L2.CX l.prog w) 11 fa fd ["_law_script"] (spEnd (K w.params))) :
    PySem.W.WalkO q loose XP YP l.row.toRowW d [] (fun f vs => PySem.call f vs) :=
  L2.walk_of (n := 63) (k := 11) (x := "_law_script") (CX := fun w => L2.CX l.prog w) (sp := fun w => spEnd (K w.params)) hn (by decide) hdf ⟨rfl, by decide, by decide⟩ hY F (fun _ _ a ns hl ho hS => ⟨a, ns, rfl, .only ho hS, hl, fun _ => rfl⟩)
    fun _ _ _ _ _ z => (by obtain ⟨_, _, _, _, _, _, _, _, _, _, _, _, z⟩ := z; exact z)
end Mu
open PySem PySem.W PyProof.Rows
set_option maxRecDepth 100000 in
set_option maxHeartbeats 0 in
theorem PySem.Challenge.cw_murmur_k14_replicas_start_again_holds : PySem.Challenge.rw_murmur_k14_replicas_start_again.Holds := by
  w_on; o_law; k_head; (case hw => w_witness2)
  k_fill
  refine Mu.walk (l := PySem.Challenge.rw_murmur_k14_replicas_start_again) rfl rfl (fun w h Y => PySem.W.kIn_of Y) ?F
  case F =>
    intro w mg fa h KX G hmg
    refine' Mu.all_mk KX G hmg ?m_REPLICAS ?m_MAX_COUNT ?m_MAX_VALUE ?m_EMPTY ?x_EMPTY ?x_EMPTY_1 ?x_EMPTY_2 ?m_RECORD ?m_MARK ?m_PRIME ?m_SIZES ?x_SIZES ?m_AHEAD ?z_abs ?z_all ?z_bool ?z_int ?z_isinstance ?z_len ?z_list ?z_max ?z_min ?z_range ?z_sorted ?z_super ?z_tuple ?m_Disk ?pg_Disk ?hd_Disk ?po_Disk ?sa_Disk ?mk_Disk ?kc_Disk ?m_Tree ?pg_Tree ?hd_Tree ?po_Tree ?sa_Tree ?mk_Tree ?kc_Tree ?m_Store ?pg_Store ?hd_Store ?po_Store ?sa_Store ?mk_Store ?kc_Store ?m_Replica ?pg_Replica ?hd_Replica ?po_Replica ?sa_Replica ?mk_Replica ?kc_Replica ?a_is_number ?l_is_number ?c_is_number ?k_is_number ?a_covers ?l_covers ?c_covers ?k_covers ?a_joined_seen ?l_joined_seen ?c_joined_seen ?k_joined_seen ?a_code ?l_code ?c_code ?k_code ?a_check_byte ?l_check_byte ?c_check_byte ?k_check_byte ?a_Disk___init__ ?i_Disk___init__ ?l_Disk___init__ ?c_Disk___init__ ?k_Disk___init__ ?a_Disk_sync ?i_Disk_sync ?l_Disk_sync ?c_Disk_sync ?k_Disk_sync ?a_Disk_cut ?i_Disk_cut ?l_Disk_cut ?c_Disk_cut ?k_Disk_cut ?a_Disk_trim ?i_Disk_trim ?l_Disk_trim ?c_Disk_trim ?k_Disk_trim ?a_power ?l_power ?c_power ?k_power ?a_Tree_total ?i_Tree_total ?l_Tree_total ?c_Tree_total ?k_Tree_total ?a_Store_state ?i_Store_state ?l_Store_state ?c_Store_state ?k_Store_state ?a_Store_rows ?i_Store_rows ?l_Store_rows ?c_Store_rows ?k_Store_rows ?a_q_stream ?l_q_stream ?c_q_stream ?k_q_stream ?a_q_take ?l_q_take ?c_q_take ?k_q_take ?a_is_seen ?l_is_seen ?c_is_seen ?k_is_seen ?a_is_version ?l_is_version ?c_is_version ?k_is_version ?a_removed ?l_removed ?c_removed ?k_removed ?a_record ?l_record ?c_record ?k_record ?a_is_record ?l_is_record ?c_is_record ?k_is_record ?a_Tree___init__ ?i_Tree___init__ ?l_Tree___init__ ?c_Tree___init__ ?k_Tree___init__ ?a_Tree_change ?i_Tree_change ?l_Tree_change ?c_Tree_change ?k_Tree_change ?a_Replica_sync ?i_Replica_sync ?l_Replica_sync ?c_Replica_sync ?k_Replica_sync ?a_q_state ?l_q_state ?c_q_state ?k_q_state ?a_is_state ?l_is_state ?c_is_state ?k_is_state ?a_written ?l_written ?c_written ?k_written ?a_Disk_append ?i_Disk_append ?l_Disk_append ?c_Disk_append ?k_Disk_append ?a_Disk_replace ?i_Disk_replace ?l_Disk_replace ?c_Disk_replace ?k_Disk_replace ?a_Store___init__ ?i_Store___init__ ?l_Store___init__ ?c_Store___init__ ?k_Store___init__ ?a_Replica_next_count ?i_Replica_next_count ?l_Replica_next_count ?c_Replica_next_count ?k_Replica_next_count ?a_checked ?l_checked ?c_checked ?k_checked ?a_decoded ?l_decoded ?c_decoded ?k_decoded ?a_Store_total ?i_Store_total ?l_Store_total ?c_Store_total ?k_Store_total ?a_read_record ?l_read_record ?c_read_record ?k_read_record ?a_Store_place ?i_Store_place ?l_Store_place ?c_Store_place ?k_Store_place ?a_Replica___init__ ?i_Replica___init__ ?l_Replica___init__ ?c_Replica___init__ ?k_Replica___init__ ?a_recover ?l_recover ?c_recover ?k_recover ?a_Replica_keep ?i_Replica_keep ?l_Replica_keep ?c_Replica_keep ?k_Replica_keep ?a_Replica_write ?i_Replica_write ?l_Replica_write ?c_Replica_write ?k_Replica_write ?a_Replica_remove ?i_Replica_remove ?l_Replica_remove ?c_Replica_remove ?k_Replica_remove ?a_Replica_crash ?i_Replica_crash ?l_Replica_crash ?c_Replica_crash ?k_Replica_crash ?a_q_after ?l_q_after ?c_q_after ?k_q_after ?a_Replica_pack ?i_Replica_pack ?l_Replica_pack ?c_Replica_pack ?k_Replica_pack ?a_q_full ?l_q_full ?c_q_full ?k_q_full ?a_q_crashed ?l_q_crashed ?c_q_crashed ?k_q_crashed ?a_q_write ?l_q_write ?c_q_write ?k_q_write ?a_q_crash ?l_q_crash ?c_q_crash ?k_q_crash ?a_q_pack ?l_q_pack ?c_q_pack ?k_q_pack ?a_q_step ?l_q_step ?c_q_step ?k_q_step ?a_law ?l_law ?c_law ?k_law ?n_Disk_data ?n_Disk_safe ?n_Replica_counts ?n_Replica_disk ?n_Replica_limits ?n_Replica_number ?n_Replica_store ?n_Replica_waiting ?n_Store_held ?n_Store_size ?n_Store_trees ?n_Tree_nodes ?n_Tree_salt ?n_Tree_size ?htop ?hany ?m_Invalid ?xo_Invalid ?xr_Invalid ?sa_Invalid ?xB_Invalid ?ty_Invalid ?kc_Invalid ?iI_Invalid ?tI_Invalid ?l_Invalid___init__ ?cd_Invalid___init__ ?co_Invalid___init__ ?cv_Invalid___init__ ?cf_Invalid___init__ ?ce_Invalid___init__ ?su_Invalid ?ve_Invalid ?mr_Invalid ?nf_Invalid ?ga_Invalid ?gg_Invalid ?hd_Invalid ?ex_Invalid ?m_Full ?xo_Full ?xr_Full ?sa_Full ?xB_Full ?ty_Full ?kc_Full ?iI_Full ?tI_Full ?l_Full___init__ ?cd_Full___init__ ?co_Full___init__ ?cv_Full___init__ ?cf_Full___init__ ?ce_Full___init__ ?su_Full ?ve_Full ?mr_Full ?nf_Full ?ga_Full ?gg_Full ?hd_Full ?ex_Full
    (case m_REPLICAS => k_is)
    (case m_MAX_COUNT => k_is)
    (case m_MAX_VALUE => k_is)
    (case m_EMPTY => k_is)
    (case x_EMPTY => k_is)
    (case x_EMPTY_1 => k_is)
    (case x_EMPTY_2 => k_is)
    (case m_RECORD => k_is)
    (case m_MARK => k_is)
    (case m_PRIME => k_is)
    (case m_SIZES => k_is)
    (case x_SIZES => k_is)
    (case m_AHEAD => k_is)
    (case z_abs => k_is)
    (case z_all => k_is)
    (case z_bool => k_is)
    (case z_int => k_is)
    (case z_isinstance => k_is)
    (case z_len => k_is)
    (case z_list => k_is)
    (case z_max => k_is)
    (case z_min => k_is)
    (case z_range => k_is)
    (case z_sorted => k_is)
    (case z_super => k_is)
    (case z_tuple => k_is)
    (case m_Disk => k_is)
    (case pg_Disk => k_is)
    (case hd_Disk => k_is)
    (case po_Disk => k_is)
    (case sa_Disk => k_is)
    (case mk_Disk => k_is)
    (case kc_Disk => k_is)
    (case m_Tree => k_is)
    (case pg_Tree => k_is)
    (case hd_Tree => k_is)
    (case po_Tree => k_is)
    (case sa_Tree => k_is)
    (case mk_Tree => k_is)
    (case kc_Tree => k_is)
    (case m_Store => k_is)
    (case pg_Store => k_is)
    (case hd_Store => k_is)
    (case po_Store => k_is)
    (case sa_Store => k_is)
    (case mk_Store => k_is)
    (case kc_Store => k_is)
    (case m_Replica => k_is)
    (case pg_Replica => k_is)
    (case hd_Replica => k_is)
    (case po_Replica => k_is)
    (case sa_Replica => k_is)
    (case mk_Replica => k_is)
    (case kc_Replica => k_is)
    (case a_is_number => k_is)
    (case l_is_number => k_is)
    (case c_is_number => k_is)
    (case k_is_number => k_is)
    (case a_covers => k_is)
    (case l_covers => k_is)
    (case c_covers => k_is)
    (case k_covers => k_is)
    (case a_joined_seen => k_is)
    (case l_joined_seen => k_is)
    (case c_joined_seen => k_is)
    (case k_joined_seen => k_is)
    (case a_code => k_is)
    (case l_code => k_is)
    (case c_code => k_is)
    (case k_code => k_is)
    (case a_check_byte => k_is)
    (case l_check_byte => k_is)
    (case c_check_byte => k_is)
    (case k_check_byte => k_is)
    (case a_Disk___init__ => k_is)
    (case i_Disk___init__ => k_is)
    (case l_Disk___init__ => k_is)
    (case c_Disk___init__ => k_is)
    (case k_Disk___init__ => k_is)
    (case a_Disk_sync => k_is)
    (case i_Disk_sync => k_is)
    (case l_Disk_sync => k_is)
    (case c_Disk_sync => k_is)
    (case k_Disk_sync => k_is)
    (case a_Disk_cut => k_is)
    (case i_Disk_cut => k_is)
    (case l_Disk_cut => k_is)
    (case c_Disk_cut => k_is)
    (case k_Disk_cut => k_is)
    (case a_Disk_trim => k_is)
    (case i_Disk_trim => k_is)
    (case l_Disk_trim => k_is)
    (case c_Disk_trim => k_is)
    (case k_Disk_trim => k_is)
    (case a_power => k_is)
    (case l_power => k_is)
    (case c_power => k_is)
    (case k_power => k_is)
    (case a_Tree_total => k_is)
    (case i_Tree_total => k_is)
    (case l_Tree_total => k_is)
    (case c_Tree_total => k_is)
    (case k_Tree_total => k_is)
    (case a_Store_state => k_is)
    (case i_Store_state => k_is)
    (case l_Store_state => k_is)
    (case c_Store_state => k_is)
    (case k_Store_state => k_is)
    (case a_Store_rows => k_is)
    (case i_Store_rows => k_is)
    (case l_Store_rows => k_is)
    (case c_Store_rows => k_is)
    (case k_Store_rows => k_is)
    (case a_q_stream => k_is)
    (case l_q_stream => k_is)
    (case c_q_stream => k_is)
    (case k_q_stream => k_is)
    (case a_q_take => k_is)
    (case l_q_take => k_is)
    (case c_q_take => k_is)
    (case k_q_take => k_is)
    (case a_is_seen => k_is)
    (case l_is_seen => k_is)
    (case c_is_seen => k_is)
    (case k_is_seen => k_is)
    (case a_is_version => k_is)
    (case l_is_version => k_is)
    (case c_is_version => k_is)
    (case k_is_version => k_is)
    (case a_removed => k_is)
    (case l_removed => k_is)
    (case c_removed => k_is)
    (case k_removed => k_is)
    (case a_record => k_is)
    (case l_record => k_is)
    (case c_record => k_is)
    (case k_record => k_is)
    (case a_is_record => k_is)
    (case l_is_record => k_is)
    (case c_is_record => k_is)
    (case k_is_record => k_is)
    (case a_Tree___init__ => k_is)
    (case i_Tree___init__ => k_is)
    (case l_Tree___init__ => k_is)
    (case c_Tree___init__ => k_is)
    (case k_Tree___init__ => k_is)
    (case a_Tree_change => k_is)
    (case i_Tree_change => k_is)
    (case l_Tree_change => k_is)
    (case c_Tree_change => k_is)
    (case k_Tree_change => k_is)
    (case a_Replica_sync => k_is)
    (case i_Replica_sync => k_is)
    (case l_Replica_sync => k_is)
    (case c_Replica_sync => k_is)
    (case k_Replica_sync => k_is)
    (case a_q_state => k_is)
    (case l_q_state => k_is)
    (case c_q_state => k_is)
    (case k_q_state => k_is)
    (case a_is_state => k_is)
    (case l_is_state => k_is)
    (case c_is_state => k_is)
    (case k_is_state => k_is)
    (case a_written => k_is)
    (case l_written => k_is)
    (case c_written => k_is)
    (case k_written => k_is)
    (case a_Disk_append => k_is)
    (case i_Disk_append => k_is)
    (case l_Disk_append => k_is)
    (case c_Disk_append => k_is)
    (case k_Disk_append => k_is)
    (case a_Disk_replace => k_is)
    (case i_Disk_replace => k_is)
    (case l_Disk_replace => k_is)
    (case c_Disk_replace => k_is)
    (case k_Disk_replace => k_is)
    (case a_Store___init__ => k_is)
    (case i_Store___init__ => k_is)
    (case l_Store___init__ => k_is)
    (case c_Store___init__ => k_is)
    (case k_Store___init__ => k_is)
    (case a_Replica_next_count => k_is)
    (case i_Replica_next_count => k_is)
    (case l_Replica_next_count => k_is)
    (case c_Replica_next_count => k_is)
    (case k_Replica_next_count => k_is)
    (case a_checked => k_is)
    (case l_checked => k_is)
    (case c_checked => k_is)
    (case k_checked => k_is)
    (case a_decoded => k_is)
    (case l_decoded => k_is)
    (case c_decoded => k_is)
    (case k_decoded => k_is)
    (case a_Store_total => k_is)
    (case i_Store_total => k_is)
    (case l_Store_total => k_is)
    (case c_Store_total => k_is)
    (case k_Store_total => k_is)
    (case a_read_record => k_is)
    (case l_read_record => k_is)
    (case c_read_record => k_is)
    (case k_read_record => k_is)
    (case a_Store_place => k_is)
    (case i_Store_place => k_is)
    (case l_Store_place => k_is)
    (case c_Store_place => k_is)
    (case k_Store_place => k_is)
    (case a_Replica___init__ => k_is)
    (case i_Replica___init__ => k_is)
    (case l_Replica___init__ => k_is)
    (case c_Replica___init__ => k_is)
    (case k_Replica___init__ => k_is)
    (case a_recover => k_is)
    (case l_recover => k_is)
    (case c_recover => k_is)
    (case k_recover => k_is)
    (case a_Replica_keep => k_is)
    (case i_Replica_keep => k_is)
    (case l_Replica_keep => k_is)
    (case c_Replica_keep => k_is)
    (case k_Replica_keep => k_is)
    (case a_Replica_write => k_is)
    (case i_Replica_write => k_is)
    (case l_Replica_write => k_is)
    (case c_Replica_write => k_is)
    (case k_Replica_write => k_is)
    (case a_Replica_remove => k_is)
    (case i_Replica_remove => k_is)
    (case l_Replica_remove => k_is)
    (case c_Replica_remove => k_is)
    (case k_Replica_remove => k_is)
    (case a_Replica_crash => k_is)
    (case i_Replica_crash => k_is)
    (case l_Replica_crash => k_is)
    (case c_Replica_crash => k_is)
    (case k_Replica_crash => k_is)
    (case a_q_after => k_is)
    (case l_q_after => k_is)
    (case c_q_after => k_is)
    (case k_q_after => k_is)
    (case a_Replica_pack => k_is)
    (case i_Replica_pack => k_is)
    (case l_Replica_pack => k_is)
    (case c_Replica_pack => k_is)
    (case k_Replica_pack => k_is)
    (case a_q_full => k_is)
    (case l_q_full => k_is)
    (case c_q_full => k_is)
    (case k_q_full => k_is)
    (case a_q_crashed => k_is)
    (case l_q_crashed => k_is)
    (case c_q_crashed => k_is)
    (case k_q_crashed => k_is)
    (case a_q_write => k_is)
    (case l_q_write => k_is)
    (case c_q_write => k_is)
    (case k_q_write => k_is)
    (case a_q_crash => k_is)
    (case l_q_crash => k_is)
    (case c_q_crash => k_is)
    (case k_q_crash => k_is)
    (case a_q_pack => k_is)
    (case l_q_pack => k_is)
    (case c_q_pack => k_is)
    (case k_q_pack => k_is)
    (case a_q_step => k_is)
    (case l_q_step => k_is)
    (case c_q_step => k_is)
    (case k_q_step => k_is)
    (case a_law => k_is)
    (case l_law => k_is)
    (case c_law => k_is)
    (case k_law => k_is)
    (case n_Disk_data => k_is)
    (case n_Disk_safe => k_is)
    (case n_Replica_counts => k_is)
    (case n_Replica_disk => k_is)
    (case n_Replica_limits => k_is)
    (case n_Replica_number => k_is)
    (case n_Replica_store => k_is)
    (case n_Replica_waiting => k_is)
    (case n_Store_held => k_is)
    (case n_Store_size => k_is)
    (case n_Store_trees => k_is)
    (case n_Tree_nodes => k_is)
    (case n_Tree_salt => k_is)
    (case n_Tree_size => k_is)
    (case htop => rfl)
    (case hany => k_is)
    (case m_Invalid => k_is)
    (case xo_Invalid => k_is)
    (case xr_Invalid => rfl)
    (case sa_Invalid => k_is)
    (case xB_Invalid => k_is)
    (case ty_Invalid => k_is)
    (case kc_Invalid => k_is)
    (case iI_Invalid => k_is)
    (case tI_Invalid => k_is)
    (case l_Invalid___init__ => k_is)
    (case cd_Invalid___init__ => k_is)
    (case co_Invalid___init__ => k_is)
    (case cv_Invalid___init__ => rfl)
    (case cf_Invalid___init__ => (first | rfl | decide +kernel))
    (case ce_Invalid___init__ => k_is)
    (case su_Invalid => ks_is)
    (case ve_Invalid => k_is)
    (case mr_Invalid => k_is)
    (case nf_Invalid => k_is)
    (case ga_Invalid => k_is)
    (case gg_Invalid => k_is)
    (case hd_Invalid => k_is)
    (case ex_Invalid => kts_exm)
    (case m_Full => k_is)
    (case xo_Full => k_is)
    (case xr_Full => rfl)
    (case sa_Full => k_is)
    (case xB_Full => k_is)
    (case ty_Full => k_is)
    (case kc_Full => k_is)
    (case iI_Full => k_is)
    (case tI_Full => k_is)
    (case l_Full___init__ => k_is)
    (case cd_Full___init__ => k_is)
    (case co_Full___init__ => k_is)
    (case cv_Full___init__ => rfl)
    (case cf_Full___init__ => (first | rfl | decide +kernel))
    (case ce_Full___init__ => k_is)
    (case su_Full => ks_is)
    (case ve_Full => k_is)
    (case mr_Full => k_is)
    (case nf_Full => k_is)
    (case ga_Full => k_is)
    (case gg_Full => k_is)
    (case hd_Full => k_is)
    (case ex_Full => kts_exm)
#print axioms PySem.Challenge.cw_murmur_k14_replicas_start_again_holds
